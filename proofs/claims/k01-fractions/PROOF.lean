import PyProof.Rows.All
import Wide.All
import OpenK.AllK
import Wide.FinOn
import PySem.Challenge.RW_evenlayers_k01_fractions
import HandS.Base
import HandS.Dict
import HandS.List
import HandS.TupAny
import HandS.Wide
import HandS.Style
import HandS.Deep
import HandS.Gcd
import HandS.IsInst
import HandS.Text
import KE.KMathG
import Flt.RightSqrt
import HandS.Exc
import HandS.ExcOwn
import HandS.Defaults
import HandS.HeadHook1
import HandS.Comp
import HandS.Walk
import HandS.Zip
import HandS.Star
import HandS.TryOnly
import HandS.Iter
import HandS.ExcInit
import HandS.ExcField
import HandS.TryMany
import HandS.HeadHook2
import HandS.HeadEnd
import HandS.Head0
import HandS.Head1
import HandS.Head2
import HandS.HeadHook4
import HandS.Head3
import HandS.Words
section
set_option Elab.async false
set_option linter.all false
set_option maxRecDepth 100000
/-! Ev: a small semantics of a part of Python, by weakest preconditions over plain data and a store. -/
namespace Ev
open PySem

abbrev Key := L2.Key
/-- data: what is immutable stands by value, lists and dicts by their place in the store -/
inductive D where
  | non | bl (b : Bool) | int (i : Int) | str (x : Str) | tup (xs : List D) | ref (n : Nat)
  /-- a list that nobody changes, by value (the script) -/
  | fz (xs : List D)
inductive Ob where
  | lst (xs : List D) | dct (kvs : List (Key × D)) | fdc (kvs : List (Key × D))
abbrev Sto := List Ob
abbrev Env := List (Option D)
abbrev Po := D → Sto → Prop
abbrev Pl := List D → Sto → Prop
abbrev Xo := Nat → List D → Sto → Prop

/-- the kinds that isinstance asks of -/
inductive Ty where
  | non | bool | int | str | tup | lst | dct
  deriving DecidableEq
inductive Bi where
  | abs | len | list | tuple | int | sum | min | max | all | any | gcd | isqrt | sorted | dict | str
  deriving DecidableEq
inductive Me where
  | append | extend | pop
  deriving DecidableEq
inductive Tg where
  | nm (i : Nat) | tp (l : List Nat)

mutual
inductive Ex where
  | var (i : Nat)
  | int (i : Int) | str (x : Str) | bl (b : Bool) | non
  | glo (x : Str) (d : D)
  | bin (o : Operator) (a b : Ex)
  | neg (a : Ex) | nt (a : Ex)
  | cmp (o : CmpOp) (a b : Ex)
  | chain (o o' : CmpOp) (a b c : Ex)
  | and (a b : Ex) | or (a b : Ex)
  | ife (c a b : Ex)
  | tup (es : Exs) | lst (es : Exs)
  | ix (a i : Ex)
  | slc (a : Ex) (lo hi : Pt)
  | call (f : Nat) (es : Exs)
  | callk (f : Nat) (es : Exs) (ks : List Str) (vs : Exs) (pm : List Nat)
  | bi (b : Bi) (es : Exs)
  | isi (a : Ex) (ts : List Ty)
  | meth (m : Me) (o : Ex) (es : Exs)
  | comp (elt : Ex) (tg : Tg) (it : Itx) (ifs : Exs) (own : List Nat)
  | dict (ks : List Str) (vs : Exs)
inductive Exs where
  | nil | cons (e : Ex) (es : Exs) | star (e : Ex) (es : Exs)
inductive Pt where
  | no | at (e : Ex)
inductive Itx where
  | val (e : Ex) | rng (es : Exs) | zip (a b : Ex) | enum (a : Ex)
end

/-- an except suite's answer -/
inductive Hx where
  | str (x : Str) | non | int (i : Int) | bl (b : Bool) | fld (k : Nat) | lst (l : List Hx) | tup (l : List Hx) | isi (c : Nat)
inductive St where
  | skip | seq (s t : St)
  | set (i : Nat) (e : Ex)
  | tset (l : List Nat) (e : Ex)
  | par (l : List Nat) (es : Exs)
  | iset (o i e : Ex)
  | expr (e : Ex)
  | ret (e : Ex) | retN
  | ite (c : Ex) (s t : St)
  | loop (tg : Tg) (it : Itx) (s : St)
  | brk | cnt
  | raise (c : Nat) (es : Exs)
  | tri (s : St) (hs : List (Nat × Option Nat × Hx))

/-! ### by values -/
/-- what a dict holds at a key; a dict with a key's value put: in its place, or behind; several -/
def lookD (kvs : List (Key × D)) (k : Key) : Option D := (kvs.find? fun p => decide (p.1 = k)).map (·.2)
def putD (kvs : List (Key × D)) (k : Key) (v : D) : List (Key × D) :=
  if (kvs.any fun p => decide (p.1 = k)) = true then kvs.map (fun p => if p.1 = k then (p.1, v) else p) else kvs ++ [(k, v)]
def mergeD (kvs more : List (Key × D)) : List (Key × D) := more.foldl (fun acc p => putD acc p.1 p.2) kvs
def most : Nat := 1000000
theorem most_eq : most = 1000000 := rfl
def lstAt (S : Sto) (n : Nat) : Option (List D) := match S[n]? with
  | some (.lst xs) => some xs
  | _ => none
def dctAt (S : Sto) (n : Nat) : Option (List (Key × D)) := match S[n]? with
  | some (.dct xs) => some xs
  | some (.fdc xs) => some xs
  | _ => none
def seqOf (S : Sto) : D → Option (List D)
  | .tup xs => some xs
  | .ref n => lstAt S n
  | .fz xs => some xs
  | _ => none
/-- a product's and a quotient's sizes -/
def MulOk (i j : Int) : Prop := i.natAbs.log2 + j.natAbs.log2 < 1000000
def DivOk (_ j : Int) : Prop := j ≠ 0 ∧ j.natAbs.log2 < 9000
def PowOk (i j : Int) : Prop := 0 ≤ j ∧ j ≤ 1000000 ∧ i.natAbs < 2 ^ 64
def opSem (o : Operator) (x y : D) (S : Sto) (Q : Po) : Prop := match o, x, y with
  | .Add, .int i, .int j => Q (.int (i + j)) S
  | .Add, .tup a, .tup b => a.length + b.length ≤ most ∧ Q (.tup (a ++ b)) S
  | .Add, .ref n, .ref m => ∃ a b, lstAt S n = some a ∧ lstAt S m = some b ∧ a.length + b.length ≤ most ∧ Q (.ref S.length) (S ++ [.lst (a ++ b)])
  | .Add, .str a, .str b => a.length + b.length ≤ most ∧ Q (.str (a ++ b)) S
  | .Sub, .int i, .int j => Q (.int (i - j)) S
  | .Mult, .int i, .int j => MulOk i j ∧ Q (.int (i * j)) S
  | .Mult, .ref n, .int k => ∃ a, lstAt S n = some a ∧ 0 ≤ k ∧ k ≤ 1000 ∧ a.length ≤ 1000 ∧ Q (.ref S.length) (S ++ [.lst (List.replicate k.toNat a).flatten])
  | .FloorDiv, .int i, .int j => DivOk i j ∧ Q (.int (i.fdiv j)) S
  | .Mod, .int i, .int j => j ≠ 0 ∧ Q (.int (i.fmod j)) S
  | .Pow, .int i, .int j => PowOk i j ∧ Q (.int (i ^ j.toNat)) S
  | _, _, _ => False

/-! ### trees: what == compares -/
mutual
inductive Tree (S : Sto) : D → PyData → Prop
  | non : Tree S .non .none
  | bl (b : Bool) : Tree S (.bl b) (.bool b)
  | int (i : Int) : Tree S (.int i) (.int i)
  | str (x : Str) : Tree S (.str x) (.str x)
  | tup {xs : List D} {ts : List PyData} : Trees S xs ts → Tree S (.tup xs) (.tuple ts)
  | lst {n : Nat} {xs : List D} {ts : List PyData} : lstAt S n = some xs → Trees S xs ts → Tree S (.ref n) (.list ts)
inductive Trees (S : Sto) : List D → List PyData → Prop
  | nil : Trees S [] []
  | cons {x : D} {xs : List D} {t : PyData} {ts : List PyData} : Tree S x t → Trees S xs ts → Trees S (x :: xs) (t :: ts)
end
def eqSem (x y : D) (S : Sto) (k : Bool → Prop) : Prop := ∃ t u, Tree S x t ∧ Tree S y u ∧ SeqAt.shaped t = true ∧ SeqAt.shaped u = true ∧ k (PyData.eqv t u)
/-- is it a key that stands in the dict -/
def keyOf : D → Option Key
  | .int i => some (.inl i)
  | .str x => some (.inr x)
  | _ => none
def inSem (x y : D) (S : Sto) (k : Bool → Prop) : Prop := match y with
  | .tup ys => ∃ t us, Tree S x t ∧ Trees S ys us ∧ SeqAt.shaped t = true ∧ SeqAt.shaped (.tuple us) = true ∧ k (us.any fun u => PyData.eqv u t)
  | .str z => ∃ w, x = .str w ∧ k (!(Builtin.Str.occurrences z w 0 z.length 1).isEmpty)
  | .ref n => (∃ ys t us, lstAt S n = some ys ∧ Tree S x t ∧ Trees S ys us ∧ SeqAt.shaped t = true ∧ SeqAt.shaped (.list us) = true ∧ k (us.any fun u => PyData.eqv u t)) ∨
      (∃ kvs ky, dctAt S n = some kvs ∧ keyOf x = some ky ∧ k (lookD kvs ky).isSome)
  | _ => False
def isNon : D → Bool
  | .non => true
  | _ => false
def isSem (x y : D) (k : Bool → Prop) : Prop := match y with
  | .non => k (isNon x)
  | .bl b => ∃ a, x = .bl a ∧ k (decide (a = b))
  | _ => False
def cmpSem (o : CmpOp) (x y : D) (S : Sto) (k : Bool → Prop) : Prop := match o with
  | .Eq => eqSem x y S k
  | .NotEq => eqSem x y S fun b => k (!b)
  | .Lt => ∃ i j, x = .int i ∧ y = .int j ∧ k (decide (i < j))
  | .LtE => ∃ i j, x = .int i ∧ y = .int j ∧ k (decide (i ≤ j))
  | .Gt => ∃ i j, x = .int i ∧ y = .int j ∧ k (decide (j < i))
  | .GtE => ∃ i j, x = .int i ∧ y = .int j ∧ k (decide (j ≤ i))
  | .Is => isSem x y k
  | .IsNot => isSem x y fun b => k (!b)
  | .In => inSem x y S k
  | .NotIn => inSem x y S fun b => k (!b)
def tyOf (S : Sto) : D → Option Ty
  | .non => some .non
  | .bl _ => some .bool
  | .int _ => some .int
  | .str _ => some .str
  | .tup _ => some .tup
  | .ref n => match S[n]? with
    | some (.lst _) => some .lst
    | some (.dct _) => some .dct
    | some (.fdc _) => some .dct
    | none => none
  | .fz _ => some .lst
def subTy : Ty → Ty → Bool
  | .bool, .int => true
  | a, b => decide (a = b)
/-- an item's place -/
def place (n : Nat) (i : Int) : Option Nat := if 0 ≤ i then (if i < n then some i.toNat else none) else if -(n : Int) ≤ i then some (i + n).toNat else none
def ixSem (x i : D) (S : Sto) (Q : Po) : Prop := match x with
  | .tup xs => ∃ k j v, i = .int k ∧ place xs.length k = some j ∧ xs[j]? = some v ∧ Q v S
  | .fz xs => ∃ k j v, i = .int k ∧ place xs.length k = some j ∧ xs[j]? = some v ∧ Q v S
  | .ref n => (∃ xs k j v, lstAt S n = some xs ∧ i = .int k ∧ place xs.length k = some j ∧ xs[j]? = some v ∧ Q v S) ∨
      (∃ kvs ky v, dctAt S n = some kvs ∧ keyOf i = some ky ∧ lookD kvs ky = some v ∧ Q v S)
  | .str z => ∃ k j c, i = .int k ∧ place z.cps.toList.length k = some j ∧ z.cps.toList[j]? = some c ∧ z.length ≤ most ∧ Q (.str ⟨#[c]⟩) S
  | _ => False
/-- a slice's end -/
def clip (n d : Nat) : Option Int → Nat
  | none => d
  | some v => if v < 0 then (v + (n : Int)).toNat else min v.toNat n
def cut {α : Type} (xs : List α) (lo hi : Option Int) : List α := (xs.drop (clip xs.length 0 lo)).take (clip xs.length xs.length hi - clip xs.length 0 lo)
def slSem (x : D) (lo hi : Option Int) (S : Sto) (Q : Po) : Prop := match x with
  | .tup xs => Q (.tup (cut xs lo hi)) S
  | .ref n => ∃ xs, lstAt S n = some xs ∧ Q (.ref S.length) (S ++ [.lst (cut xs lo hi)])
  | .fz xs => Q (.ref S.length) (S ++ [.lst (cut xs lo hi)])
  | .str z => z.length ≤ most ∧ Q (.str ⟨(cut z.cps.toList lo hi).toArray⟩) S
  | _ => False
/-- ints of a list -/
def intsD : List D → Option (List Int)
  | [] => some []
  | .int i :: r => (intsD r).map (i :: ·)
  | _ => none
def boolsD : List D → Option (List Bool)
  | [] => some []
  | .bl b :: r => (boolsD r).map (b :: ·)
  | _ => none
/-- pairs of a key and a value -/
def pairsOf : List D → Option (List (Key × D))
  | [] => some []
  | .tup [k, v] :: r => match keyOf k with
    | some ky => (pairsOf r).map ((ky, v) :: ·)
    | none => none
  | _ => none
def biSem (b : Bi) (ds : List D) (S : Sto) (Q : Po) : Prop := match b, ds with
  | .abs, [.int i] => Q (.int (if i < 0 then -i else i)) S
  | .len, [.tup xs] => Q (.int (xs.length : Nat)) S
  | .len, [.fz xs] => Q (.int (xs.length : Nat)) S
  | .len, [.str z] => z.length ≤ most ∧ Q (.int (z.length : Nat)) S
  | .len, [.ref n] => (∃ xs, lstAt S n = some xs ∧ Q (.int (xs.length : Nat)) S) ∨ (∃ kvs, dctAt S n = some kvs ∧ Q (.int (kvs.length : Nat)) S)
  | .list, [x] => ∃ xs, seqOf S x = some xs ∧ Q (.ref S.length) (S ++ [.lst xs])
  | .tuple, [x] => ∃ xs, seqOf S x = some xs ∧ Q (.tup xs) S
  | .int, [.int i] => Q (.int i) S
  | .int, [.bl k] => Q (.int (if k then 1 else 0)) S
  | .sum, [.ref n] => ∃ xs ns, lstAt S n = some xs ∧ intsD xs = some ns ∧ Q (.int ns.sum) S
  | .min, [.int i, .int j] => Q (.int (if j < i then j else i)) S
  | .max, [.int i, .int j] => Q (.int (if j > i then j else i)) S
  | .max, [.ref n] => ∃ xs ns m, lstAt S n = some xs ∧ intsD xs = some ns ∧ m ∈ ns ∧ (∀ y, y ∈ ns → y ≤ m) ∧ Q (.int m) S
  | .min, [.ref n] => ∃ xs ns m, lstAt S n = some xs ∧ intsD xs = some ns ∧ m ∈ ns ∧ (∀ y, y ∈ ns → m ≤ y) ∧ Q (.int m) S
  | .all, [.ref n] => ∃ xs bs, lstAt S n = some xs ∧ boolsD xs = some bs ∧ Q (.bl (bs.all id)) S
  | .any, [.ref n] => ∃ xs bs, lstAt S n = some xs ∧ boolsD xs = some bs ∧ Q (.bl (bs.any id)) S
  | .gcd, [.int i, .int j] => Q (.int ((Nat.gcd i.natAbs j.natAbs : Nat) : Int)) S
  | .isqrt, [.int i] => ∃ r : Nat, 0 ≤ i ∧ i.toNat.log2 ≤ 13000 ∧ r * r ≤ i.toNat ∧ i.toNat < (r + 1) * (r + 1) ∧ Q (.int (r : Int)) S
  | .dict, [.ref n] => ∃ xs kvs, lstAt S n = some xs ∧ pairsOf xs = some kvs ∧ Q (.ref S.length) (S ++ [.dct (mergeD [] kvs)])
  | _, _ => False
def meSem (m : Me) (x : D) (ds : List D) (S : Sto) (Q : Po) : Prop := match m, x, ds with
  | .append, .ref n, [y] => ∃ xs, lstAt S n = some xs ∧ xs.length < most ∧ Q .non (S.set n (.lst (xs ++ [y])))
  | .extend, .ref n, [.ref k] => ∃ xs ys, n ≠ k ∧ lstAt S n = some xs ∧ lstAt S k = some ys ∧ xs.length + ys.length ≤ most ∧ Q .non (S.set n (.lst (xs ++ ys)))
  | .pop, .ref n, [] => ∃ xs y, lstAt S n = some (xs ++ [y]) ∧ Q y (S.set n (.lst xs))
  | .pop, .ref n, [.int i] => ∃ xs j y, lstAt S n = some xs ∧ place xs.length i = some j ∧ xs[j]? = some y ∧ Q y (S.set n (.lst (xs.eraseIdx j)))
  | _, _, _ => False
def setSem (o i v : D) (S : Sto) (k : Sto → Prop) : Prop := match o with
  | .ref n => (∃ xs j p, lstAt S n = some xs ∧ i = .int j ∧ place xs.length j = some p ∧ k (S.set n (.lst (xs.set p v)))) ∨
      (∃ kvs ky, S[n]? = some (.dct kvs) ∧ keyOf i = some ky ∧ kvs.length < 1000 ∧ k (S.set n (.dct (putD kvs ky v))))
  | _ => False
def putAll : Env → List Nat → List D → Env
  | env, i :: l, d :: ds => putAll (env.set i (some d)) l ds
  | env, _, _ => env
def unpack (n : Nat) (d : D) (S : Sto) (k : List D → Prop) : Prop := match d with
  | .tup xs => xs.length = n ∧ k xs
  | .ref m => ∃ xs, lstAt S m = some xs ∧ xs.length = n ∧ k xs
  | _ => False
def tgSem (t : Tg) (d : D) (env : Env) (S : Sto) (k : Env → Prop) : Prop := match t with
  | .nm i => k (env.set i (some d))
  | .tp l => unpack l.length d S fun ds => k (putAll env l ds)
/-- a source of items: what must stay while it is walked, the items -/
structure Src where
  ok : Sto → Prop
  items : List D
def wipe : Env → List Nat → Env
  | env, [] => env
  | env, v :: vs => (wipe env vs).set v none
/-- the items one by one, what is made collected -/
def gather (ok : Sto → Prop) (f : D → Sto → (Option D → Sto → Prop) → Prop) : List D → List D → Sto → Pl → Prop
  | [], acc, S, Q => ok S ∧ Q acc S
  | x :: xs, acc, S, Q => ok S ∧ f x S fun oy S' => match oy with
    | some y => acc.length < most ∧ gather ok f xs (acc ++ [y]) S' Q
    | none => gather ok f xs acc S' Q
/-- lo, lo + 1, .. -/
def rangeD (lo hi : Int) : List D := (List.range (hi - lo).toNat).map fun (k : Nat) => .int (lo + (k : Int))
def srcRng (ds : List D) (k : Src → Prop) : Prop := match ds with
  | [.int j] => -(2 ^ 62) ≤ j ∧ j < 2 ^ 62 ∧ k ⟨fun _ => True, rangeD 0 j⟩
  | [.int i, .int j] => (-(2 ^ 62) ≤ i ∧ i < 2 ^ 62 ∧ -(2 ^ 62) ≤ j ∧ j < 2 ^ 62) ∧ k ⟨fun _ => True, rangeD i j⟩
  | _ => False
def srcZip (x y : D) (S : Sto) (k : Src → Prop) : Prop := match x, y with
  | .tup xs, .tup ys => k ⟨fun _ => True, (xs.zip ys).map fun p => .tup [p.1, p.2]⟩
  | .ref n, .ref m => ∃ xs ys, lstAt S n = some xs ∧ lstAt S m = some ys ∧ k ⟨fun T => lstAt T n = some xs ∧ lstAt T m = some ys, (xs.zip ys).map fun p => .tup [p.1, p.2]⟩
  | _, _ => False
def enumD : Nat → List D → List D
  | _, [] => []
  | i, x :: xs => .tup [.int (i : Int), x] :: enumD (i + 1) xs
def srcEnum (x : D) (S : Sto) (k : Src → Prop) : Prop := match x with
  | .ref n => ∃ xs, lstAt S n = some xs ∧ k ⟨fun T => lstAt T n = some xs, enumD 0 xs⟩
  | _ => False
def keyD : Key → D
  | .inl i => .int i
  | .inr x => .str x
/-- over a value; with lk a dict may be walked, locked meanwhile (the store within, what comes back behind) -/
def srcVal (lk : Bool) (x : D) (S : Sto) (k : Src → Sto → (Sto → Sto) → Prop) : Prop := match x with
  | .tup xs => k ⟨fun _ => True, xs⟩ S id
  | .fz xs => k ⟨fun _ => True, xs⟩ S id
  | .ref n => (∃ xs, lstAt S n = some xs ∧ k ⟨fun T => lstAt T n = some xs, xs⟩ S id) ∨
      (lk = true ∧ ∃ kvs, S[n]? = some (.dct kvs) ∧ k ⟨fun T => T[n]? = some (.fdc kvs), kvs.map fun p => keyD p.1⟩ (S.set n (.fdc kvs)) fun T => T.set n (.dct kvs))
  | _ => False

def isVar : Ex → Bool
  | .var _ => true
  | _ => false
/-- the values of a call with keywords, in the parameters' order -/
def kwG {α : Type} (z : α) (n m : Nat) (pm : List Nat) (us ws : List α) : List α := if us.length = n ∧ ws.length = m then pm.map fun j => (us ++ ws).getD j z else []
def exLen : Exs → Nat
  | .nil => 0
  | .cons _ r => exLen r + 1
  | .star _ r => exLen r + 1
/-! ### the semantics -/
/-- what a call by number does: the arguments, the store, what is wanted, what of exceptions -/
abbrev Orc := Nat → List D → Sto → Po → Xo → Prop
def noX : Xo := fun _ _ _ => False
mutual
def wpE (C : Orc) : Ex → Env → Sto → Po → Xo → Prop
  | .var i, env, S, Q, _ => ∃ d, env[i]? = some (some d) ∧ Q d S
  | .int i, _, S, Q, _ => Q (.int i) S
  | .str x, _, S, Q, _ => Q (.str x) S
  | .bl b, _, S, Q, _ => Q (.bl b) S
  | .non, _, S, Q, _ => Q .non S
  | .glo _ d, _, S, Q, _ => Q d S
  | .bin o a b, env, S, Q, E => wpE C a env S (fun x S1 => wpE C b env S1 (fun y S2 => opSem o x y S2 Q) E) E
  | .neg a, env, S, Q, E => wpE C a env S (fun x S1 => ∃ i, x = .int i ∧ Q (.int (-i)) S1) E
  | .nt a, env, S, Q, E => wpE C a env S (fun x S1 => ∃ b, x = .bl b ∧ Q (.bl (!b)) S1) E
  | .cmp o a b, env, S, Q, E => wpE C a env S (fun x S1 => wpE C b env S1 (fun y S2 => cmpSem o x y S2 fun r => Q (.bl r) S2) E) E
  | .chain o o' a b c, env, S, Q, E => wpE C a env S (fun x S1 => wpE C b env S1 (fun y S2 => cmpSem o x y S2 fun r =>
      (r = true → wpE C c env S2 (fun z S3 => cmpSem o' y z S3 fun r' => Q (.bl r') S3) E) ∧ (r = false → Q (.bl false) S2)) E) E
  | .and a b, env, S, Q, E => wpE C a env S (fun x S1 => ∃ r, x = .bl r ∧ (r = true → wpE C b env S1 Q E) ∧ (r = false → Q (.bl false) S1)) E
  | .or a b, env, S, Q, E => wpE C a env S (fun x S1 => ∃ r, x = .bl r ∧ (r = true → Q (.bl true) S1) ∧ (r = false → wpE C b env S1 Q E)) E
  | .ife c a b, env, S, Q, E => wpE C c env S (fun x S1 => ∃ r, x = .bl r ∧ (r = true → wpE C a env S1 Q E) ∧ (r = false → wpE C b env S1 Q E)) E
  | .tup es, env, S, Q, E => wpEs C es env S (fun ds S1 => ds.length ≤ most ∧ Q (.tup ds) S1) E
  | .lst es, env, S, Q, E => wpEs C es env S (fun ds S1 => ds.length ≤ most ∧ Q (.ref S1.length) (S1 ++ [.lst ds])) E
  | .ix a i, env, S, Q, E => wpE C a env S (fun x S1 => wpE C i env S1 (fun y S2 => ixSem x y S2 Q) E) E
  | .slc a lo hi, env, S, Q, E => wpE C a env S (fun x S1 => wpP C lo env S1 (fun l S2 => wpP C hi env S2 (fun h S3 => slSem x l h S3 Q) E) E) E
  | .call f es, env, S, Q, E => wpEs C es env S (fun ds S1 => C f ds S1 Q E) E
  | .callk f es ks vs pm, env, S, Q, E => wpEs C es env S (fun ds S1 => wpEs C vs env S1 (fun zs S2 => C f (kwG .non (exLen es) ks.length pm ds zs) S2 Q E) E) E
  | .bi b es, env, S, Q, E => wpEs C es env S (fun ds S1 => biSem b ds S1 Q) E
  | .isi a ts, env, S, Q, E => wpE C a env S (fun x S1 => ∃ t, tyOf S1 x = some t ∧ Q (.bl (ts.any (subTy t))) S1) E
  | .meth m o es, env, S, Q, E => wpE C o env S (fun x S1 => (∃ n xs, x = .ref n ∧ lstAt S1 n = some xs) ∧ wpEs C es env S1 (fun ds S2 => meSem m x ds S2 Q) E) E
  | .comp elt tg it ifs own, env, S, Q, E => wpI C true it env S (fun src S1 back => gather src.ok
      (fun x S2 k => tgSem tg x (wipe env own) S2 fun env1 => wpT C ifs env1 S2 fun r S3 => (r = true → wpE C elt env1 S3 (fun y S4 => k (some y) S4) noX) ∧ (r = false → k none S3))
      src.items [] S1 fun ds S5 => Q (.ref S5.length) (back S5 ++ [.lst ds])) E
  | .dict ks vs, env, S, Q, E => wpEs C vs env S (fun ds S1 => ks.length = ds.length ∧ ks.length ≤ 15 ∧ Q (.ref S1.length) (S1 ++ [.dct (mergeD [] ((ks.map fun x => (Sum.inr x : Key)).zip ds))])) E
/-- a part of a slice -/
def wpP (C : Orc) : Pt → Env → Sto → (Option Int → Sto → Prop) → Xo → Prop
  | .no, _, S, Q, _ => Q none S
  | .at e, env, S, Q, E => wpE C e env S (fun z S2 => ∃ k, z = .int k ∧ Q (some k) S2) E
def wpEs (C : Orc) : Exs → Env → Sto → Pl → Xo → Prop
  | .nil, _, S, Q, _ => Q [] S
  | .cons e es, env, S, Q, E => wpE C e env S (fun x S1 => wpEs C es env S1 (fun ds S2 => Q (x :: ds) S2) E) E
  | .star e es, env, S, Q, E => wpE C e env S (fun x S1 => ∃ xs, seqOf S1 x = some xs ∧ wpEs C es env S1 (fun ds S2 => Q (xs ++ ds) S2) E) E
/-- tests of a comprehension -/
def wpT (C : Orc) : Exs → Env → Sto → (Bool → Sto → Prop) → Prop
  | .nil, _, S, Q => Q true S
  | .cons e _, env, S, Q => wpE C e env S (fun x S1 => ∃ r, x = .bl r ∧ Q r S1) noX
  | .star _ _, _, _, _ => False
def wpI (C : Orc) (lk : Bool) : Itx → Env → Sto → (Src → Sto → (Sto → Sto) → Prop) → Xo → Prop
  | .val e, env, S, Q, E => wpE C e env S (fun x S1 => srcVal (lk && isVar e) x S1 Q) E
  | .rng es, env, S, Q, E => wpEs C es env S (fun ds S1 => srcRng ds fun s => Q s S1 id) E
  | .zip a b, env, S, Q, E => wpE C a env S (fun x S1 => wpE C b env S1 (fun y S2 => srcZip x y S2 fun s => Q s S2 id) E) E
  | .enum a, env, S, Q, E => wpE C a env S (fun x S1 => srcEnum x S1 fun s => Q s S1 id) E
end
/-- what is wanted behind a statement -/
structure Kn where
  nx : Env → Sto → Prop
  rt : Po
  bk : Env → Sto → Prop
  ct : Env → Sto → Prop
  xc : Xo
/-- an except suite's answer, of the error's class and fields -/
def hxD (c : Nat) (fs : List D) : Hx → Sto → (D → Sto → Prop) → Prop
  | .str x, S, k => k (.str x) S
  | .non, S, k => k .non S
  | .int i, S, k => k (.int i) S
  | .bl b, S, k => k (.bl b) S
  | .fld j, S, k => ∃ d, fs[j]? = some d ∧ k d S
  | .isi _, _, _ => False
  | .lst l, S, k => hxL c fs l S fun ds S1 => ds.length ≤ most ∧ k (.ref S1.length) (S1 ++ [.lst ds])
  | .tup l, S, k => hxL c fs l S fun ds S1 => ds.length ≤ most ∧ k (.tup ds) S1
where
  hxL (c : Nat) (fs : List D) : List Hx → Sto → (List D → Sto → Prop) → Prop
  | [], S, k => k [] S
  | h :: hs, S, k => hxD c fs h S fun d S1 => hxL c fs hs S1 fun ds S2 => k (d :: ds) S2
/-- the clauses, one behind the other (sub: is a class below another one) -/
def catch_ (sub : Nat → Nat → Bool) (rt : Po) (out : Xo) : List (Nat × Hx) → Xo
  | [], c, fs, S => out c fs S
  | (k, h) :: r, c, fs, S => (sub c k = true → hxD c fs h S rt) ∧ (sub c k = false → catch_ sub rt out r c fs S)
/-- a for over items -/
def walk (ok : Sto → Prop) (g : D → Env → Sto → (Env → Prop) → Prop) (body : Env → Sto → Kn → Prop) : List D → Env → Sto → Kn → Prop
  | [], env, S, K => ok S ∧ K.nx env S
  | x :: xs, env, S, K => ok S ∧ g x env S fun env1 => body env1 S { K with nx := fun e T => walk ok g body xs e T K, ct := fun e T => walk ok g body xs e T K, bk := K.nx }
def wpS (C : Orc) (sub : Nat → Nat → Bool) : St → Env → Sto → Kn → Prop
  | .skip, env, S, K => K.nx env S
  | .seq s t, env, S, K => wpS C sub s env S { K with nx := fun e T => wpS C sub t e T K }
  | .set i e, env, S, K => wpE C e env S (fun x S1 => K.nx (env.set i (some x)) S1) K.xc
  | .tset l e, env, S, K => wpE C e env S (fun x S1 => unpack l.length x S1 fun ds => K.nx (putAll env l ds) S1) K.xc
  | .par l es, env, S, K => wpEs C es env S (fun ds S1 => ds.length = l.length ∧ K.nx (putAll env l ds) S1) K.xc
  | .iset o i e, env, S, K => wpE C e env S (fun v S1 => wpE C o env S1 (fun x S2 => wpE C i env S2 (fun y S3 => setSem x y v S3 fun T => K.nx env T) K.xc) K.xc) K.xc
  | .expr e, env, S, K => wpE C e env S (fun _ S1 => K.nx env S1) K.xc
  | .ret e, env, S, K => wpE C e env S K.rt K.xc
  | .retN, _, S, K => K.rt .non S
  | .ite c s t, env, S, K => wpE C c env S (fun x S1 => ∃ r, x = .bl r ∧ (r = true → wpS C sub s env S1 K) ∧ (r = false → wpS C sub t env S1 K)) K.xc
  | .loop tg it s, env, S, K => wpI C false it env S (fun src S1 _ => walk src.ok (tgSem tg) (wpS C sub s) src.items env S1 K) K.xc
  | .brk, env, S, K => K.bk env S
  | .cnt, env, S, K => K.ct env S
  | .raise c es, env, S, K => wpEs C es env S (fun ds S1 => ds.length = exLen es ∧ K.xc c ds S1) K.xc
  | .tri s hs, env, S, K => wpS C sub s env S { K with xc := catch_ sub K.rt K.xc (hs.map fun q => (q.1, q.2.2)) }
/-- a def: its parameters' number, its slots' number, its body -/
structure Fn where
  ps : Nat
  sl : Nat
  body : St
def begin_ (f : Fn) (ds : List D) : Env := ds.map some ++ List.replicate (f.sl - ds.length) none
/-- the calls of a program, so many levels deep -/
def run (sub : Nat → Nat → Bool) (T : List Fn) : Nat → Orc
  | 0 => fun _ _ _ _ _ => False
  | n + 1 => fun f ds S Q E => ∃ fn, T[f]? = some fn ∧ ds.length = fn.ps ∧ wpS (run sub T n) sub fn.body (begin_ fn ds) S ⟨fun _ S1 => Q .non S1, Q, fun _ _ => False, fun _ _ => False, E⟩
end Ev
end
section
set_option Elab.async false
set_option linter.all false
set_option maxRecDepth 100000
/-! Ev's states over the hand layer's heap. -/
namespace Ev
open PySem PySem.Spec PyProof.Rows L2
/-- a list of the written part, or a locked one -/
def SqK (K : PySem.W.Frag) (a : Addr) (xs : List V) : Prop :=
  ∃ (o : Obj) (its : Array Value) (n : Nat), K.lookup a = some o ∧ o.cls = .type "list" ∧ o.dict = none ∧ o.data = .seq its n ∧ its.size ≤ sizeLine ∧ Vals xs its.toList
def FzL (K : PySem.W.Frag) (H : Hp) (a : Addr) (xs : List V) : Prop := (∃ o, H a = some (.frz o (.lst xs))) ∨ SqK K a xs
mutual
inductive Rep (K : PySem.W.Frag) (H : Hp) (as : List Addr) : D → V → Prop
  | non : Rep K H as .non .non
  | bl (b : Bool) : Rep K H as (.bl b) (.bl b)
  | int (i : Int) : Rep K H as (.int i) (.int i)
  | str (x : Str) : Rep K H as (.str x) (.str x)
  | tup {xs : List D} {a : Addr} {vs : List V} : SqT K H a vs → Reps K H as xs vs → Rep K H as (.tup xs) (.ref a)
  | ref {n : Nat} {a : Addr} : as[n]? = some a → Rep K H as (.ref n) (.ref a)
  | fz {xs : List D} {a : Addr} {vs : List V} : FzL K H a vs → Reps K H as xs vs → Rep K H as (.fz xs) (.ref a)
inductive Reps (K : PySem.W.Frag) (H : Hp) (as : List Addr) : List D → List V → Prop
  | nil : Reps K H as [] []
  | cons {x : D} {v : V} {xs : List D} {vs : List V} : Rep K H as x v → Reps K H as xs vs → Reps K H as (x :: xs) (v :: vs)
end
/-- pairs of keys and values -/
def RepK (K : PySem.W.Frag) (H : Hp) (as : List Addr) : List (Key × D) → List (Key × V) → Prop := Paired fun p q => p.1 = q.1 ∧ Rep K H as p.2 q.2
def ObAt (K : PySem.W.Frag) (H : Hp) (as : List Addr) (a : Addr) : Ob → Prop
  | .lst xs => ∃ vs, H a = some (.lst vs) ∧ Reps K H as xs vs
  | .dct kvs => ∃ ws, H a = some (.dK ws) ∧ RepK K H as kvs ws
  | .fdc kvs => ∃ o ws, H a = some (.frz o (.dK ws)) ∧ RepK K H as kvs ws
structure Sim (K : PySem.W.Frag) (H : Hp) (as : List Addr) (S : Sto) : Prop where
  len : as.length = S.length
  at_ : ∀ (i : Nat) (o : Ob), S[i]? = some o → ∃ a, as[i]? = some a ∧ ObAt K H as a o
  ne : ∀ (i j : Nat) (a : Addr) (o u : Ob), as[i]? = some a → as[j]? = some a → S[i]? = some o → S[j]? = some u → i = j
/-- what a step may change -/
structure Ext (as as' : List Addr) (H H' : Hp) : Prop where
  pre : ∀ (i : Nat) (a : Addr), as[i]? = some a → as'[i]? = some a
  new : ∀ a, a ∈ as' → a ∉ as → H a = none
  out : ∀ b o, b ∉ as → H b = some o → H' b = some o
  tup : ∀ b xs, H b = some (.tup xs) → H' b = some (.tup xs)
  frz : ∀ b o u, H b = some (.frz o u) → H' b = some (.frz o u)
/-- what values need -/
structure Wk (as as' : List Addr) (H H' : Hp) : Prop where
  pre : ∀ (i : Nat) (a : Addr), as[i]? = some a → as'[i]? = some a
  tup : ∀ b xs, H b = some (.tup xs) → H' b = some (.tup xs)
  frz : ∀ b o u, (∀ ws, u ≠ .dK ws) → H b = some (.frz o u) → H' b = some (.frz o u)
theorem Ext.wk {as as' : List Addr} {H H' : Hp} (x : Ext as as' H H') : Wk as as' H H' := ⟨x.pre, x.tup, fun b o u _ h => x.frz b o u h⟩
section
variable {K : PySem.W.Frag} {H H' H1 H2 : Hp} {as as' as1 as2 : List Addr} {S S' : Sto} {d : D} {v : V} {xs ys : List D} {vs ws : List V} {a p : Addr} {n : Nat}
theorem Ext.refl : Ext as as H H := ⟨fun _ _ h => h, fun _ h n => absurd h n, fun _ _ _ h => h, fun _ _ h => h, fun _ _ _ h => h⟩
theorem Ext.trans (a : Ext as as1 H H1) (b : Ext as1 as2 H1 H2) : Ext as as2 H H2 where
  pre := fun i x h => b.pre i x (a.pre i x h)
  new := fun x hx hn => by
    by_cases h1 : x ∈ as1
    · exact a.new x h1 hn
    · have h2 := b.new x hx h1
      cases e : H x with
      | none => rfl
      | some o =>
        have := a.out x o hn e
        rw [h2] at this
        cases this
  out := fun x o hn e => by
    have e1 := a.out x o hn e
    refine b.out x o (fun h1 => ?_) e1
    have := a.new x h1 hn
    rw [e] at this
    cases this
  tup := fun x l e => b.tup x l (a.tup x l e)
  frz := fun x o u e => b.frz x o u (a.frz x o u e)
theorem SqT.wk (x : Wk as as' H H') (h : SqT K H a vs) : SqT K H' a vs := by
  rcases h with h | h
  · rcases h with h | ⟨o, h⟩
    · exact .inl (.inl (x.tup _ _ h))
    · exact .inl (.inr ⟨o, x.frz _ _ _ (fun _ z => nomatch z) h⟩)
  · exact .inr h
theorem FzL.wk (x : Wk as as' H H') (h : FzL K H a vs) : FzL K H' a vs := by
  rcases h with ⟨o, h⟩ | h
  · exact .inl ⟨o, x.frz _ _ _ (fun _ z => nomatch z) h⟩
  · exact .inr h
theorem SqT.ext (x : Ext as as' H H') (h : SqT K H a vs) : SqT K H' a vs := SqT.wk x.wk h
theorem FzL.ext (x : Ext as as' H H') (h : FzL K H a vs) : FzL K H' a vs := FzL.wk x.wk h
theorem FzL.sq (h : FzL K H a vs) : SqL K H a vs := by
  rcases h with ⟨o, h⟩ | h
  · exact .inl (.inr ⟨o, h⟩)
  · exact .inr h
mutual
theorem Rep.wk (x : Wk as as' H H') : ∀ {d : D} {v : V}, Rep K H as d v → Rep K H' as' d v
  | _, _, .non => .non
  | _, _, .bl b => .bl b
  | _, _, .int i => .int i
  | _, _, .str s => .str s
  | _, _, .tup h r => .tup (SqT.wk x h) (Reps.wk x r)
  | _, _, .ref h => .ref (x.pre _ _ h)
  | _, _, .fz h r => .fz (FzL.wk x h) (Reps.wk x r)
theorem Reps.wk (x : Wk as as' H H') : ∀ {xs : List D} {vs : List V}, Reps K H as xs vs → Reps K H' as' xs vs
  | _, _, .nil => .nil
  | _, _, .cons h r => .cons (Rep.wk x h) (Reps.wk x r)
end
theorem Rep.ext (x : Ext as as' H H') (r : Rep K H as d v) : Rep K H' as' d v := r.wk x.wk
theorem Reps.ext (x : Ext as as' H H') (r : Reps K H as xs vs) : Reps K H' as' xs vs := r.wk x.wk
theorem Reps.length : ∀ {xs : List D} {vs : List V}, Reps K H as xs vs → xs.length = vs.length
  | _, _, .nil => rfl
  | _, _, .cons _ r => congrArg (· + 1) (Reps.length r)
theorem Reps.append : ∀ {xs ys : List D} {vs ws : List V}, Reps K H as xs vs → Reps K H as ys ws → Reps K H as (xs ++ ys) (vs ++ ws)
  | _, _, _, _, .nil, q => q
  | _, _, _, _, .cons h r, q => .cons h (Reps.append r q)
theorem Reps.get : ∀ {xs : List D} {vs : List V} {i : Nat} {d : D}, Reps K H as xs vs → xs[i]? = some d → ∃ v, vs[i]? = some v ∧ Rep K H as d v
  | _, _, _, _, .nil, e => by simp at e
  | _, _, 0, _, .cons h _, e => by
    simp at e
    subst e
    exact ⟨_, rfl, h⟩
  | _, _, i + 1, _, .cons _ r, e => by
    obtain ⟨v, e1, h⟩ := Reps.get (i := i) r (by simpa using e)
    exact ⟨v, by simpa using e1, h⟩
theorem Reps.take : ∀ {xs : List D} {vs : List V} (n : Nat), Reps K H as xs vs → Reps K H as (xs.take n) (vs.take n)
  | _, _, 0, _ => .nil
  | _, _, _ + 1, .nil => .nil
  | _, _, n + 1, .cons h r => .cons h (Reps.take n r)
theorem Reps.drop : ∀ {xs : List D} {vs : List V} (n : Nat), Reps K H as xs vs → Reps K H as (xs.drop n) (vs.drop n)
  | _, _, 0, r => r
  | _, _, _ + 1, .nil => .nil
  | _, _, n + 1, .cons _ r => Reps.drop n r
theorem Reps.set : ∀ {xs : List D} {vs : List V} (i : Nat), Rep K H as d v → Reps K H as xs vs → Reps K H as (xs.set i d) (vs.set i v)
  | _, _, _, _, .nil => .nil
  | _, _, 0, q, .cons _ r => .cons q r
  | _, _, i + 1, q, .cons h r => .cons h (Reps.set i q r)
theorem Reps.eraseIdx : ∀ {xs : List D} {vs : List V} (i : Nat), Reps K H as xs vs → Reps K H as (xs.eraseIdx i) (vs.eraseIdx i)
  | _, _, _, .nil => .nil
  | _, _, 0, .cons _ r => r
  | _, _, i + 1, .cons h r => .cons h (Reps.eraseIdx i r)
theorem Reps.rep (r : Reps K H as xs vs) : ∀ k : Nat, Reps K H as (List.replicate k xs).flatten (List.replicate k vs).flatten
  | 0 => .nil
  | k + 1 => Reps.append r (Reps.rep r k)
theorem RepK.wk {kvs : List (Key × D)} {ws : List (Key × V)} (x : Wk as as' H H') (r : RepK K H as kvs ws) : RepK K H' as' kvs ws := L2.Paired.mapP r fun _ _ z => ⟨z.1, Rep.wk x z.2⟩
theorem ObAt.wk (x : Wk as as' H H') {o : Ob} (hk : H' a = H a) (h : ObAt K H as a o) : ObAt K H' as' a o := by
  cases o with
  | lst xs =>
    obtain ⟨vs, e, r⟩ := h
    exact ⟨vs, hk.trans e, Reps.wk x r⟩
  | dct kvs =>
    obtain ⟨ws, e, r1⟩ := h
    exact ⟨ws, hk.trans e, RepK.wk x r1⟩
  | fdc kvs =>
    obtain ⟨o, ws, e, r1⟩ := h
    exact ⟨o, ws, hk.trans e, RepK.wk x r1⟩
theorem ObAt.ext (x : Ext as as' H H') {o : Ob} (hk : H' a = H a) (h : ObAt K H as a o) : ObAt K H' as' a o := ObAt.wk x.wk hk h
theorem ObAt.there {o : Ob} (h : ObAt K H as a o) : H a ≠ none := by
  cases o with
  | lst xs => obtain ⟨vs, e, _⟩ := h; rw [e]; simp
  | dct kvs => obtain ⟨ws, e, _⟩ := h; rw [e]; simp
  | fdc kvs => obtain ⟨o, ws, e, _⟩ := h; rw [e]; simp
/-- an address of the store is tracked -/
theorem Sim.there (s : Sim K H as S) (h : a ∈ as) : H a ≠ none := by
  obtain ⟨i, hi, e⟩ := List.getElem_of_mem h
  have hl : i < S.length := by rw [← s.len]; exact hi
  obtain ⟨b, e1, q⟩ := s.at_ i _ (List.getElem?_eq_getElem hl)
  rw [List.getElem?_eq_getElem hi, e] at e1
  cases e1
  exact q.there
theorem Sim.fresh (s : Sim K H as S) (hp : H p = none) : p ∉ as := fun h => s.there h hp
/-- a new object that is not in the store -/
theorem Ext.laid {o : HO} (hp : H p = none) : Ext as as H (upd H p o) where
  pre := fun _ _ h => h
  new := fun _ h n => absurd h n
  out := fun b u _ e => by rw [upd_ne (ne_of_none e hp)]; exact e
  tup := fun b l e => by rw [upd_ne (ne_of_none e hp)]; exact e
  frz := fun b u l e => by rw [upd_ne (ne_of_none e hp)]; exact e
theorem Sim.laid {o : HO} (s : Sim K H as S) (hp : H p = none) : Sim K (upd H p o) as S where
  len := s.len
  at_ := fun i ob e => by
    obtain ⟨a, e1, h⟩ := s.at_ i ob e
    refine ⟨a, e1, h.ext (Ext.laid hp) ?_⟩
    have := h.there
    exact upd_ne fun z => this (by rw [z]; exact hp)
  ne := s.ne
/-- a new list, in the store -/
theorem Ext.push {o : HO} (hp : H p = none) : Ext as (as ++ [p]) H (upd H p o) where
  pre := fun i a h => by
    have hi := (List.getElem?_eq_some_iff.mp h).1
    rw [List.getElem?_append_left hi]
    exact h
  new := fun a h n => by
    rcases List.mem_append.mp h with h | h
    · exact absurd h n
    · rw [List.mem_singleton.mp h]
      exact hp
  out := (Ext.laid (as := as) hp).out
  tup := (Ext.laid (as := as) hp).tup
  frz := (Ext.laid (as := as) hp).frz
theorem Sim.push {o : HO} {ob : Ob} (s : Sim K H as S) (hp : H p = none) (h : ObAt K (upd H p o) (as ++ [p]) p ob) : Sim K (upd H p o) (as ++ [p]) (S ++ [ob]) where
  len := by simp [s.len]
  at_ := fun i u e => by
    by_cases hi : i < S.length
    · rw [List.getElem?_append_left hi] at e
      obtain ⟨a, e1, q⟩ := s.at_ i u e
      refine ⟨a, (Ext.push (o := o) hp).pre _ _ e1, q.ext (Ext.push hp) ?_⟩
      have := q.there
      exact upd_ne fun z => this (by rw [z]; exact hp)
    · have hl : i = S.length := by
        have := (List.getElem?_eq_some_iff.mp e).1
        simp at this
        omega
      subst hl
      rw [List.getElem?_append_right (Nat.le_refl _)] at e
      simp at e
      subst e
      refine ⟨p, ?_, h⟩
      rw [List.getElem?_append_right (by rw [s.len]; exact Nat.le_refl _)]
      simp [s.len]
  ne := fun i j a o' u e1 e2 f1 f2 => by
    have key : ∀ (k : Nat) (ok : Ob), (as ++ [p])[k]? = some a → (S ++ [ob])[k]? = some ok → (k < S.length ∧ as[k]? = some a ∧ S[k]? = some ok ∧ a ≠ p) ∨ (k = S.length ∧ a = p) := by
      intro k ok g1 g2
      by_cases hk : k < S.length
      · rw [List.getElem?_append_left (by rw [s.len]; exact hk)] at g1
        rw [List.getElem?_append_left hk] at g2
        obtain ⟨a', e', q⟩ := s.at_ k ok g2
        rw [g1] at e'
        cases e'
        exact .inl ⟨hk, g1, g2, fun z => q.there (by rw [z]; exact hp)⟩
      · have hl : k = S.length := by
          have := (List.getElem?_eq_some_iff.mp g2).1
          simp at this
          omega
        subst hl
        rw [List.getElem?_append_right (by rw [s.len]; exact Nat.le_refl _)] at g1
        simp [s.len] at g1
        exact .inr ⟨rfl, g1.symm⟩
    rcases key i o' e1 f1 with ⟨_, g1, g2, g3⟩ | ⟨g1, g2⟩
    · rcases key j u e2 f2 with ⟨_, h1, h2, _⟩ | ⟨_, h2⟩
      · exact s.ne i j a o' u g1 h1 g2 h2
      · exact absurd h2 g3
    · rcases key j u e2 f2 with ⟨_, _, _, h4⟩ | ⟨h1, _⟩
      · exact absurd g2 h4
      · rw [g1, h1]
/-- an object of the store is changed -/
theorem Ext.write {o u : HO} (ha : a ∈ as) (he : H a = some u) (n1 : ∀ l, u ≠ .tup l) (n2 : ∀ x l, u ≠ .frz x l) : Ext as as H (upd H a o) where
  pre := fun _ _ h => h
  new := fun _ h n => absurd h n
  out := fun b w hn e => by rw [upd_ne fun z => hn (by rw [z]; exact ha)]; exact e
  tup := fun b l e => by rw [upd_ne fun z => n1 l (by rw [z, he] at e; exact Option.some.inj e)]; exact e
  frz := fun b x l e => by rw [upd_ne fun z => n2 x l (by rw [z, he] at e; exact Option.some.inj e)]; exact e
theorem Sim.put {o : HO} {ob ob' : Ob} (s : Sim K H as S) (hn : S[n]? = some ob) (ea : as[n]? = some a) (x : Wk as as H (upd H a o))
    (h : ObAt K (upd H a o) as a ob') : Sim K (upd H a o) as (S.set n ob') where
  len := by simp [s.len]
  at_ := fun i q e => by
    by_cases hi : i = n
    · subst hi
      have hl := (List.getElem?_eq_some_iff.mp hn).1
      rw [List.getElem?_set_self hl] at e
      cases e
      exact ⟨a, ea, h⟩
    · rw [List.getElem?_set_ne (Ne.symm hi)] at e
      obtain ⟨b, e1, r⟩ := s.at_ i q e
      refine ⟨b, e1, r.wk x (upd_ne fun z => hi ?_)⟩
      exact s.ne i n b q ob e1 (by rw [z]; exact ea) e hn
  ne := fun i j b o' u' e1 e2 f1 f2 => by
    have back : ∀ (k : Nat) (ok : Ob), (S.set n ob')[k]? = some ok → ∃ ok', S[k]? = some ok' := fun k ok g => by
      by_cases hk : k = n
      · subst hk
        exact ⟨ob, hn⟩
      · rw [List.getElem?_set_ne (Ne.symm hk)] at g
        exact ⟨ok, g⟩
    obtain ⟨x1, y1⟩ := back i o' f1
    obtain ⟨x2, y2⟩ := back j u' f2
    exact s.ne i j b x1 x2 e1 e2 y1 y2
theorem Sim.write {o u : HO} {ob ob' : Ob} (s : Sim K H as S) (hn : S[n]? = some ob) (ea : as[n]? = some a) (he : H a = some u) (n1 : ∀ l, u ≠ .tup l) (n2 : ∀ x l, u ≠ .frz x l)
    (h : ObAt K (upd H a o) as a ob') : Sim K (upd H a o) as (S.set n ob') := s.put hn ea (Ext.write (List.mem_of_getElem? ea) he n1 n2).wk h
/-- a list that is being made: it is not in the store -/
theorem Wk.own {o u : HO} (he : H a = some u) (n1 : ∀ l, u ≠ .tup l) (n2 : ∀ x l, u ≠ .frz x l) : Wk as as H (upd H a o) where
  pre := fun _ _ h => h
  tup := fun b l e => by rw [upd_ne fun z => n1 l (by rw [z, he] at e; exact Option.some.inj e)]; exact e
  frz := fun b x l _ e => by rw [upd_ne fun z => n2 x l (by rw [z, he] at e; exact Option.some.inj e)]; exact e
theorem Sim.own {o u : HO} (s : Sim K H as S) (ha : a ∉ as) (he : H a = some u) (n1 : ∀ l, u ≠ .tup l) (n2 : ∀ x l, u ≠ .frz x l) : Sim K (upd H a o) as S where
  len := s.len
  at_ := fun i ob e => by
    obtain ⟨b, e1, h⟩ := s.at_ i ob e
    exact ⟨b, e1, h.wk (Wk.own he n1 n2) (upd_ne fun z => ha (by rw [← z]; exact List.mem_of_getElem? e1))⟩
  ne := s.ne
/-- .. now it is -/
theorem Wk.adopt : Wk as (as ++ [a]) H H where
  pre := fun i b h => by
    rw [List.getElem?_append_left (List.getElem?_eq_some_iff.mp h).1]
    exact h
  tup := fun _ _ h => h
  frz := fun _ _ _ _ h => h
theorem Sim.adopt {ob : Ob} (s : Sim K H as S) (ha : a ∉ as) (h : ObAt K H (as ++ [a]) a ob) : Sim K H (as ++ [a]) (S ++ [ob]) where
  len := by simp [s.len]
  at_ := fun i u e => by
    by_cases hi : i < S.length
    · rw [List.getElem?_append_left hi] at e
      obtain ⟨b, e1, q⟩ := s.at_ i u e
      exact ⟨b, Wk.adopt.pre (H := H) _ _ e1, q.wk Wk.adopt rfl⟩
    · have hl : i = S.length := by
        have := (List.getElem?_eq_some_iff.mp e).1
        simp at this
        omega
      subst hl
      rw [List.getElem?_append_right (Nat.le_refl _)] at e
      simp at e
      subst e
      refine ⟨a, ?_, h⟩
      rw [List.getElem?_append_right (by rw [s.len]; exact Nat.le_refl _)]
      simp [s.len]
  ne := fun i j b o' u e1 e2 f1 f2 => by
    have key : ∀ (k : Nat) (ok : Ob), (as ++ [a])[k]? = some b → (S ++ [ob])[k]? = some ok → (k < S.length ∧ as[k]? = some b ∧ S[k]? = some ok ∧ b ≠ a) ∨ (k = S.length ∧ b = a) := by
      intro k ok g1 g2
      by_cases hk : k < S.length
      · rw [List.getElem?_append_left (by rw [s.len]; exact hk)] at g1
        rw [List.getElem?_append_left hk] at g2
        exact .inl ⟨hk, g1, g2, fun z => ha (by rw [← z]; exact List.mem_of_getElem? g1)⟩
      · have hl : k = S.length := by
          have := (List.getElem?_eq_some_iff.mp g2).1
          simp at this
          omega
        subst hl
        rw [List.getElem?_append_right (by rw [s.len]; exact Nat.le_refl _)] at g1
        simp [s.len] at g1
        exact .inr ⟨rfl, g1.symm⟩
    rcases key i o' e1 f1 with ⟨_, g1, g2, g3⟩ | ⟨g1, g2⟩
    · rcases key j u e2 f2 with ⟨_, h1, h2, _⟩ | ⟨_, h2⟩
      · exact s.ne i j b o' u g1 h1 g2 h2
      · exact absurd h2 g3
    · rcases key j u e2 f2 with ⟨_, _, _, h4⟩ | ⟨h1, _⟩
      · exact absurd g2 h4
      · rw [g1, h1]
/-- .. all that was is as it was -/
theorem Ext.own {o : HO} (x : Ext as as' H H') (h : H a = none) : Ext as as' H (upd H' a o) where
  pre := x.pre
  new := x.new
  out := fun b u hn e => by rw [upd_ne (ne_of_none e h)]; exact x.out b u hn e
  tup := fun b l e => by rw [upd_ne (ne_of_none e h)]; exact x.tup b l e
  frz := fun b u l e => by rw [upd_ne (ne_of_none e h)]; exact x.frz b u l e
theorem Ext.adopt (x : Ext as as' H H') (h : H a = none) : Ext as (as' ++ [a]) H H' where
  pre := fun i b e => (Wk.adopt (H := H) (a := a)).pre i b (x.pre i b e)
  new := fun b hb hn => by
    rcases List.mem_append.mp hb with hb | hb
    · exact x.new b hb hn
    · rw [List.mem_singleton.mp hb]; exact h
  out := x.out
  tup := x.tup
  frz := x.frz
theorem Ext.notin (x : Ext as as' H H') (ha : a ∉ as) (h : H a ≠ none) : a ∉ as' := fun z => h (x.new a z ha)
/-- what a place of the store is -/
theorem Sim.lst (s : Sim K H as S) (r : Rep K H as (.ref n) v) (h : lstAt S n = some xs) : ∃ a vs, v = .ref a ∧ as[n]? = some a ∧ S[n]? = some (.lst xs) ∧ H a = some (.lst vs) ∧ Reps K H as xs vs := by
  cases r with
  | ref e =>
    unfold lstAt at h
    cases q : S[n]? with
    | none => rw [q] at h; cases h
    | some o =>
      rw [q] at h
      cases o with
      | lst ys =>
        have : ys = xs := Option.some.inj h
        subst this
        obtain ⟨a, e1, vs, e2, r⟩ := s.at_ n _ q
        rw [e] at e1
        cases e1
        exact ⟨_, vs, rfl, e, rfl, e2, r⟩
      | _ => cases h
theorem Sim.seq (s : Sim K H as S) (r : Rep K H as (.ref n) v) (h : lstAt S n = some xs) : ∃ a vs, v = .ref a ∧ as[n]? = some a ∧ SqL K H a vs ∧ Reps K H as xs vs := by
  obtain ⟨a, vs, e1, e2, _, e3, r⟩ := s.lst r h
  exact ⟨a, vs, e1, e2, .inl (.inl e3), r⟩
theorem Sim.dct (s : Sim K H as S) (r : Rep K H as (.ref n) v) {kvs : List (Key × D)} (h : dctAt S n = some kvs) : ∃ a ws, v = .ref a ∧ as[n]? = some a ∧ Rd H a (.dK ws) ∧ RepK K H as kvs ws := by
  cases r with
  | ref e =>
    unfold dctAt at h
    cases q : S[n]? with
    | none => rw [q] at h; cases h
    | some o =>
      rw [q] at h
      cases o with
      | dct ys =>
        have : ys = kvs := Option.some.inj h
        subst this
        obtain ⟨a, e1, ws, e2, r⟩ := s.at_ n _ q
        rw [e] at e1
        cases e1
        exact ⟨_, ws, rfl, e, .inl e2, r⟩
      | fdc ys =>
        have : ys = kvs := Option.some.inj h
        subst this
        obtain ⟨a, e1, o, ws, e2, r⟩ := s.at_ n _ q
        rw [e] at e1
        cases e1
        exact ⟨_, ws, rfl, e, .inr ⟨o, e2⟩, r⟩
      | _ => cases h
end
end Ev
end
section
set_option Elab.async false
set_option linter.all false
set_option maxRecDepth 100000
/-! Ev's operators, by values. -/
namespace Ev
open PySem PySem.Spec PyProof.Rows L2
/-- what is wanted behind a step: of the data, over the heap -/
def impQ (K : PySem.W.Frag) (as : List Addr) (H : Hp) (Q : Po) (QV : VK) : Prop := ∀ d S' as' v H', Ext as as' H H' → Sim K H' as' S' → Rep K H' as' d v → Q d S' → QV v H'
theorem most_le : most ≤ sizeLine := by rw [sizeLine_eq]; decide
section
variable {K : PySem.W.Frag} {H : Hp} {as : List Addr} {S : Sto} {Q : Po} {QV : VK} {xs : List D} {vs : List V} {d : D} {v : V} {p : Addr}
theorem impQ.now (i : impQ K as H Q QV) (s : Sim K H as S) (r : Rep K H as d v) (q : Q d S) : QV v H := i d S as v H Ext.refl s r q
theorem Sim.last (s : Sim K H as S) (p : Addr) : (as ++ [p])[S.length]? = some p := by
  rw [← s.len, List.getElem?_append_right (Nat.le_refl _)]
  simp
theorem impQ.newList (i : impQ K as H Q QV) (s : Sim K H as S) (r : Reps K H as xs vs) (hp : H p = none) (q : Q (.ref S.length) (S ++ [.lst xs])) : QV (.ref p) (upd H p (.lst vs)) :=
  i _ _ (as ++ [p]) _ _ (Ext.push hp) (s.push (ob := .lst xs) hp ⟨vs, upd_same, Reps.ext (Ext.push hp) r⟩) (.ref (s.last p)) q
theorem impQ.newTup (i : impQ K as H Q QV) (s : Sim K H as S) (r : Reps K H as xs vs) (hp : H p = none) (q : Q (.tup xs) S) : QV (.ref p) (upd H p (.tup vs)) :=
  i _ _ as _ _ (Ext.laid hp) (s.laid hp) (.tup (SqT.of upd_same) (Reps.ext (Ext.laid hp) r)) q
theorem impQ.newDct {kvs : List (Key × D)} {ws : List (Key × V)} (i : impQ K as H Q QV) (s : Sim K H as S) (r : RepK K H as kvs ws) (hp : H p = none) (q : Q (.ref S.length) (S ++ [.dct kvs])) : QV (.ref p) (upd H p (.dK ws)) :=
  i _ _ (as ++ [p]) _ _ (Ext.push hp) (s.push (ob := .dct kvs) hp ⟨ws, upd_same, L2.Paired.mapP r fun _ _ z => ⟨z.1, Rep.ext (Ext.push hp) z.2⟩⟩) (.ref (s.last p)) q
end
def liftR (K : PySem.W.Frag) (sem : D → D → Sto → Po → Prop) : R2 := fun vx vy H QV => ∃ as S x y Q, Sim K H as S ∧ Rep K H as x vx ∧ Rep K H as y vy ∧ sem x y S Q ∧ impQ K as H Q QV
section
variable {X : Cx}
theorem MulOk.ok {i j : Int} (h : MulOk i j) : IntMulOk i j := L2.CMulW.ok h
theorem op_add_ok : OpR X (binaryOp .Add) (liftR X.K (opSem .Add)) := by
  intro pins s σ H vx vy u w QV I ru rw' ⟨as, S, x, y, Q, sim, rx, ry, h, imp⟩
  cases rx with
  | int i =>
    cases ry with
    | int j => exact op_add pins s σ H _ _ u w QV I ru rw' ⟨i, j, rfl, rfl, imp.now sim (.int _) h⟩
    | _ => exact h.elim
  | str a =>
    cases ry with
    | str b => exact op_add_str pins s σ H _ _ u w QV I ru rw' ⟨a, b, rfl, rfl, Nat.le_trans h.1 most_le, imp.now sim (.str _) h.2⟩
    | _ => exact h.elim
  | @tup xs ax vs hx r1 =>
    cases ry with
    | @tup ys ay ws hy r2 =>
      obtain ⟨hl, q⟩ := h
      refine op_catA pins s σ H _ _ u w QV I ru rw' ⟨ax, ay, vs, ws, rfl, rfl, hx, hy, by rw [← r1.length, ← r2.length]; exact Nat.le_trans hl most_le, fun e => ?_, fun _ e => ?_, fun _ _ p hp => ?_⟩
      · subst e
        cases r1
        exact imp.now sim (.tup hy r2) q
      · subst e
        cases r2
        rw [List.append_nil] at q
        exact imp.now sim (.tup hx r1) q
      · exact imp.newTup sim (r1.append r2) hp q
    | _ => exact h.elim
  | @ref n ax ex =>
    cases ry with
    | @ref m ay ey =>
      obtain ⟨a, b, ha, hb, hl, q⟩ := h
      obtain ⟨a1, v1, e1, _, _, h1, r1⟩ := sim.lst (.ref ex) ha
      obtain ⟨a2, v2, e2, _, _, h2, r2⟩ := sim.lst (.ref ey) hb
      cases e1
      cases e2
      exact op_cat pins s σ H _ _ u w QV I ru rw' ⟨ax, ay, v1, v2, rfl, rfl, h1, h2, by rw [← r1.length, ← r2.length]; exact Nat.le_trans hl most_le, fun p hp => imp.newList sim (r1.append r2) hp q⟩
    | _ => exact h.elim
  | non => exact h.elim
  | bl _ => exact h.elim
  | fz _ _ => exact h.elim
theorem op_sub_ok : OpR X (binaryOp .Sub) (liftR X.K (opSem .Sub)) := by
  intro pins s σ H vx vy u w QV I ru rw' ⟨as, S, x, y, Q, sim, rx, ry, h, imp⟩
  cases rx with
  | int i =>
    cases ry with
    | int j => exact op_sub pins s σ H _ _ u w QV I ru rw' ⟨i, j, rfl, rfl, imp.now sim (.int _) h⟩
    | _ => exact h.elim
  | _ => exact h.elim
theorem op_mul_ok : OpR X (binaryOp .Mult) (liftR X.K (opSem .Mult)) := by
  intro pins s σ H vx vy u w QV I ru rw' ⟨as, S, x, y, Q, sim, rx, ry, h, imp⟩
  cases rx with
  | int i =>
    cases ry with
    | int j => exact op_mulW pins s σ H _ _ u w QV I ru rw' ⟨i, j, rfl, rfl, h.1, imp.now sim (.int _) h.2⟩
    | _ => exact h.elim
  | @ref n ax ex =>
    cases ry with
    | int k =>
      obtain ⟨a, ha, k0, k1, hl, q⟩ := h
      obtain ⟨a1, v1, e1, _, _, h1, r1⟩ := sim.lst (.ref ex) ha
      cases e1
      refine op_rep pins s σ H _ _ u w QV I ru rw' ⟨ax, k, v1, rfl, rfl, h1, by omega, by omega, ?_, fun p hp => imp.newList sim (r1.rep _) hp q⟩
      rw [← r1.length, sizeLine_eq]
      have : a.length * k.toNat ≤ 1000 * 1000 := Nat.mul_le_mul hl (by omega)
      omega
    | _ => exact h.elim
  | _ => exact h.elim
theorem op_div_ok : OpR X (binaryOp .FloorDiv) (liftR X.K (opSem .FloorDiv)) := by
  intro pins s σ H vx vy u w QV I ru rw' ⟨as, S, x, y, Q, sim, rx, ry, h, imp⟩
  cases rx with
  | int i =>
    cases ry with
    | int j =>
      obtain ⟨t, rfl⟩ := ru
      obtain ⟨t', rfl⟩ := rw'
      exact floordiv_int h.1.1 ⟨.int _, H, I.tok _, ⟨_, rfl⟩, imp.now sim (.int _) h.2⟩ (.inl (PyProof.noPylong_of_log2 h.1.2))
    | _ => exact h.elim
  | _ => exact h.elim
theorem op_mod_ok : OpR X (binaryOp .Mod) (liftR X.K (opSem .Mod)) := by
  intro pins s σ H vx vy u w QV I ru rw' ⟨as, S, x, y, Q, sim, rx, ry, h, imp⟩
  cases rx with
  | int i =>
    cases ry with
    | int j => exact op_modN pins s σ H _ _ u w QV I ru rw' ⟨i, j, rfl, rfl, h.1, imp.now sim (.int _) h.2⟩
    | _ => exact h.elim
  | _ => exact h.elim
theorem op_pow_ok : OpR X (binaryOp .Pow) (liftR X.K (opSem .Pow)) := by
  intro pins s σ H vx vy u w QV I ru rw' ⟨as, S, x, y, Q, sim, rx, ry, h, imp⟩
  cases rx with
  | int i =>
    cases ry with
    | int j => exact op_pow pins s σ H _ _ u w QV I ru rw' ⟨i, j, rfl, rfl, h.1, imp.now sim (.int _) h.2⟩
    | _ => exact h.elim
  | _ => exact h.elim
theorem op_none_ok {o : Operator} (ho : o ≠ .Add ∧ o ≠ .Sub ∧ o ≠ .Mult ∧ o ≠ .FloorDiv ∧ o ≠ .Mod ∧ o ≠ .Pow) : OpR X (binaryOp o) (liftR X.K (opSem o)) := by
  intro pins s σ H vx vy u w QV I ru rw' ⟨as, S, x, y, Q, sim, rx, ry, h, imp⟩
  obtain ⟨h1, h2, h3, h4, h5, h6⟩ := ho
  cases o <;> first | exact absurd rfl h1 | exact absurd rfl h2 | exact absurd rfl h3 | exact absurd rfl h4 | exact absurd rfl h5 | exact absurd rfl h6 | exact (show False from h).elim
theorem op_ok (o : Operator) : OpR X (binaryOp o) (liftR X.K (opSem o)) := by
  cases o with
  | Add => exact op_add_ok
  | Sub => exact op_sub_ok
  | Mult => exact op_mul_ok
  | FloorDiv => exact op_div_ok
  | Mod => exact op_mod_ok
  | Pow => exact op_pow_ok
  | _ => exact op_none_ok (by decide)
/-! ### comparisons -/
mutual
theorem Tree.dp {K : PySem.W.Frag} {H : Hp} {as : List Addr} {S : Sto} (sim : Sim K H as S) : ∀ {t : PyData} {d : D} {v : V}, Tree S d t → Rep K H as d v → Dp K H v t
  | .none, _, _, .non, .non => .non
  | .bool _, _, _, .bl b, .bl _ => .bl b
  | .int _, _, _, .int i, .int _ => .int i
  | .str _, _, _, .str x, .str _ => .str x
  | .tuple _, _, _, .tup h, .tup hs r => .tup hs (Trees.dp sim h r)
  | .list _, _, _, .lst e h, .ref q => by
    obtain ⟨a, vs, e1, _, hs, r⟩ := sim.seq (.ref q) e
    cases e1
    exact .lst hs (Trees.dp sim h r)
theorem Trees.dp {K : PySem.W.Frag} {H : Hp} {as : List Addr} {S : Sto} (sim : Sim K H as S) : ∀ {ts : List PyData} {xs : List D} {vs : List V}, Trees S xs ts → Reps K H as xs vs → DpAll K H vs ts
  | [], _, _, .nil, .nil => .nil
  | _ :: _, _, _, .cons h r, .cons q z => .cons (Tree.dp sim h q) (Trees.dp sim r z)
end
def liftC (K : PySem.W.Frag) (sem : D → D → Sto → (Bool → Prop) → Prop) : R2 := liftR K fun x y S Q => sem x y S fun b => Q (.bl b) S
theorem cm_eq_ok (hu : X.A.units + 64 < cLine) : OpR X (compareOp .Eq) (liftC X.K (cmpSem .Eq)) := by
  intro pins s σ H vx vy u w QV I ru rw' ⟨as, S, x, y, Q, sim, rx, ry, ⟨t, z, h1, h2, h3, h4, q⟩, imp⟩
  exact op_eqD hu pins s σ H _ _ u w QV I ru rw' ⟨t, z, h1.dp sim rx, h2.dp sim ry, h3, h4, imp.now sim (.bl _) q⟩
theorem cm_ne_ok (hu : X.A.units + 64 < cLine) : OpR X (compareOp .NotEq) (liftC X.K (cmpSem .NotEq)) := by
  intro pins s σ H vx vy u w QV I ru rw' ⟨as, S, x, y, Q, sim, rx, ry, ⟨t, z, h1, h2, h3, h4, q⟩, imp⟩
  exact op_neD hu pins s σ H _ _ u w QV I ru rw' ⟨t, z, h1.dp sim rx, h2.dp sim ry, h3, h4, imp.now sim (.bl _) q⟩
theorem cm_lt_ok : OpR X (compareOp .Lt) (liftC X.K (cmpSem .Lt)) := by
  intro pins s σ H vx vy u w QV I ru rw' ⟨as, S, x, y, Q, sim, rx, ry, ⟨i, j, e1, e2, q⟩, imp⟩
  subst e1 e2
  cases rx
  cases ry
  exact op_lt pins s σ H _ _ u w QV I ru rw' ⟨i, j, rfl, rfl, imp.now sim (.bl _) q⟩
theorem cm_le_ok : OpR X (compareOp .LtE) (liftC X.K (cmpSem .LtE)) := by
  intro pins s σ H vx vy u w QV I ru rw' ⟨as, S, x, y, Q, sim, rx, ry, ⟨i, j, e1, e2, q⟩, imp⟩
  subst e1 e2
  cases rx
  cases ry
  exact op_le pins s σ H _ _ u w QV I ru rw' ⟨i, j, rfl, rfl, imp.now sim (.bl _) q⟩
theorem cm_gt_ok : OpR X (compareOp .Gt) (liftC X.K (cmpSem .Gt)) := by
  intro pins s σ H vx vy u w QV I ru rw' ⟨as, S, x, y, Q, sim, rx, ry, ⟨i, j, e1, e2, q⟩, imp⟩
  subst e1 e2
  cases rx
  cases ry
  exact op_gt pins s σ H _ _ u w QV I ru rw' ⟨i, j, rfl, rfl, imp.now sim (.bl _) q⟩
theorem cm_ge_ok : OpR X (compareOp .GtE) (liftC X.K (cmpSem .GtE)) := by
  intro pins s σ H vx vy u w QV I ru rw' ⟨as, S, x, y, Q, sim, rx, ry, ⟨i, j, e1, e2, q⟩, imp⟩
  subst e1 e2
  cases rx
  cases ry
  exact op_ge pins s σ H _ _ u w QV I ru rw' ⟨i, j, rfl, rfl, imp.now sim (.bl _) q⟩
theorem non_dec {K : PySem.W.Frag} {H : Hp} {as : List Addr} {x : D} {v : V} (r : Rep K H as x v) : isNon x = decide (v = V.non) := by
  cases r <;> rfl
theorem cm_is_ok : OpR X (compareOp .Is) (liftC X.K (cmpSem .Is)) := by
  intro pins s σ H vx vy u w QV I ru rw' ⟨as, S, x, y, Q, sim, rx, ry, h, imp⟩
  cases ry with
  | non =>
    have h : Q (.bl (isNon x)) S := h
    rw [non_dec rx] at h
    exact op_isN pins s σ H _ _ u w QV I ru rw' ⟨rfl, imp.now sim (.bl _) h⟩
  | bl b =>
    obtain ⟨a, e, q⟩ := h
    subst e
    cases rx
    exact op_isBl pins s σ H _ _ u w QV I ru rw' ⟨a, b, rfl, rfl, imp.now sim (.bl _) q⟩
  | _ => exact h.elim
theorem cm_isnot_ok : OpR X (compareOp .IsNot) (liftC X.K (cmpSem .IsNot)) := by
  intro pins s σ H vx vy u w QV I ru rw' ⟨as, S, x, y, Q, sim, rx, ry, h, imp⟩
  cases ry with
  | non =>
    have h : Q (.bl (!isNon x)) S := h
    rw [non_dec rx] at h
    exact op_notN pins s σ H _ _ u w QV I ru rw' ⟨rfl, imp.now sim (.bl _) h⟩
  | bl b =>
    obtain ⟨a, e, q⟩ := h
    subst e
    cases rx
    exact op_notBl pins s σ H _ _ u w QV I ru rw' ⟨a, b, rfl, rfl, imp.now sim (.bl _) q⟩
  | _ => exact h.elim
/-! ### dicts by their keys -/
theorem RepK.look {K : PySem.W.Frag} {H : Hp} {as : List Addr} {kvs : List (Key × D)} {ws : List (Key × V)} (r : RepK K H as kvs ws) (k : Key) :
    (∀ d, lookD kvs k = some d → ∃ v, valV ws k = some v ∧ Rep K H as d v) ∧ (lookD kvs k).isSome = (valV ws k).isSome := by
  unfold RepK at r
  induction r with
  | nil => exact ⟨fun d e => (by cases e), rfl⟩
  | @cons p q ps qs h t ih =>
    by_cases e : p.1 = k
    · have e1 : lookD (p :: ps) k = some p.2 := by simp [lookD, List.find?_cons, e]
      have e2 : valV (q :: qs) k = some q.2 := valV_pos (h.1.symm.trans e)
      rw [e1, e2]
      exact ⟨fun d z => ⟨q.2, rfl, by cases z; exact h.2⟩, rfl⟩
    · have e1 : lookD (p :: ps) k = lookD ps k := by simp [lookD, List.find?_cons, e]
      have e2 : valV (q :: qs) k = valV qs k := valV_neg fun z => e (h.1.trans z)
      rw [e1, e2]
      exact ih
theorem RepK.any {K : PySem.W.Frag} {H : Hp} {as : List Addr} {kvs : List (Key × D)} {ws : List (Key × V)} (r : RepK K H as kvs ws) (k : Key) : (kvs.any fun p => decide (p.1 = k)) = (ws.any fun p => decide (p.1 = k)) := by
  unfold RepK at r
  induction r with
  | nil => rfl
  | @cons p q ps qs h t ih => rw [List.any_cons, List.any_cons, ih, h.1]
theorem RepK.map {K : PySem.W.Frag} {H : Hp} {as : List Addr} {d : D} {v : V} (k : Key) (q : Rep K H as d v) : ∀ {kvs : List (Key × D)} {ws : List (Key × V)}, RepK K H as kvs ws →
    RepK K H as (kvs.map fun p => if p.1 = k then (p.1, d) else p) (ws.map fun p => if p.1 = k then (p.1, v) else p) := by
  intro kvs ws r
  unfold RepK at r
  induction r with
  | nil => exact .nil
  | @cons p q' ps qs h t ih =>
    rw [List.map_cons, List.map_cons]
    refine .cons ?_ ih
    by_cases e : p.1 = k
    · rw [if_pos e, if_pos (h.1.symm.trans e)]
      exact ⟨h.1, q⟩
    · rw [if_neg e, if_neg fun z => e (h.1.trans z)]
      exact h
theorem RepK.snoc {K : PySem.W.Frag} {H : Hp} {as : List Addr} {d : D} {v : V} (k : Key) (q : Rep K H as d v) : ∀ {kvs : List (Key × D)} {ws : List (Key × V)}, RepK K H as kvs ws → RepK K H as (kvs ++ [(k, d)]) (ws ++ [(k, v)]) := by
  intro kvs ws r
  unfold RepK at r
  induction r with
  | nil => exact .cons ⟨rfl, q⟩ .nil
  | @cons p q' ps qs h t ih => exact .cons h ih
theorem RepK.put {K : PySem.W.Frag} {H : Hp} {as : List Addr} {kvs : List (Key × D)} {ws : List (Key × V)} {d : D} {v : V} (r : RepK K H as kvs ws) (k : Key) (q : Rep K H as d v) : RepK K H as (putD kvs k d) (putK ws k v) := by
  unfold putD putK
  rw [r.any k]
  split
  · exact RepK.map k q r
  · exact RepK.snoc k q r
theorem RepK.merge {K : PySem.W.Frag} {H : Hp} {as : List Addr} {more : List (Key × D)} {ms : List (Key × V)} (r : RepK K H as more ms) : ∀ {kvs : List (Key × D)} {ws : List (Key × V)}, RepK K H as kvs ws → RepK K H as (mergeD kvs more) (mergeK ws ms) := by
  unfold RepK at r
  induction r with
  | nil => intro kvs ws q; exact q
  | @cons p q ps qs h t ih =>
    intro kvs ws z
    show RepK K H as (mergeD (putD kvs p.1 p.2) ps) (mergeK (putK ws q.1 q.2) qs)
    rw [h.1]
    exact ih (z.put q.1 h.2)
theorem key_of_rep {K : PySem.W.Frag} {H : Hp} {as : List Addr} {d : D} {v : V} {k : Key} (r : Rep K H as d v) (e : keyOf d = some k) : v = kV k := by
  cases r with
  | int i => cases e; rfl
  | str x => cases e; rfl
  | _ => cases e
theorem DGet.rd {H : Hp} {a : Addr} {ws : List (Key × V)} {k : Key} (e : Rd H a (.dK ws)) : DGet H a (kV k) (valV ws k) := .inl ⟨ws, k, e, rfl, rfl⟩
theorem lay_list {us : List PyData} (h : SeqAt.shaped (.list us) = true) : PyData.canLayAll0 us = true := SeqAt.canLay_of_shaped h
theorem lay_tup {us : List PyData} (h : SeqAt.shaped (.tuple us) = true) : PyData.canLayAll0 us = true := SeqAt.canLay_of_shaped h
theorem in_ok {neg : Bool} {op : CmpOp} (hop : (op = .In ∧ neg = false) ∨ (op = .NotIn ∧ neg = true)) (hu : X.A.units + 65 < cLine) :
    OpR X (compareOp op) (liftC X.K fun x y S k => inSem x y S fun b => k (if neg then !b else b)) := by
  intro pins s σ H vx vy u w QV I ru rw' ⟨as, S, x, y, Q, sim, rx, ry, h, imp⟩
  cases ry with
  | str z =>
    obtain ⟨w', e, q⟩ := h
    subst e
    cases rx
    rcases hop with ⟨rfl, rfl⟩ | ⟨rfl, rfl⟩
    · exact op_in_str pins s σ H _ _ u w QV I ru rw' ⟨w', z, rfl, rfl, imp.now sim (.bl _) q⟩
    · exact op_notIn_str pins s σ H _ _ u w QV I ru rw' ⟨w', z, rfl, rfl, imp.now sim (.bl _) q⟩
  | @tup ys a vs hs r =>
    obtain ⟨t, us, h1, h2, h3, h4, q⟩ := h
    obtain ⟨bs, r1⟩ := Dp.reads I t _ _ (h1.dp sim rx) ru
    obtain ⟨cs, r2⟩ := Dp.reads I (.tuple us) _ _ (.tup hs (h2.dp sim r)) rw'
    have hroom : X.A.units + 1 + min (PyData.depthAll us) t.depth < cLine := by
      have := SeqAt.depth_of_shaped h3
      have h2 : min (PyData.depthAll us) t.depth ≤ t.depth := Nat.min_le_right _ _
      omega
    rcases hop with ⟨rfl, rfl⟩ | ⟨rfl, rfl⟩
    · exact SeqAt.in_tuple_reads r2 r1 (lay_tup h4) (SeqAt.canLay_of_shaped h3) hroom ⟨.bl _, H, I, rfl, imp.now sim (.bl _) q⟩
    · exact SeqAt.notIn_tuple_reads r2 r1 (lay_tup h4) (SeqAt.canLay_of_shaped h3) hroom ⟨.bl _, H, I, rfl, imp.now sim (.bl _) q⟩
  | @ref n a ea =>
    rcases h with ⟨ys, t, us, e, h1, h2, h3, h4, q⟩ | ⟨kvs, ky, e, ek, q⟩
    · have hd : Dp X.K H (.ref a) (.list us) := Tree.dp sim (.lst e h2) (.ref ea)
      rcases hop with ⟨rfl, rfl⟩ | ⟨rfl, rfl⟩
      · exact op_inD hu pins s σ H _ _ u w QV I ru rw' ⟨t, us, h1.dp sim rx, hd, h3, h4, imp.now sim (.bl _) q⟩
      · exact op_notInD hu pins s σ H _ _ u w QV I ru rw' ⟨t, us, h1.dp sim rx, hd, h3, h4, imp.now sim (.bl _) q⟩
    · obtain ⟨a', ws, e1, _, hr, rk⟩ := sim.dct (.ref ea) e
      cases e1
      have ev := key_of_rep rx ek
      subst ev
      obtain rfl : w = Value.ref a := rw'
      rw [(rk.look ky).2] at q
      rcases hop with ⟨rfl, rfl⟩ | ⟨rfl, rfl⟩
      · exact d_in (by omega) I (DGet.rd hr) ru fun s3 I3 => ⟨.bl _, H, I3, rfl, imp.now sim (.bl _) q⟩
      · exact d_notIn (by omega) I (DGet.rd hr) ru fun s3 I3 => ⟨.bl _, H, I3, rfl, imp.now sim (.bl _) q⟩
  | _ => exact h.elim
theorem cm_ok (o : CmpOp) (hu : X.A.units + 65 < cLine) : OpR X (compareOp o) (liftC X.K (cmpSem o)) := by
  cases o with
  | Eq => exact cm_eq_ok (by omega)
  | NotEq => exact cm_ne_ok (by omega)
  | Lt => exact cm_lt_ok
  | LtE => exact cm_le_ok
  | Gt => exact cm_gt_ok
  | GtE => exact cm_ge_ok
  | Is => exact cm_is_ok
  | IsNot => exact cm_isnot_ok
  | In => exact in_ok (neg := false) (.inl ⟨rfl, rfl⟩) hu
  | NotIn => exact in_ok (neg := true) (.inr ⟨rfl, rfl⟩) hu
end
end Ev
end
section
set_option Elab.async false
set_option linter.all false
set_option maxRecDepth 100000
set_option maxHeartbeats 1000000
/-! Ev's subscripts, slices, built-in calls, methods, stores, by values. -/
namespace Ev
open PySem PySem.Spec PyProof.Rows L2
section
variable {X : Cx}
theorem ix_ok (hu : X.A.units + 1 < cLine) : IxR X (liftR X.K ixSem) := by
  intro value slice pins s σ H vx vy u w QV I ru rw' ⟨as, S, x, y, Q, sim, rx, ry, h, imp⟩ hs
  cases rx with
  | @tup xs a vs hx r =>
    obtain ⟨k, j, d, e, hp, hj, q⟩ := h
    subst e
    cases ry
    obtain ⟨v, ev, rv⟩ := r.get hj
    refine ix_tup value slice pins s σ H _ _ u w QV I ru rw' ⟨a, vs, k, v, rfl, rfl, hx, ?_, imp.now sim rv q⟩ hs
    show (ixN vs.length k).bind _ = _
    rw [← r.length]
    rw [show ixN xs.length k = some j from hp]
    exact ev
  | @ref n a ea =>
    rcases h with ⟨xs, k, j, d, e0, e, hp, hj, q⟩ | ⟨kvs, ky, d, e0, ek, el, q⟩
    · subst e
      cases ry
      obtain ⟨a', vs, e1, _, hx, r⟩ := sim.seq (.ref ea) e0
      cases e1
      obtain ⟨v, ev, rv⟩ := r.get hj
      refine ix_list value slice pins s σ H _ _ u w QV I ru rw' ⟨a, vs, k, v, rfl, rfl, hx, ?_, imp.now sim rv q⟩ hs
      show (ixN vs.length k).bind _ = _
      rw [← r.length]
      rw [show ixN xs.length k = some j from hp]
      exact ev
    · obtain ⟨a', ws, e1, _, hr, rk⟩ := sim.dct (.ref ea) e0
      cases e1
      have ev := key_of_rep ry ek
      subst ev
      obtain rfl : u = Value.ref a := ru
      obtain ⟨v, hv, rv⟩ := (rk.look ky).1 d el
      have g : DGet H a (kV ky) (some v) := by rw [← hv]; exact DGet.rd hr
      exact tail_any (dict_typeIs I g) PySem.F.slot_dict_getitem.lookup (d_getItem hu I g rw' fun w' s3 I3 rv' => ⟨v, H, I3, rv', imp.now sim rv q⟩) hs
  | @fz xs a vs hx r =>
    obtain ⟨k, j, d, e, hp, hj, q⟩ := h
    subst e
    cases ry
    obtain ⟨v, ev, rv⟩ := r.get hj
    refine ix_list value slice pins s σ H _ _ u w QV I ru rw' ⟨a, vs, k, v, rfl, rfl, hx.sq, ?_, imp.now sim rv q⟩ hs
    show (ixN vs.length k).bind _ = _
    rw [← r.length]
    rw [show ixN xs.length k = some j from hp]
    exact ev
  | str z =>
    obtain ⟨k, j, c, e, hp, hj, hl, q⟩ := h
    subst e
    cases ry
    refine ix_str value slice pins s σ H _ _ u w QV I ru rw' ⟨z, k, c, rfl, rfl, Nat.le_trans hl most_le, ?_, imp.now sim (.str _) q⟩ hs
    show (ixN z.cps.toList.length k).bind _ = _
    rw [show ixN z.cps.toList.length k = some j from hp]
    exact hj
  | _ => exact h.elim
def liftSl (K : PySem.W.Frag) : V → Option Int → Option Int → Hp → VK → Prop := fun vx lo hi H QV => ∃ as S x Q, Sim K H as S ∧ Rep K H as x vx ∧ slSem x lo hi S Q ∧ impQ K as H Q QV
theorem clip_is (n d : Nat) : ∀ o : Option Int, clip n d o = HT.sIx n d o
  | none => rfl
  | some _ => rfl
theorem cut_reps {K : PySem.W.Frag} {H : Hp} {as : List Addr} {xs : List D} {vs : List V} (r : Reps K H as xs vs) (lo hi : Option Int) : Reps K H as (cut xs lo hi) (cutV vs lo hi) := by
  unfold cut cutV
  rw [clip_is, clip_is, r.length]
  exact (r.drop _).take _
theorem cut_whole {α : Type} {xs : List α} {lo hi : Option Int} (h : HT.sIx xs.length 0 lo = 0 ∧ HT.sIx xs.length xs.length hi = xs.length) : cut xs lo hi = xs := by
  unfold cut
  rw [clip_is, clip_is, h.1, h.2, Nat.sub_zero, List.drop_zero, List.take_length]
theorem sl_ok : SlR X (liftSl X.K) := by
  intro pins s σ H vx v vl vu lo hi sl QV I rx hs pl pu ⟨as, S, x, Q, sim, r0, h, imp⟩
  cases r0 with
  | @tup xs a vs hx r =>
    refine sl_tupA pins s σ H _ v vl vu lo hi sl QV I rx hs pl pu ⟨a, vs, rfl, hx, fun hw => ?_, fun _ p hp => imp.newTup sim (cut_reps r lo hi) hp h⟩
    have h : Q (.tup (cut xs lo hi)) S := h
    rw [cut_whole (by rw [r.length]; exact hw)] at h
    exact imp.now sim (.tup hx r) h
  | @ref n a ea =>
    obtain ⟨xs, e, q⟩ := h
    obtain ⟨a', vs, e1, _, hx, r⟩ := sim.seq (.ref ea) e
    cases e1
    exact sl_list pins s σ H _ v vl vu lo hi sl QV I rx hs pl pu ⟨a, vs, rfl, hx, fun p hp => imp.newList sim (cut_reps r lo hi) hp q⟩
  | @fz xs a vs hx r => exact sl_list pins s σ H _ v vl vu lo hi sl QV I rx hs pl pu ⟨a, vs, rfl, hx.sq, fun p hp => imp.newList sim (cut_reps r lo hi) hp h⟩
  | str z =>
    refine L2.sl_str pins s σ H _ v vl vu lo hi sl QV I rx hs pl pu ⟨z, rfl, Nat.le_trans h.1 most_le, imp.now sim (.str _) ?_⟩
    have e : (⟨(cut z.cps.toList lo hi).toArray⟩ : Str) = L2.cutS z lo hi := by
      unfold cut L2.cutS
      rw [clip_is, clip_is, Array.length_toList]
      rfl
    rw [← e]
    exact h.2
  | _ => exact h.elim
/-! ### built-in calls -/
def liftB (K : PySem.W.Frag) (b : Bi) : List V → Hp → VK → Prop := fun vs H QV => ∃ as S ds Q, Sim K H as S ∧ Reps K H as ds vs ∧ biSem b ds S Q ∧ impQ K as H Q QV
def biV : Bi → Value
  | .abs => .builtin "abs"
  | .len => .builtin "len"
  | .list => .type "list"
  | .tuple => .type "tuple"
  | .int => .type "int"
  | .sum => .builtin "sum"
  | .min => .builtin "min"
  | .max => .builtin "max"
  | .all => .builtin "all"
  | .any => .builtin "any"
  | .gcd => .builtin "math.gcd"
  | .isqrt => .builtin "math.isqrt"
  | .sorted => .builtin "sorted"
  | .dict => .type "dict"
  | .str => .type "str"
theorem ints_reps {K : PySem.W.Frag} {H : Hp} {as : List Addr} : ∀ {xs : List D} {vs : List V} {ns : List Int}, Reps K H as xs vs → intsD xs = some ns → vs = ns.map V.int
  | _, _, _, .nil, e => by cases e; rfl
  | _, _, _, .cons h r, e => by
    cases h with
    | int i =>
      simp only [intsD] at e
      obtain ⟨ms, e1, e2⟩ := Option.map_eq_some_iff.mp e
      cases e2
      rw [ints_reps r e1]
      rfl
    | _ => cases e
theorem bools_reps {K : PySem.W.Frag} {H : Hp} {as : List Addr} : ∀ {xs : List D} {vs : List V} {ns : List Bool}, Reps K H as xs vs → boolsD xs = some ns → vs = ns.map V.bl
  | _, _, _, .nil, e => by cases e; rfl
  | _, _, _, .cons h r, e => by
    cases h with
    | bl i =>
      simp only [boolsD] at e
      obtain ⟨ms, e1, e2⟩ := Option.map_eq_some_iff.mp e
      cases e2
      rw [bools_reps r e1]
      rfl
    | _ => cases e
theorem Reps.one {K : PySem.W.Frag} {H : Hp} {as : List Addr} {x : D} {vs : List V} (r : Reps K H as [x] vs) : ∃ v, vs = [v] ∧ Rep K H as x v := by
  cases r with
  | cons h t => cases t; exact ⟨_, rfl, h⟩
theorem Reps.two {K : PySem.W.Frag} {H : Hp} {as : List Addr} {x y : D} {vs : List V} (r : Reps K H as [x, y] vs) : ∃ v w, vs = [v, w] ∧ Rep K H as x v ∧ Rep K H as y w := by
  cases r with
  | cons h t =>
    obtain ⟨w, e, r⟩ := t.one
    subst e
    exact ⟨_, _, rfl, h, r⟩
theorem isqrt_is {r n : Nat} (h1 : r * r ≤ n) (h2 : n < (r + 1) * (r + 1)) : Float64.isqrt n = r := by
  obtain ⟨h3, h4⟩ := PySem.Float64.isqrt_spec n
  have a : ¬ r < Float64.isqrt n := fun h => by
    have : (r + 1) * (r + 1) ≤ Float64.isqrt n * Float64.isqrt n := Nat.mul_le_mul h h
    omega
  have b : ¬ Float64.isqrt n < r := fun h => by
    have : (Float64.isqrt n + 1) * (Float64.isqrt n + 1) ≤ r * r := Nat.mul_le_mul h h
    omega
  omega
theorem pairs_reps {K : PySem.W.Frag} {H : Hp} {as : List Addr} : ∀ {xs : List D} {vs : List V} {kvs : List (Key × D)}, Reps K H as xs vs → pairsOf xs = some kvs →
    ∃ (ps : List Addr) (ws : List (Key × V)), vs = ps.map V.ref ∧ Paired (fun p kv => SqT K H p [kV kv.1, kv.2]) ps ws ∧ RepK K H as kvs ws
  | _, _, _, .nil, e => by cases e; exact ⟨[], [], rfl, .nil, .nil⟩
  | _, _, _, .cons h r, e => by
    cases h with
    | @tup ys a us hs q =>
      unfold pairsOf at e
      split at e
      · rename_i e1
        cases e1
      · rename_i k v r' e1
        injection e1 with e1 e2
        cases e1
        subst e2
        split at e
        · rename_i ky ek
          obtain ⟨ms, e1, e2⟩ := Option.map_eq_some_iff.mp e
          subst e2
          obtain ⟨ps, ws, h1, h2, h3⟩ := pairs_reps r e1
          obtain ⟨kv, vv, e3, rk, rv⟩ := q.two
          subst e3
          have := key_of_rep rk ek
          subst this
          refine ⟨a :: ps, (ky, vv) :: ws, by rw [h1]; rfl, .cons hs h2, .cons ⟨rfl, rv⟩ h3⟩
        · cases e
      · cases e
    | _ => cases e
theorem bi_abs_ok : CallR X (biV .abs) (liftB X.K .abs) := by
  intro pins s σ H vs us QV I r ⟨as, S, ds, Q, sim, rs, h, imp⟩
  match ds, rs, h with
  | [.int i], rs, h =>
    obtain ⟨v, e, rv⟩ := rs.one
    subst e
    cases rv
    exact call_abs pins s σ H _ us QV I r ⟨i, rfl, imp.now sim (.int _) h⟩
theorem bi_len_ok : CallR X (biV .len) (liftB X.K .len) := by
  intro pins s σ H vs us QV I r ⟨as, S, ds, Q, sim, rs, h, imp⟩
  match ds, rs, h with
  | [.tup xs], rs, h =>
    obtain ⟨v, e, rv⟩ := rs.one
    subst e
    cases rv with
    | @tup _ a ws hx r2 => exact call_len pins s σ H _ us QV I r ⟨_, xs.length, rfl, .inr ⟨ws, hx, r2.length⟩, imp.now sim (.int _) h⟩
  | [.fz xs], rs, h =>
    obtain ⟨v, e, rv⟩ := rs.one
    subst e
    cases rv with
    | @fz _ a ws hx r2 => exact call_len pins s σ H _ us QV I r ⟨_, xs.length, rfl, .inl ⟨ws, hx.sq, r2.length⟩, imp.now sim (.int _) h⟩
  | [.str z], rs, h =>
    obtain ⟨v, e, rv⟩ := rs.one
    subst e
    cases rv
    exact call_len pins s σ H _ us QV I r ⟨_, z.length, rfl, ⟨Nat.le_trans h.1 most_le, rfl⟩, imp.now sim (.int _) h.2⟩
  | [.ref n], rs, h =>
    obtain ⟨v, e, rv⟩ := rs.one
    subst e
    rcases h with ⟨xs, e, q⟩ | ⟨kvs, e, q⟩
    · obtain ⟨a, ws, e1, _, hx, r2⟩ := sim.seq rv e
      subst e1
      exact call_len pins s σ H _ us QV I r ⟨_, xs.length, rfl, .inl ⟨ws, hx, r2.length⟩, imp.now sim (.int _) q⟩
    · obtain ⟨a, ws, e1, _, hr, rk⟩ := sim.dct rv e
      subst e1
      obtain ⟨u, e2, ru⟩ := vals1 r
      subst e2
      obtain rfl : u = Value.ref a := ru
      have hl : kvs.length = ws.length := Paired.length rk
      rw [hl] at q
      exact d_len I hr fun t s' I' => ⟨V.int (ws.length : Nat), H, I', ⟨t, rfl⟩, imp.now sim (.int _) q⟩
theorem bi_list_ok : CallR X (biV .list) (liftB X.K .list) := by
  intro pins s σ H vs us QV I r ⟨as, S, ds, Q, sim, rs, h, imp⟩
  match ds, rs, h with
  | [x], rs, h =>
    obtain ⟨v, e, rv⟩ := rs.one
    subst e
    obtain ⟨xs, e, q⟩ := h
    cases rv with
    | @tup ys a ws hx r2 =>
      cases e
      exact call_list_of pins s σ H _ us QV I r ⟨a, ws, rfl, .inr hx, fun p hp => imp.newList sim r2 hp q⟩
    | @ref n a ea =>
      obtain ⟨a', ws, e1, _, hx, r2⟩ := sim.seq (.ref ea) e
      cases e1
      exact call_list_of pins s σ H _ us QV I r ⟨a, ws, rfl, .inl hx, fun p hp => imp.newList sim r2 hp q⟩
    | @fz ys a ws hx r2 =>
      cases e
      exact call_list_of pins s σ H _ us QV I r ⟨a, ws, rfl, .inl hx.sq, fun p hp => imp.newList sim r2 hp q⟩
    | _ => cases e
theorem bi_tuple_ok : CallR X (biV .tuple) (liftB X.K .tuple) := by
  intro pins s σ H vs us QV I r ⟨as, S, ds, Q, sim, rs, h, imp⟩
  match ds, rs, h with
  | [x], rs, h =>
    obtain ⟨v, e, rv⟩ := rs.one
    subst e
    obtain ⟨xs, e, q⟩ := h
    cases rv with
    | @tup ys a ws hx r2 =>
      cases e
      exact call_tuple_of pins s σ H _ us QV I r ⟨a, ws, rfl, .inr ⟨hx, imp.now sim (.tup hx r2) q⟩⟩
    | @ref n a ea =>
      obtain ⟨a', ws, e1, _, hx, r2⟩ := sim.seq (.ref ea) e
      cases e1
      exact call_tuple_of pins s σ H _ us QV I r ⟨a, ws, rfl, .inl ⟨hx, fun p hp => imp.newTup sim r2 hp q⟩⟩
    | @fz ys a ws hx r2 =>
      cases e
      exact call_tuple_of pins s σ H _ us QV I r ⟨a, ws, rfl, .inl ⟨hx.sq, fun p hp => imp.newTup sim r2 hp q⟩⟩
    | _ => cases e
theorem bi_int_ok : CallR X (biV .int) (liftB X.K .int) := by
  intro pins s σ H vs us QV I r ⟨as, S, ds, Q, sim, rs, h, imp⟩
  match ds, rs, h with
  | [.int i], rs, h =>
    obtain ⟨v, e, rv⟩ := rs.one
    subst e
    cases rv
    exact call_int1 pins s σ H _ us QV I r (.inl ⟨i, rfl, imp.now sim (.int _) h⟩)
  | [.bl k], rs, h =>
    obtain ⟨v, e, rv⟩ := rs.one
    subst e
    cases rv
    exact call_int1 pins s σ H _ us QV I r (.inr ⟨k, rfl, imp.now sim (.int _) h⟩)
theorem bi_sum_ok (hc : X.calm = true) : CallR X (biV .sum) (liftB X.K .sum) := by
  intro pins s σ H vs us QV I r ⟨as, S, ds, Q, sim, rs, h, imp⟩
  match ds, rs, h with
  | [.ref n], rs, h =>
    obtain ⟨v, e, rv⟩ := rs.one
    subst e
    obtain ⟨xs, ns, e, en, q⟩ := h
    obtain ⟨a, ws, e1, _, hx, r2⟩ := sim.seq rv e
    subst e1
    have := ints_reps r2 en
    subst this
    exact cr_sum hc pins s σ H _ us QV I r ⟨a, ns, rfl, hx, imp.now sim (.int _) q⟩
theorem bi_min_ok (hc : X.calm = true) : CallR X (biV .min) (liftB X.K .min) := by
  intro pins s σ H vs us QV I r ⟨as, S, ds, Q, sim, rs, h, imp⟩
  match ds, rs, h with
  | [.int i, .int j], rs, h =>
    obtain ⟨v, w, e, rv, rw'⟩ := rs.two
    subst e
    cases rv
    cases rw'
    exact call_min2 hc pins s σ H _ us QV I r ⟨i, j, rfl, imp.now sim (.int _) h⟩
  | [.ref n], rs, h =>
    obtain ⟨v, e, rv⟩ := rs.one
    subst e
    obtain ⟨xs, ns, m, e, en, hm, hle, q⟩ := h
    obtain ⟨a, ws, e1, _, hx, r2⟩ := sim.seq rv e
    subst e1
    have := ints_reps r2 en
    subst this
    refine cr_min hc pins s σ H _ us QV I r ⟨a, ns, rfl, hx, List.length_pos_of_mem hm, fun m' h1 h2 => ?_⟩
    have : m' = m := Int.le_antisymm (h2 m hm) (hle m' h1)
    subst this
    exact imp.now sim (.int _) q
theorem bi_max_ok (hc : X.calm = true) : CallR X (biV .max) (liftB X.K .max) := by
  intro pins s σ H vs us QV I r ⟨as, S, ds, Q, sim, rs, h, imp⟩
  match ds, rs, h with
  | [.int i, .int j], rs, h =>
    obtain ⟨v, w, e, rv, rw'⟩ := rs.two
    subst e
    cases rv
    cases rw'
    exact call_max2 hc pins s σ H _ us QV I r ⟨i, j, rfl, imp.now sim (.int _) h⟩
  | [.ref n], rs, h =>
    obtain ⟨v, e, rv⟩ := rs.one
    subst e
    obtain ⟨xs, ns, m, e, en, hm, hle, q⟩ := h
    obtain ⟨a, ws, e1, _, hx, r2⟩ := sim.seq rv e
    subst e1
    have := ints_reps r2 en
    subst this
    refine cr_max hc pins s σ H _ us QV I r ⟨a, ns, rfl, hx, List.length_pos_of_mem hm, fun m' h1 h2 => ?_⟩
    have : m' = m := Int.le_antisymm (hle m' h1) (h2 m hm)
    subst this
    exact imp.now sim (.int _) q
theorem bi_all_ok (hc : X.calm = true) : CallR X (biV .all) (liftB X.K .all) := by
  intro pins s σ H vs us QV I r ⟨as, S, ds, Q, sim, rs, h, imp⟩
  match ds, rs, h with
  | [.ref n], rs, h =>
    obtain ⟨v, e, rv⟩ := rs.one
    subst e
    obtain ⟨xs, ns, e, en, q⟩ := h
    obtain ⟨a, ws, e1, _, hx, r2⟩ := sim.seq rv e
    subst e1
    have := bools_reps r2 en
    subst this
    exact cr_all hc pins s σ H _ us QV I r ⟨a, ns, rfl, hx, imp.now sim (.bl _) q⟩
theorem bi_any_ok (hc : X.calm = true) : CallR X (biV .any) (liftB X.K .any) := by
  intro pins s σ H vs us QV I r ⟨as, S, ds, Q, sim, rs, h, imp⟩
  match ds, rs, h with
  | [.ref n], rs, h =>
    obtain ⟨v, e, rv⟩ := rs.one
    subst e
    obtain ⟨xs, ns, e, en, q⟩ := h
    obtain ⟨a, ws, e1, _, hx, r2⟩ := sim.seq rv e
    subst e1
    have := bools_reps r2 en
    subst this
    exact cr_any hc pins s σ H _ us QV I r ⟨a, ns, rfl, hx, imp.now sim (.bl _) q⟩
theorem bi_gcd_ok : CallR X (biV .gcd) (liftB X.K .gcd) := by
  intro pins s σ H vs us QV I r ⟨as, S, ds, Q, sim, rs, h, imp⟩
  match ds, rs, h with
  | [.int i, .int j], rs, h =>
    obtain ⟨v, w, e, rv, rw'⟩ := rs.two
    subst e
    cases rv
    cases rw'
    exact cr_gcd pins s σ H _ us QV I r ⟨i, j, rfl, imp.now sim (.int _) h⟩
theorem bi_isqrt_ok : CallR X (biV .isqrt) (liftB X.K .isqrt) := by
  intro pins s σ H vs us QV I r ⟨as, S, ds, Q, sim, rs, h, imp⟩
  match ds, rs, h with
  | [.int i], rs, h =>
    obtain ⟨v, e, rv⟩ := rs.one
    subst e
    cases rv
    obtain ⟨z, h0, h1, h2, h3, q⟩ := h
    obtain ⟨u, e2, ru⟩ := vals1 r
    subst e2
    obtain ⟨t, rfl⟩ := ru
    have e := isqrt_is h2 h3
    have g := (PySem.W.mg_run_isqrt i t (by omega) (by omega) (by omega)).meets
    rw [e] at g
    exact call_function_meets PySem.W.MGF.kind_isqrt PySem.W.MGF.plain_isqrt PySem.W.MGF.entry_isqrt (PySem.W.MGF.args_isqrt _) g ⟨V.int (z : Int), H, I.tok _, ⟨_, rfl⟩, imp.now sim (.int _) q⟩
theorem bi_dict_ok (hc : X.calm = true) : CallR X (biV .dict) (liftB X.K .dict) := by
  intro pins s σ H vs us QV I r ⟨as, S, ds, Q, sim, rs, h, imp⟩
  match ds, rs, h with
  | [.ref n], rs, h =>
    obtain ⟨v, e, rv⟩ := rs.one
    subst e
    obtain ⟨xs, kvs, e, ek, q⟩ := h
    obtain ⟨a, ws, e1, _, hx, r2⟩ := sim.seq rv e
    subst e1
    obtain ⟨ps, zs, e2, h1, h2⟩ := pairs_reps r2 ek
    subst e2
    exact call_dictP hc pins s σ H _ us QV I r ⟨a, ps, zs, rfl, hx, h1, fun p hp => imp.newDct sim (h2.merge .nil) hp q⟩
theorem bi_ok (b : Bi) (hc : X.calm = true) : CallR X (biV b) (liftB X.K b) := by
  cases b with
  | abs => exact bi_abs_ok
  | len => exact bi_len_ok
  | list => exact bi_list_ok
  | tuple => exact bi_tuple_ok
  | int => exact bi_int_ok
  | sum => exact bi_sum_ok hc
  | min => exact bi_min_ok hc
  | max => exact bi_max_ok hc
  | all => exact bi_all_ok hc
  | any => exact bi_any_ok hc
  | gcd => exact bi_gcd_ok
  | isqrt => exact bi_isqrt_ok
  | dict => exact bi_dict_ok hc
  | sorted => exact fun _ _ _ _ _ _ _ _ _ ⟨_, _, ds, _, _, _, h, _⟩ => by cases ds <;> exact h.elim
  | str => exact fun _ _ _ _ _ _ _ _ _ ⟨_, _, ds, _, _, _, h, _⟩ => by cases ds <;> exact h.elim
end
end Ev
end
section
set_option Elab.async false
set_option linter.all false
set_option maxRecDepth 100000
set_option maxHeartbeats 1000000
/-! Ev's methods, stores, isinstance, by values. -/
namespace Ev
open PySem PySem.Spec PyProof.Rows L2
section
variable {X : Cx}
def liftM (K : PySem.W.Frag) (m : Me) : V → List V → Hp → VK → Prop := fun vx vs H QV => ∃ as S x ds Q, Sim K H as S ∧ Rep K H as x vx ∧ Reps K H as ds vs ∧ meSem m x ds S Q ∧ impQ K as H Q QV
def meId : Me → String
  | .append => "list.append"
  | .extend => "list.extend"
  | .pop => "list.pop"
theorem impQ.write {K : PySem.W.Frag} {H : Hp} {as : List Addr} {S : Sto} {Q : Po} {QV : VK} {d : D} {v : V} {n : Nat} {a : Addr} {xs ys : List D} {vs ws : List V} (i : impQ K as H Q QV) (s : Sim K H as S)
    (hn : S[n]? = some (.lst xs)) (ea : as[n]? = some a) (he : H a = some (.lst vs)) (r : Reps K H as ys ws) (rd : Rep K H as d v) (q : Q d (S.set n (.lst ys))) : QV v (upd H a (.lst ws)) := by
  have x : Ext as as H (upd H a (.lst ws)) := Ext.write (List.mem_of_getElem? ea) he (fun _ z => nomatch z) (fun _ _ z => nomatch z)
  exact i _ _ as _ _ x (s.write (ob' := .lst ys) hn ea he (fun _ z => nomatch z) (fun _ _ z => nomatch z) ⟨ws, upd_same, Reps.ext x r⟩) (Rep.ext x rd) q
theorem place_seq {n : Nat} {i : Int} {j : Nat} (h : place n i = some j) : seqIndex? i n = some j ∧ j < n ∧ -(n : Int) ≤ i ∧ i < n := ixN_seq h
theorem me_append_ok : MtR X "list.append" (liftM X.K .append) := by
  intro pins s σ H vx vs u us QV I ru rs ⟨as, S, x, ds, Q, sim, rx, rd, h, imp⟩
  match x, ds, rx, rd, h with
  | .ref n, [y], rx, rd, h =>
    obtain ⟨xs, e, hl, q⟩ := h
    obtain ⟨a, ws, e1, ea, hn, he, r⟩ := sim.lst rx e
    subst e1
    obtain ⟨v, e2, rv⟩ := rd.one
    subst e2
    have := most_le
    exact mt_append pins s σ H _ _ u us QV I ru rs ⟨a, ws, v, rfl, rfl, he, by rw [← r.length]; omega, imp.write sim hn ea he (r.append (.cons rv .nil)) .non q⟩
theorem me_extend_ok : MtR X "list.extend" (liftM X.K .extend) := by
  intro pins s σ H vx vs u us QV I ru rs ⟨as, S, x, ds, Q, sim, rx, rd, h, imp⟩
  match x, ds, rx, rd, h with
  | .ref n, [.ref k], rx, rd, h =>
    obtain ⟨xs, ys, hnk, e, e', hl, q⟩ := h
    obtain ⟨a, ws, e1, ea, hn, he, r⟩ := sim.lst rx e
    subst e1
    obtain ⟨v, e2, rv⟩ := rd.one
    subst e2
    obtain ⟨b, zs, e3, eb, hk, he', r'⟩ := sim.lst rv e'
    subst e3
    exact mt_extend pins s σ H _ _ u us QV I ru rs ⟨a, b, ws, zs, rfl, rfl, he, he', by rw [← r.length, ← r'.length]; exact Nat.le_trans hl most_le, imp.write sim hn ea he (r.append r') .non q⟩
theorem Reps.snoc {K : PySem.W.Frag} {H : Hp} {as : List Addr} {xs : List D} {y : D} {vs : List V} (r : Reps K H as (xs ++ [y]) vs) : ∃ ws v, vs = ws ++ [v] ∧ Reps K H as xs ws ∧ Rep K H as y v := by
  have hl := r.length
  have r1 := r.take xs.length
  have r2 := r.drop xs.length
  rw [List.take_left] at r1
  rw [List.drop_left] at r2
  obtain ⟨v, e, rv⟩ := r2.one
  exact ⟨_, v, by rw [← e, List.take_append_drop], r1, rv⟩
theorem me_pop_ok : MtR X "list.pop" (liftM X.K .pop) := by
  intro pins s σ H vx vs u us QV I ru rs ⟨as, S, x, ds, Q, sim, rx, rd, h, imp⟩
  match x, ds, rx, rd, h with
  | .ref n, [], rx, rd, h =>
    obtain ⟨xs, y, e, q⟩ := h
    obtain ⟨a, ws, e1, ea, hn, he, r⟩ := sim.lst rx e
    subst e1
    cases rd
    obtain ⟨ws', v, e2, r1, rv⟩ := r.snoc
    subst e2
    refine mt_pop pins s σ H _ _ u us QV I ru rs ⟨a, _, v, rfl, rfl, he, by simp, ?_⟩
    rw [List.dropLast_concat]
    exact imp.write sim hn ea he r1 rv q
  | .ref n, [.int i], rx, rd, h =>
    obtain ⟨xs, j, y, e, hp, hj, q⟩ := h
    obtain ⟨a, ws, e1, ea, hn, he, r⟩ := sim.lst rx e
    subst e1
    obtain ⟨v, e2, rv⟩ := rd.one
    subst e2
    cases rv
    obtain ⟨v, ev, rv⟩ := r.get hj
    obtain ⟨h1, h2, h3, h4⟩ := place_seq hp
    obtain ⟨_, _, _, _, hz⟩ := I.lst he
    have hl := line63
    have hrl := r.length
    exact mt_popAt pins s σ H _ _ u us QV I ru rs ⟨a, ws, i, j, v, rfl, rfl, he, by omega, by omega, by rw [← hrl]; exact h1, ev, imp.write sim hn ea he (r.eraseIdx j) rv q⟩
theorem me_ok (m : Me) : MtR X (meId m) (liftM X.K m) := by
  cases m with
  | append => exact me_append_ok
  | extend => exact me_extend_ok
  | pop => exact me_pop_ok
/-- o[i] = v -/
def liftSet (K : PySem.W.Frag) : TSet := fun vo vi vv H QH => ∃ as S o i v Q, Sim K H as S ∧ Rep K H as o vo ∧ Rep K H as i vi ∧ Rep K H as v vv ∧ setSem o i v S Q ∧ ∀ S' H', Ext as as H H' → Sim K H' as S' → Q S' → QH H'
theorem set_ok (hu : X.A.units + 1 < cLine) : PSet X (liftSet X.K) := by
  intro pins s σ H vo vi vv ov iv u QH I ro ri rv ⟨as, S, o, i, v, Q, sim, so, si, sv, h, imp⟩
  match o, so, h with
  | .ref n, so, h =>
    rcases h with ⟨xs, j, p, e, ei, hp, q⟩ | ⟨kvs, ky, e, ek, hl, q⟩
    · obtain ⟨a, ws, e1, ea, hn, he, r⟩ := sim.lst so e
      subst e1 ei
      cases si
      have x : Ext as as H (upd H a (.lst (ws.set p vv))) := Ext.write (List.mem_of_getElem? ea) he (fun _ z => nomatch z) (fun _ _ z => nomatch z)
      refine set_list pins s σ H _ _ vv ov iv u QH I ro ri rv ⟨a, ws, j, p, rfl, rfl, he, by rw [← r.length]; exact hp, ?_⟩
      exact imp _ _ x (sim.write (ob' := .lst (xs.set p v)) hn ea he (fun _ z => nomatch z) (fun _ _ z => nomatch z) ⟨_, upd_same, Reps.ext x (r.set p sv)⟩) q
    · cases so with
      | @ref _ a ea =>
        obtain ⟨a', ea', ws, he, rk⟩ := sim.at_ n _ e
        rw [ea] at ea'
        cases ea'
        have ev := key_of_rep si ek
        subst ev
        obtain rfl : ov = Value.ref a := ro
        have x : Ext as as H (upd H a (.dK (putK ws ky vv))) := Ext.write (List.mem_of_getElem? ea) he (fun _ z => nomatch z) (fun _ _ z => nomatch z)
        have hl' : kvs.length = ws.length := Paired.length rk
        refine d_setItem hu I (DPut.k he (by rw [sizeLine_eq]; omega)) ri rv fun s' I' => ⟨_, I', ?_⟩
        exact imp _ _ x (sim.write (ob' := .dct (putD kvs ky v)) e ea he (fun _ z => nomatch z) (fun _ _ z => nomatch z) ⟨_, upd_same, L2.Paired.mapP (rk.put ky sv) fun _ _ z => ⟨z.1, Rep.ext x z.2⟩⟩) q
/-! ### isinstance -/
def tyS : Ty → String
  | .non => "NoneType"
  | .bool => "bool"
  | .int => "int"
  | .str => "str"
  | .tup => "tuple"
  | .lst => "list"
  | .dct => "dict"
theorem ty_rep {K : PySem.W.Frag} {H : Hp} {as : List Addr} {S : Sto} {d : D} {v : V} {t : Ty} (sim : Sim K H as S) (r : Rep K H as d v) (h : tyOf S d = some t) : TyX K H v (.type (tyS t)) := by
  cases r with
  | non => cases h; exact .base .non
  | bl b => cases h; exact .base (.bl b)
  | int i => cases h; exact .base (.int i)
  | str x => cases h; exact .base (.str x)
  | tup hs _ =>
    cases h
    rcases hs with (e | ⟨o, e⟩) | ⟨o, its, n, e, c, _⟩
    · exact .base (.tup e)
    · exact .fTuple e
    · exact .kTuple e c
  | fz hs _ =>
    cases h
    rcases hs with ⟨o, e⟩ | ⟨o, its, n, e, c, _⟩
    · exact .base (.frz e)
    · exact .kList e c
  | @ref n a ea =>
    unfold tyOf at h
    cases q : S[n]? with
    | none => simp only [q] at h; cases h
    | some o =>
      obtain ⟨a', e1, w⟩ := sim.at_ n o q
      rw [ea] at e1
      cases e1
      simp only [q] at h
      cases o with
      | lst xs => cases h; obtain ⟨vs, e, _⟩ := w; exact .base (.lst e)
      | dct kvs => cases h; obtain ⟨ws, e, _⟩ := w; exact .base (.dK e)
      | fdc kvs => cases h; obtain ⟨o, ws, e, _⟩ := w; exact .fDict e
theorem kit_sub (t c : Ty) (hc : c ≠ .non) : kitB (tyS t) (tyS c) = some (subTy t c) := by
  cases c with
  | non => exact absurd rfl hc
  | _ => cases t <;> decide +kernel
theorem kit_any {K : PySem.W.Frag} (t : Ty) : ∀ cs : List Ty, (∀ c ∈ cs, c ≠ .non) → PySem.W.kitAny K (.type (tyS t)) (cs.map fun c => .type (tyS c)) = some (cs.any (subTy t))
  | [], _ => kitAny_nil
  | c :: cs, h => by
    rw [List.map_cons, List.any_cons]
    refine kitAny_cons (kit_ty (kit_sub t c (h c List.mem_cons_self))) (fun e => ?_) fun e => by rw [e]; rfl
    rw [e, Bool.false_or]
    exact kit_any t cs fun d hd => h d (List.mem_cons_of_mem _ hd)
end
end Ev
end
section
set_option Elab.async false
set_option linter.all false
set_option maxRecDepth 100000
set_option maxHeartbeats 1000000
/-! Ev's expressions, sound over the hand layer. -/
namespace Ev
open PySem PySem.Spec PyProof.Rows L2
/-- what is known of a program's names: its defs with their parameters, its error classes with their fields -/
structure Gi where
  fns : List (Str × List Str)
  cls : List (Str × List Str)
  con : List (Str × D)
  bis : List Bi
  fre : List Str
  kws : List (Nat × Nat × List Str × List Nat)
/-- an error of the class c with the fields fs -/
def ExRep (G : Gi) (K : PySem.W.Frag) (H : Hp) (as : List Addr) (c : Nat) (fs : List D) (cls : Value) (d : Option Addr) : Prop :=
  ∃ x ns, G.cls[c]? = some (x, ns) ∧ cls = .ref (He.ga K x) ∧ fs.length = ns.length ∧
    ((ns = [] ∧ d = none) ∨ (ns ≠ [] ∧ ∃ dd ws, d = some dd ∧ H dd = some (.xd ws) ∧ ∀ (j : Nat) (n : Str) (f : D), ns[j]? = some n → fs[j]? = some f → ∃ v, ws.lookup n = some v ∧ Rep K H as f v))
def impE (G : Gi) (K : PySem.W.Frag) (as : List Addr) (H : Hp) (σ : L2.St) (E : Xo) (W : WX) : Prop :=
  ∀ c fs S' as' H' cls d, Ext as as' H H' → Sim K H' as' S' → ExRep G K H' as' c fs cls d → E c fs S' → W cls d σ H'
structure RelE (K : PySem.W.Frag) (H : Hp) (as : List Addr) (env : Env) (σ : L2.St) : Prop where
  len : env.length = σ.length
  at_ : ∀ (i : Nat) (d : D), env[i]? = some (some d) → ∃ v, σ[i]? = some (some v) ∧ Rep K H as d v
section
variable {G : Gi} {K : PySem.W.Frag} {H H' : Hp} {as as' : List Addr} {env : Env} {σ : L2.St} {Q : Po} {QV : VK} {E : Xo} {W : WX}
theorem RelE.ext (x : Ext as as' H H') (r : RelE K H as env σ) : RelE K H' as' env σ := ⟨r.len, fun i d e => let ⟨v, e1, h⟩ := r.at_ i d e; ⟨v, e1, Rep.ext x h⟩⟩
theorem impQ.step (x : Ext as as' H H') (i : impQ K as H Q QV) : impQ K as' H' Q QV := fun d S' as2 v H2 y s r q => i d S' as2 v H2 (x.trans y) s r q
theorem impE.step (x : Ext as as' H H') (i : impE G K as H σ E W) : impE G K as' H' σ E W := fun c fs S' as2 H2 cls d y s r q => i c fs S' as2 H2 cls d (x.trans y) s r q
theorem RelE.set {i : Nat} {d : D} {v : V} (r : RelE K H as env σ) (h : Rep K H as d v) : RelE K H as (env.set i (some d)) (σ.set i (some v)) := by
  refine ⟨by simp [r.len], fun j c e => ?_⟩
  by_cases hj : j = i
  · subst hj
    have hl : j < env.length := by
      have := (List.getElem?_eq_some_iff.mp e).1
      simpa using this
    rw [List.getElem?_set_self hl] at e
    cases e
    exact ⟨v, List.getElem?_set_self (by rw [← r.len]; exact hl), h⟩
  · rw [List.getElem?_set_ne (Ne.symm hj)] at e
    obtain ⟨w, e1, q⟩ := r.at_ j c e
    exact ⟨w, by rw [List.getElem?_set_ne (Ne.symm hj)]; exact e1, q⟩
theorem RelE.wipe (r : RelE K H as env σ) : ∀ vs : List Nat, RelE K H as (Ev.wipe env vs) (L2.wipe σ vs)
  | [] => r
  | v :: vs => by
    have q := RelE.wipe r vs
    refine ⟨by unfold Ev.wipe L2.wipe; simp [q.len], fun j c e => ?_⟩
    unfold Ev.wipe at e
    unfold L2.wipe
    by_cases hj : j = v
    · subst hj
      have hl : j < (Ev.wipe env vs).length := by
        have := (List.getElem?_eq_some_iff.mp e).1
        simpa using this
      rw [List.getElem?_set_self hl] at e
      cases e
    · rw [List.getElem?_set_ne (Ne.symm hj)] at e
      obtain ⟨w, e1, h⟩ := q.at_ j c e
      exact ⟨w, by rw [List.getElem?_set_ne (Ne.symm hj)]; exact e1, h⟩
end
/-! ### the readings -/
def liftE (G : Gi) (K : PySem.W.Frag) (C : Orc) (W : WX) (e : Ex) : TE := fun σ H QV => ∃ as env S Q E, Sim K H as S ∧ RelE K H as env σ ∧ wpE C e env S Q E ∧ impQ K as H Q QV ∧ impE G K as H σ E W
def liftT (G : Gi) (K : PySem.W.Frag) (C : Orc) (W : WX) (e : Ex) : TT := fun σ H QB => ∃ (as : List Addr) (env : Env) (S : Sto) (Q : Bool → Sto → Prop) (E : Xo), Sim K H as S ∧ RelE K H as env σ ∧ wpE C e env S (fun d S1 => ∃ r, d = .bl r ∧ Q r S1) E ∧
  (∀ r S' as' H', Ext as as' H H' → Sim K H' as' S' → Q r S' → QB r H') ∧ impE G K as H σ E W
def liftEs (G : Gi) (K : PySem.W.Frag) (C : Orc) (W : WX) (es : Exs) : TA := fun σ H QL => ∃ (as : List Addr) (env : Env) (S : Sto) (Q : Pl) (E : Xo), Sim K H as S ∧ RelE K H as env σ ∧ wpEs C es env S Q E ∧
  (∀ ds S' as' vs H', Ext as as' H H' → Sim K H' as' S' → Reps K H' as' ds vs → Q ds S' → QL vs H') ∧ impE G K as H σ E W
def liftP (G : Gi) (K : PySem.W.Frag) (C : Orc) (W : WX) (p : Pt) : TO := fun σ H QO => ∃ (as : List Addr) (env : Env) (S : Sto) (Q : Option Int → Sto → Prop) (E : Xo), Sim K H as S ∧ RelE K H as env σ ∧ wpP C p env S Q E ∧
  (∀ o S' as' H', Ext as as' H H' → Sim K H' as' S' → Q o S' → QO o H') ∧ impE G K as H σ E W
theorem _root_.L2.PE.weak {X : Cx} {e : Expr} {t t' : TE} (h : PE X e t) (w : ∀ σ H Q, t' σ H Q → t σ H Q) : PE X e t' := ⟨fun pins s σ H Q I q => h.run pins s σ H Q I (w _ _ _ q)⟩
theorem _root_.L2.PT.weak {X : Cx} {e : Expr} {t t' : TT} (h : PT X e t) (w : ∀ σ H Q, t' σ H Q → t σ H Q) : PT X e t' := ⟨fun pins s σ H Q I q => h.run pins s σ H Q I (w _ _ _ q)⟩
theorem _root_.L2.PW.weak {X : Cx} {e : Expr} {t t' : TT} (h : PW X e t) (w : ∀ σ H Q, t' σ H Q → t σ H Q) : PW X e t' := ⟨fun wh pins s σ H Q I q => h.run wh pins s σ H Q I (w _ _ _ q)⟩
theorem _root_.L2.PA.weak {X : Cx} {e : List Expr} {t t' : TA} (h : PA X e t) (w : ∀ σ H Q, t' σ H Q → t σ H Q) : PA X e t' := ⟨fun pos pins s σ H Q I q => h.run pos pins s σ H Q I (w _ _ _ q)⟩
theorem _root_.L2.PO.weak {X : Cx} {e : Option Expr} {t t' : TO} (h : PO X e t) (w : ∀ σ H Q, t' σ H Q → t σ H Q) : PO X e t' := ⟨fun pins s σ H Q I q => h.run pins s σ H Q I (w _ _ _ q)⟩
theorem _root_.L2.PS.weak {X : Cx} {st : Stmt} {t t' : TS} (h : PS X st t) (w : ∀ D σ H, t' D σ H → t D σ H) : PS X st t' := ⟨fun pins s σ H D I q => h.run pins s σ H D I (w _ _ _ q)⟩
theorem _root_.L2.PSs.weak {X : Cx} {st : List Stmt} {t t' : TS} (h : PSs X st t) (w : ∀ D σ H, t' D σ H → t D σ H) : PSs X st t' := ⟨fun pins s σ H D I q => h.run pins s σ H D I (w _ _ _ q)⟩
/-! ### syntax looks -/
def notStar : Expr → Bool
  | .Starred _ _ => false
  | _ => true
theorem starEach_plain {e : Expr} {es : List Expr} {env : PySem.Env} (h : notStar e = true) : starEach (e :: es) env = (false, eval e env) :: starEach es env := by
  cases e <;> first | rfl | cases h
def allPlain : List Expr → Bool
  | [] => true
  | e :: es => notStar e && allPlain es
theorem back_plain {pos : Pos} {env : PySem.Env} : ∀ {es : List Expr}, allPlain es = true → (backTo pos (starEach es env)).any (·.1) = false
  | [], _ => by show (backTo pos []).any _ = false; rfl
  | e :: es, h => by
    obtain ⟨h1, h2⟩ := Bool.and_eq_true_iff.mp h
    rw [starEach_plain h1]
    show (false || (backTo pos (starEach es env)).any (·.1)) = false
    rw [back_plain h2]
    rfl
def notSlice : Expr → Bool
  | .Slice _ _ _ _ => false
  | _ => true
theorem plainIx_of {b : Expr} (h : notSlice b = true) : PlainIx b := by
  intro o i
  cases b <;> first | rfl | cases h
/-- an expression whose truth is that of its value -/
def plainTest : Expr → Bool
  | .UnaryOp .Not _ _ => false
  | .BoolOp _ _ _ => false
  | .IfExp _ _ _ _ => false
  | .Compare _ _ _ _ => false
  | _ => true
theorem isTrue_plain' {e : Expr} {env : PySem.Env} (h : plainTest e = true) (whole : Sem Value) : isTrue e env whole = (do let v ← whole; standAt e.pos; holding [v] (truthy v)) := by
  cases e with
  | UnaryOp op a p => cases op <;> first | rfl | cases h
  | BoolOp _ _ _ => cases h
  | IfExp _ _ _ _ => cases h
  | Compare _ _ _ _ => cases h
  | _ => rfl
def notComp : Expr → Bool
  | .ListComp _ _ _ _ => false
  | .SetComp _ _ _ _ => false
  | .DictComp _ _ _ _ _ => false
  | _ => true
theorem swaps_not {e : Expr} {t : Option Expr} {l : Nat} {env : PySem.Env} (h : notComp e = true) : swapsWith e t l env = pure false := by
  cases e <;> first | rfl | cases h
def notSet : Expr → Bool
  | .Set _ _ _ => false
  | _ => true
theorem folded_not {e : Expr} {env : PySem.Env} (h : notSet e = true) (x : Value) : foldedSetIterable e env x = pure x := by
  cases e <;> first | rfl | cases h
theorem behind_not {e : Expr} {op : CmpOp} (h : notSet e = true) : behindInMarks op e = false := by
  cases e <;> first | rfl | cases h
def isName : Expr → Bool
  | .Name _ _ => true
  | _ => false
theorem attr_name {e : Expr} {m : Str} {env : PySem.Env} {w : Sem Value} (h : isName e = true) : attributeBase e m env w = w := by
  cases e <;> first | rfl | cases h
section
variable {X : Cx} {G : Gi} {C : Orc} {W : WX} {pos : Pos}
theorem sy_var {i : Nat} {x : Str} (hN : X.N[i]? = some x) (hv : Vis X.env.scope x) (hd : (x == ("__debug__" : Str)) = false) (hcd : (x == ("__classdict__" : Str)) = false) : PE X (.Name x pos) (liftE G X.K C W (.var i)) :=
  (pe_var hN hv hd hcd).weak fun σ H QV ⟨as, env, S, Q, E, sim, rel, ⟨d, e, q⟩, iq, ie⟩ => let ⟨v, e1, r⟩ := rel.at_ i d e; ⟨v, e1, iq.now sim r q⟩
theorem sy_int {i : Int} {j : Nat} : PE X (.Constant (.int i) j pos) (liftE G X.K C W (.int i)) := pe_int.weak fun σ H QV ⟨as, env, S, Q, E, sim, rel, q, iq, ie⟩ => iq.now sim (.int i) q
theorem sy_str {x : Str} {j : Nat} : PE X (.Constant (.str x) j pos) (liftE G X.K C W (.str x)) := pe_str.weak fun σ H QV ⟨as, env, S, Q, E, sim, rel, q, iq, ie⟩ => iq.now sim (.str x) q
theorem sy_bl {b : Bool} {j : Nat} : PE X (.Constant (.bool b) j pos) (liftE G X.K C W (.bl b)) := pe_bl.weak fun σ H QV ⟨as, env, S, Q, E, sim, rel, q, iq, ie⟩ => iq.now sim (.bl b) q
theorem sy_non {j : Nat} : PE X (.Constant .none j pos) (liftE G X.K C W .non) := pe_non.weak fun σ H QV ⟨as, env, S, Q, E, sim, rel, q, iq, ie⟩ => iq.now sim .non q
/-- a constant of the module -/
theorem sy_glo {x : Str} {d : D} {u : Value} {v : V} (hg : Gl X x) (hm : X.mg x = some u) (r : RelV v u) (hr : ∀ H as, Rep X.K H as d v) (hd : (x == ("__debug__" : Str)) = false) : PE X (.Name x pos) (liftE G X.K C W (.glo x d)) :=
  (pe_glob hg hm r hd).weak fun σ H QV ⟨as, env, S, Q, E, sim, rel, q, iq, ie⟩ => iq.now sim (hr H as) q
variable {a b c : Expr} {ea eb ec : Ex}
theorem sy_bin {o : Operator} (ha : PE X a (liftE G X.K C W ea)) (hb : PE X b (liftE G X.K C W eb)) : PE X (.BinOp a o b pos) (liftE G X.K C W (.bin o ea eb)) :=
  (pe_op (op_ok o) ha hb).weak fun σ H QV ⟨as, env, S, Q, E, sim, rel, q, iq, ie⟩ =>
    ⟨as, env, S, _, E, sim, rel, q, fun x S1 as1 v H1 x1 s1 r1 q1 =>
      ⟨as1, env, S1, _, E, s1, rel.ext x1, q1, fun y S2 as2 w H2 x2 s2 r2 q2 => ⟨as2, S2, x, y, Q, s2, r1.ext x2, r2, q2, iq.step (x1.trans x2)⟩, ie.step x1⟩, ie⟩
theorem sy_neg (ha : PE X a (liftE G X.K C W ea)) : PE X (.UnaryOp .USub a pos) (liftE G X.K C W (.neg ea)) :=
  (pe_un un_neg ha).weak fun σ H QV ⟨as, env, S, Q, E, sim, rel, q, iq, ie⟩ =>
    ⟨as, env, S, _, E, sim, rel, q, fun x S1 as1 v H1 x1 s1 r1 ⟨i, e, q1⟩ => by
      subst e
      cases r1
      exact ⟨i, rfl, (iq.step x1).now s1 (.int _) q1⟩, ie⟩
theorem sy_test (h : plainTest a = true) (ha : PE X a (liftE G X.K C W ea)) : PT X a (liftT G X.K C W ea) :=
  (pt_val ha (isTrue_plain' h)).weak fun σ H QB ⟨as, env, S, Q, E, sim, rel, q, iq, ie⟩ =>
    ⟨as, env, S, _, E, sim, rel, q, fun x S1 as1 v H1 x1 s1 r1 ⟨i, e, q1⟩ => by
      subst e
      cases r1
      exact ⟨i, rfl, iq _ _ _ _ x1 s1 q1⟩, ie⟩
theorem sy_not (ha : PE X a (liftE G X.K C W ea)) : PE X (.UnaryOp .Not a pos) (liftE G X.K C W (.nt ea)) :=
  (pe_not ha).weak fun σ H QV ⟨as, env, S, Q, E, sim, rel, q, iq, ie⟩ =>
    ⟨as, env, S, _, E, sim, rel, q, fun x S1 as1 v H1 x1 s1 r1 ⟨i, e, q1⟩ => by
      subst e
      cases r1
      exact ⟨i, rfl, (iq.step x1).now s1 (.bl _) q1⟩, ie⟩
theorem ty_not (ha : PT X a (liftT G X.K C W ea)) : PT X (.UnaryOp .Not a pos) (liftT G X.K C W (.nt ea)) :=
  (pt_not ha).weak fun σ H QB ⟨as, env, S, Q, E, sim, rel, q, iq, ie⟩ => by
    refine ⟨as, env, S, fun r S1 => Q (!r) S1, E, sim, rel, ?_, fun r S1 as1 H1 x1 s1 q1 => iq _ _ _ _ x1 s1 q1, ie⟩
    have e : (fun (x : D) (S1 : Sto) => ∃ b, x = D.bl b ∧ ∃ r, D.bl (!b) = D.bl r ∧ Q r S1) = fun x S1 => ∃ b, x = D.bl b ∧ Q (!b) S1 := by
      funext x S1
      simp
    have q' : wpE C ea env S (fun x S1 => ∃ b, x = .bl b ∧ ∃ r, D.bl (!b) = .bl r ∧ Q r S1) E := q
    rw [e] at q'
    exact q'
theorem sy_cmp {o : CmpOp} (hu : X.A.units + 65 < cLine) (hn : notSet b = true) (ha : PE X a (liftE G X.K C W ea)) (hb : PE X b (liftE G X.K C W eb)) : PE X (.Compare a [o] [b] pos) (liftE G X.K C W (.cmp o ea eb)) :=
  (pe_cmpR (cm_ok o hu) ha hb (behind_not hn)).weak fun σ H QV ⟨as, env, S, Q, E, sim, rel, q, iq, ie⟩ =>
    ⟨as, env, S, _, E, sim, rel, q, fun x S1 as1 v H1 x1 s1 r1 q1 =>
      ⟨as1, env, S1, _, E, s1, rel.ext x1, q1, fun y S2 as2 w H2 x2 s2 r2 q2 => ⟨as2, S2, x, y, Q, s2, r1.ext x2, r2, q2, iq.step (x1.trans x2)⟩, ie.step x1⟩, ie⟩
theorem ty_cmp {o : CmpOp} (hu : X.A.units + 65 < cLine) (hn : notSet b = true) (ha : PE X a (liftE G X.K C W ea)) (hb : PE X b (liftE G X.K C W eb)) : PT X (.Compare a [o] [b] pos) (liftT G X.K C W (.cmp o ea eb)) :=
  (pt_cmpR (cm_ok o hu) ha hb (behind_not hn)).weak fun σ H QB ⟨as, env, S, Q, E, sim, rel, q, iq, ie⟩ =>
    ⟨as, env, S, _, E, sim, rel, q, fun x S1 as1 v H1 x1 s1 r1 q1 =>
      ⟨as1, env, S1, _, E, s1, rel.ext x1, q1, fun y S2 as2 w H2 x2 s2 r2 q2 => ⟨as2, S2, x, y, fun d S1 => ∃ r, d = .bl r ∧ Q r S1, s2, r1.ext x2, r2, q2, fun d S3 as3 z H3 x3 s3 r3 ⟨r, e, q3⟩ => by
        subst e
        cases r3
        exact ⟨r, rfl, iq _ _ _ _ ((x1.trans x2).trans x3) s3 q3⟩⟩, ie.step x1⟩, ie⟩
theorem sy_ife (hc : PT X c (liftT G X.K C W ec)) (ha : PE X a (liftE G X.K C W ea)) (hb : PE X b (liftE G X.K C W eb)) : PE X (.IfExp c a b pos) (liftE G X.K C W (.ife ec ea eb)) :=
  (pe_ifExp hc ha hb).weak fun σ H QV ⟨as, env, S, Q, E, sim, rel, q, iq, ie⟩ =>
    ⟨as, env, S, fun r S1 => (r = true → wpE C ea env S1 Q E) ∧ (r = false → wpE C eb env S1 Q E), E, sim, rel, q, fun r S1 as1 H1 x1 s1 ⟨q1, q2⟩ => by
      cases r with
      | true => exact ⟨as1, env, S1, Q, E, s1, rel.ext x1, q1 rfl, iq.step x1, ie.step x1⟩
      | false => exact ⟨as1, env, S1, Q, E, s1, rel.ext x1, q2 rfl, iq.step x1, ie.step x1⟩, ie⟩
theorem sy_one {op : BoolOp} (ha : PE X a (liftE G X.K C W ea)) : PE X (.BoolOp op [a] pos) (liftE G X.K C W ea) := pe_one ha
theorem sy_and {rest : List Expr} (ha : PE X a (liftE G X.K C W ea)) (hb : PE X (.BoolOp .And (b :: rest) pos) (liftE G X.K C W eb)) : PE X (.BoolOp .And (a :: b :: rest) pos) (liftE G X.K C W (.and ea eb)) :=
  (pe_and ha hb).weak fun σ H QV ⟨as, env, S, Q, E, sim, rel, q, iq, ie⟩ =>
    ⟨as, env, S, _, E, sim, rel, q, fun x S1 as1 v H1 x1 s1 r1 ⟨r, e, q1, q2⟩ => by
      subst e
      cases r1
      refine ⟨r, rfl, ?_⟩
      cases r with
      | true => exact ⟨as1, env, S1, Q, E, s1, rel.ext x1, q1 rfl, iq.step x1, ie.step x1⟩
      | false => exact (iq.step x1).now s1 (.bl _) (q2 rfl), ie⟩
theorem sy_or {rest : List Expr} (ha : PE X a (liftE G X.K C W ea)) (hb : PE X (.BoolOp .Or (b :: rest) pos) (liftE G X.K C W eb)) : PE X (.BoolOp .Or (a :: b :: rest) pos) (liftE G X.K C W (.or ea eb)) :=
  (pe_or ha hb).weak fun σ H QV ⟨as, env, S, Q, E, sim, rel, q, iq, ie⟩ =>
    ⟨as, env, S, _, E, sim, rel, q, fun x S1 as1 v H1 x1 s1 r1 ⟨r, e, q1, q2⟩ => by
      subst e
      cases r1
      refine ⟨r, rfl, ?_⟩
      cases r with
      | true => exact (iq.step x1).now s1 (.bl _) (q1 rfl)
      | false => exact ⟨as1, env, S1, Q, E, s1, rel.ext x1, q2 rfl, iq.step x1, ie.step x1⟩, ie⟩
theorem ty_and1 (ha : PT X a (liftT G X.K C W ea)) : PW X (.BoolOp .And [a] pos) (liftT G X.K C W ea) := pw_and1 ha
theorem ty_or1 (ha : PT X a (liftT G X.K C W ea)) : PW X (.BoolOp .Or [a] pos) (liftT G X.K C W ea) := pw_or1 ha
theorem ty_and {rest : List Expr} (ha : PT X a (liftT G X.K C W ea)) (hb : PW X (.BoolOp .And (b :: rest) pos) (liftT G X.K C W eb)) : PW X (.BoolOp .And (a :: b :: rest) pos) (liftT G X.K C W (.and ea eb)) :=
  (pw_and ha hb).weak fun σ H QB ⟨as, env, S, Q, E, sim, rel, q, iq, ie⟩ => by
    refine ⟨as, env, S, fun r S1 => (r = true → wpE C eb env S1 (fun d S1 => ∃ r, d = .bl r ∧ Q r S1) E) ∧ (r = false → ∃ r', D.bl false = .bl r' ∧ Q r' S1), E, sim, rel, q, fun r S1 as1 H1 x1 s1 ⟨q1, q2⟩ => ?_, ie⟩
    cases r with
    | true => exact ⟨as1, env, S1, Q, E, s1, rel.ext x1, q1 rfl, fun r S2 as2 H2 x2 s2 q3 => iq _ _ _ _ (x1.trans x2) s2 q3, ie.step x1⟩
    | false =>
      obtain ⟨r', e, q3⟩ := q2 rfl
      cases e
      exact iq _ _ _ _ x1 s1 q3
theorem ty_or {rest : List Expr} (ha : PT X a (liftT G X.K C W ea)) (hb : PW X (.BoolOp .Or (b :: rest) pos) (liftT G X.K C W eb)) : PW X (.BoolOp .Or (a :: b :: rest) pos) (liftT G X.K C W (.or ea eb)) :=
  (pw_or ha hb).weak fun σ H QB ⟨as, env, S, Q, E, sim, rel, q, iq, ie⟩ => by
    refine ⟨as, env, S, fun r S1 => (r = true → ∃ r', D.bl true = .bl r' ∧ Q r' S1) ∧ (r = false → wpE C eb env S1 (fun d S1 => ∃ r, d = .bl r ∧ Q r S1) E), E, sim, rel, q, fun r S1 as1 H1 x1 s1 ⟨q1, q2⟩ => ?_, ie⟩
    cases r with
    | false => exact ⟨as1, env, S1, Q, E, s1, rel.ext x1, q2 rfl, fun r S2 as2 H2 x2 s2 q3 => iq _ _ _ _ (x1.trans x2) s2 q3, ie.step x1⟩
    | true =>
      obtain ⟨r', e, q3⟩ := q1 rfl
      cases e
      exact iq _ _ _ _ x1 s1 q3
/-! ### lists of expressions -/
theorem sa_nil : PA X [] (liftEs G X.K C W .nil) := pa_nil.weak fun σ H QL ⟨as, env, S, Q, E, sim, rel, q, iq, ie⟩ => iq _ _ _ _ _ Ext.refl sim .nil q
theorem sa_cons {es : List Expr} {xs : Exs} (hn : notStar a = true) (ha : PE X a (liftE G X.K C W ea)) (hr : PA X es (liftEs G X.K C W xs)) : PA X (a :: es) (liftEs G X.K C W (.cons ea xs)) :=
  (pa_cons ha hr (starEach_plain hn)).weak fun σ H QL ⟨as, env, S, Q, E, sim, rel, q, iq, ie⟩ =>
    ⟨as, env, S, _, E, sim, rel, q, fun x S1 as1 v H1 x1 s1 r1 q1 =>
      ⟨as1, env, S1, _, E, s1, rel.ext x1, q1, fun ds S2 as2 vs H2 x2 s2 r2 q2 => iq _ _ _ _ _ (x1.trans x2) s2 (.cons (r1.ext x2) r2) q2, ie.step x1⟩, ie⟩
theorem sy_tup {es : List Expr} {xs : Exs} {k : Nat} (h : PA X es (liftEs G X.K C W xs)) : PE X (.Tuple es k pos) (liftE G X.K C W (.tup xs)) :=
  (pe_tup h).weak fun σ H QV ⟨as, env, S, Q, E, sim, rel, q, iq, ie⟩ =>
    ⟨as, env, S, _, E, sim, rel, q, fun ds S1 as1 vs H1 x1 s1 r1 ⟨hl, q1⟩ => ⟨by rw [← r1.length]; exact Nat.le_trans hl most_le, fun p hp => (iq.step x1).newTup s1 r1 hp q1⟩, ie⟩
theorem sy_lst {es : List Expr} {xs : Exs} (h : PA X es (liftEs G X.K C W xs)) : PE X (.List es pos) (liftE G X.K C W (.lst xs)) :=
  (pe_lst h).weak fun σ H QV ⟨as, env, S, Q, E, sim, rel, q, iq, ie⟩ =>
    ⟨as, env, S, _, E, sim, rel, q, fun ds S1 as1 vs H1 x1 s1 r1 ⟨hl, q1⟩ => ⟨by rw [← r1.length]; exact Nat.le_trans hl most_le, fun p hp => (iq.step x1).newList s1 r1 hp q1⟩, ie⟩
theorem sy_ix (hu : X.A.units + 1 < cLine) (hs : notSlice b = true) (ha : PE X a (liftE G X.K C W ea)) (hb : PE X b (liftE G X.K C W eb)) : PE X (.Subscript a b pos) (liftE G X.K C W (.ix ea eb)) :=
  (pe_ix (ix_ok hu) ha hb (plainIx_of hs)).weak fun σ H QV ⟨as, env, S, Q, E, sim, rel, q, iq, ie⟩ =>
    ⟨as, env, S, _, E, sim, rel, q, fun x S1 as1 v H1 x1 s1 r1 q1 =>
      ⟨as1, env, S1, _, E, s1, rel.ext x1, q1, fun y S2 as2 w H2 x2 s2 r2 q2 => ⟨as2, S2, x, y, Q, s2, r1.ext x2, r2, q2, iq.step (x1.trans x2)⟩, ie.step x1⟩, ie⟩
theorem sp_no : PO X none (liftP G X.K C W .no) := po_none.weak fun σ H QO ⟨as, env, S, Q, E, sim, rel, q, iq, ie⟩ => iq _ _ _ _ Ext.refl sim q
theorem sp_at (ha : PE X a (liftE G X.K C W ea)) : PO X (some a) (liftP G X.K C W (.at ea)) :=
  (po_some ha).weak fun σ H QO ⟨as, env, S, Q, E, sim, rel, q, iq, ie⟩ => ⟨as, env, S, _, E, sim, rel, q, fun x S1 as1 v H1 x1 s1 r1 ⟨i, e, q1⟩ => by
    subst e
    cases r1
    exact ⟨i, rfl, iq _ _ _ _ x1 s1 q1⟩, ie⟩
/-- the built-ins' calls -/
def biName : Bi → Str
  | .abs => "abs"
  | .len => "len"
  | .list => "list"
  | .tuple => "tuple"
  | .int => "int"
  | .sum => "sum"
  | .min => "min"
  | .max => "max"
  | .all => "all"
  | .any => "any"
  | .gcd => "gcd"
  | .isqrt => "isqrt"
  | .sorted => "sorted"
  | .dict => "dict"
  | .str => "str"
/-- what the module has of a built-in's name -/
def BiAt (mg : Str → Option Value) (b : Bi) : Prop := match b with
  | .gcd => mg "gcd" = some (.builtin "math.gcd")
  | .isqrt => mg "isqrt" = some (.builtin "math.isqrt")
  | b => mg (biName b) = none
theorem tCB_lift {b : Bi} {es : Exs} (σ : L2.St) (H : Hp) (QV : VK) (h : liftE G X.K C W (.bi b es) σ H QV) : tCB (liftB X.K b) (liftEs G X.K C W es) σ H QV := by
  obtain ⟨as, env, S, Q, E, sim, rel, q, iq, ie⟩ := h
  exact ⟨as, env, S, _, E, sim, rel, q, fun ds S1 as1 vs H1 x1 s1 r1 q1 => ⟨as1, S1, ds, Q, s1, r1, q1, iq.step x1⟩, ie⟩
theorem sy_bi {bi : Bi} {e : Expr} {es : List Expr} {xs : Exs} {p : Pos} (hc : X.calm = true) (hg : Gl X (biName bi)) (hm : BiAt X.mg bi) (hn : notStar e = true) (hs : allPlain es = true) (ha : PA X (e :: es) (liftEs G X.K C W xs)) :
    PE X (.Call (.Name (biName bi) p) (e :: es) [] pos) (liftE G X.K C W (.bi bi xs)) := by
  have k := bi_ok (X := X) bi hc
  have he : starEach (e :: es) X.env = (false, eval e X.env) :: starEach es X.env := starEach_plain hn
  have hp : (backTo pos (starEach es X.env)).any (·.1) = false := back_plain hs
  cases bi with
  | abs => exact (pe_callB k hg hm (by decide +kernel) ha (by decide) (by decide) he hp).weak tCB_lift
  | len => exact (pe_callB k hg hm (by decide +kernel) ha (by decide) (by decide) he hp).weak tCB_lift
  | sum => exact (pe_callB k hg hm (by decide +kernel) ha (by decide) (by decide) he hp).weak tCB_lift
  | min => exact (pe_callB k hg hm (by decide +kernel) ha (by decide) (by decide) he hp).weak tCB_lift
  | max => exact (pe_callB k hg hm (by decide +kernel) ha (by decide) (by decide) he hp).weak tCB_lift
  | all => exact (pe_callB k hg hm (by decide +kernel) ha (by decide) (by decide) he hp).weak tCB_lift
  | any => exact (pe_callB k hg hm (by decide +kernel) ha (by decide) (by decide) he hp).weak tCB_lift
  | sorted => exact (pe_callB k hg hm (by decide +kernel) ha (by decide) (by decide) he hp).weak tCB_lift
  | list => exact (pe_callTy k hg hm (by decide +kernel) ha (by decide) (by decide) he hp).weak tCB_lift
  | tuple => exact (pe_callTy k hg hm (by decide +kernel) ha (by decide) (by decide) he hp).weak tCB_lift
  | int => exact (pe_callTy k hg hm (by decide +kernel) ha (by decide) (by decide) he hp).weak tCB_lift
  | dict => exact (pe_callTy k hg hm (by decide +kernel) ha (by decide) (by decide) he hp).weak tCB_lift
  | str => exact (pe_callTy k hg hm (by decide +kernel) ha (by decide) (by decide) he hp).weak tCB_lift
  | gcd => exact (pe_callBfun k hg hm ha (by decide) he hp).weak tCB_lift
  | isqrt => exact (pe_callBfun k hg hm ha (by decide) he hp).weak tCB_lift
/-! ### isinstance -/
theorem bt_ty (t : Ty) (ht : t ≠ .non) : bootBuiltins (Str.ofString (tyS t)) = some (.type (tyS t)) := by
  cases t <;> first | exact absurd rfl ht | decide +kernel
theorem sy_isi1 {t : Ty} {x : Str} {p p1 : Pos} (ht : t ≠ .non) (hx : x = Str.ofString (tyS t)) (hg : Gl X "isinstance") (hm : X.mg "isinstance" = none) (hgt : Gl X x) (hmt : X.mg x = none) (hn : notStar a = true) (ha : PE X a (liftE G X.K C W ea)) :
    PE X (.Call (.Name "isinstance" p) [a, .Name x p1] [] pos) (liftE G X.K C W (.isi ea [t])) := by
  subst hx
  have hT : PE X (.Name (Str.ofString (tyS t)) p1) (tC (.ty (tyS t))) := pe_bltn (v := .ty (tyS t)) hgt hmt (bt_ty t ht) rfl (by cases t <;> decide +kernel) (by cases t <;> decide +kernel)
  refine (pe_callB call_isi hg hm (by decide +kernel) (pa_cons ha (pa_cons hT pa_nil) (starEach_plain hn)) (by decide) (by decide) (starEach_plain hn) rfl).weak fun σ H QV ⟨as, env, S, Q, E, sim, rel, q, iq, ie⟩ => ?_
  refine ⟨as, env, S, _, E, sim, rel, q, fun x S1 as1 v H1 x1 s1 r1 ⟨u, et, q1⟩ => ?_, ie⟩
  refine ⟨v, .ty (tyS t), .type (tyS u), .type (tyS t), subTy u t, rfl, .ty _, ty_rep s1 r1 et, kit_ty (kit_sub u t ht), (iq.step x1).now s1 (.bl _) ?_⟩
  have e : [t].any (subTy u) = subTy u t := by simp
  rw [e] at q1
  exact q1
/-- the classes of a tuple -/
def tysOk (sc : Scope) (fre : List Str) : List Expr → List Ty → Bool
  | [], [] => true
  | .Name x _ :: es, t :: ts => decide (x = Str.ofString (tyS t)) && (decide (t ≠ .non) && (decide (sc.names.lookup x = some .globalImplicit) && (fre.contains x && tysOk sc fre es ts)))
  | _, _ => false
theorem tys_pa {sc : Scope} {fre : List Str} (hsc : X.env.scope = sc) (hf : ∀ x ∈ fre, X.mg x = none) : ∀ {es : List Expr} {ts : List Ty}, tysOk sc fre es ts = true →
    (∀ t ∈ ts, t ≠ .non) ∧ ∃ tr : TA, PA X es tr ∧ ∀ σ H Q, Q (ts.map fun t => V.ty (tyS t)) H → tr σ H Q
  | [], [], _ => ⟨fun _ h => absurd h (by simp), tNil, pa_nil, fun _ _ _ q => q⟩
  | e :: es, t :: ts, h => by
    unfold tysOk at h
    split at h
    · rename_i e1; cases e1
    · rename_i x p es' t' ts' e1 e2
      injection e1 with e1 e3
      injection e2 with e2 e4
      subst e1 e3 e2 e4
      simp only [Bool.and_eq_true, decide_eq_true_eq] at h
      obtain ⟨h1, h2, h3, h4, h5⟩ := h
      subst h1
      obtain ⟨k1, tr, k2, k3⟩ := tys_pa hsc hf h5
      have hT : PE X (.Name (Str.ofString (tyS t)) p) (tC (.ty (tyS t))) := pe_bltn (v := .ty (tyS t)) (show X.env.scope.names.lookup _ = _ by rw [hsc]; exact h3) (hf _ (by simpa using h4)) (bt_ty t h2) rfl (by cases t <;> decide +kernel) (by cases t <;> decide +kernel)
      refine ⟨fun u hu => ?_, _, pa_cons hT k2, fun σ H Q q => k3 _ _ _ q⟩
      rcases List.mem_cons.mp hu with rfl | hu
      · exact h2
      · exact k1 u hu
    · cases h
  | [], _ :: _, h => by cases h
  | e :: _, [], h => by cases e <;> cases h
theorem clsv_all : ∀ ts : List Ty, Paired ClsV (ts.map fun t => V.ty (tyS t)) (ts.map fun t => Value.type (tyS t))
  | [] => .nil
  | _ :: ts => .cons (.ty _) (clsv_all ts)
theorem sy_isiT {sc : Scope} {fre : List Str} {ts : List Ty} {es : List Expr} {p p1 : Pos} {k : Nat} (hsc : X.env.scope = sc) (hf : ∀ x ∈ fre, X.mg x = none) (ht : tysOk sc fre es ts = true) (hlen : ts.length ≤ 10) (hg : Gl X "isinstance") (hm : X.mg "isinstance" = none)
    (hn : notStar a = true) (ha : PE X a (liftE G X.K C W ea)) : PE X (.Call (.Name "isinstance" p) [a, .Tuple es k p1] [] pos) (liftE G X.K C W (.isi ea ts)) := by
  obtain ⟨h1, tr, h2, h3⟩ := tys_pa (X := X) hsc hf ht
  refine (pe_callB call_isiT hg hm (by decide +kernel) (pa_cons ha (pa_cons (pe_tup h2) pa_nil) (starEach_plain hn)) (by decide) (by decide) (starEach_plain hn) rfl).weak fun σ H QV ⟨as, env, S, Q, E, sim, rel, q, iq, ie⟩ => ?_
  refine ⟨as, env, S, _, E, sim, rel, q, fun x S1 as1 v H1 x1 s1 r1 ⟨u, et, q1⟩ => h3 _ _ _ ⟨by rw [List.length_map, sizeLine_eq]; omega, fun q' hq => ?_⟩, ie⟩
  have xl : Ext as1 as1 H1 (upd H1 q' (.tup (ts.map fun t => V.ty (tyS t)))) := Ext.laid hq
  refine ⟨v, q', _, .type (tyS u), _, ts.any (subTy u), rfl, upd_same, clsv_all ts, ty_rep (s1.laid hq) (r1.ext xl) et, kit_any u ts h1, ?_⟩
  exact (iq.step (x1.trans xl)).now (s1.laid hq) (.bl _) q1
/-! ### methods of lists -/
def meName : Me → Str
  | .append => "append"
  | .extend => "extend"
  | .pop => "pop"
theorem plain_few {pos : Pos} {env : PySem.Env} : ∀ {es : List Expr}, allPlain es = true → (backTo pos (starEach es env)).all (fun x => !x.1) = true
  | [], _ => rfl
  | e :: es, h => by
    obtain ⟨h1, h2⟩ := Bool.and_eq_true_iff.mp h
    rw [starEach_plain h1]
    show (true && (backTo pos (starEach es env)).all (fun x => !x.1)) = true
    rw [plain_few h2]
    rfl
end
end Ev
end
section
set_option Elab.async false
set_option linter.all false
set_option maxRecDepth 100000
set_option maxHeartbeats 1000000
/-! Ev's expressions, further: slices, chains, methods, calls, sources, comprehensions, dicts. -/
namespace Ev
open PySem PySem.Spec PyProof.Rows L2
section
variable {X : Cx} {G : Gi} {C : Orc} {W : WX} {a b c : Expr} {ea eb ec : Ex} {pos : Pos}
theorem sy_slc {lo hi : Option Expr} {pl ph : Pt} {p2 : Pos} (ha : PE X a (liftE G X.K C W ea)) (hl : PO X lo (liftP G X.K C W pl)) (hh : PO X hi (liftP G X.K C W ph)) :
    PE X (.Subscript a (.Slice lo hi none p2) pos) (liftE G X.K C W (.slc ea pl ph)) :=
  (pe_slice sl_ok ha hl hh).weak fun σ H QV ⟨as, env, S, Q, E, sim, rel, q, iq, ie⟩ =>
    ⟨as, env, S, _, E, sim, rel, q, fun x S1 as1 v H1 x1 s1 r1 q1 =>
      ⟨as1, env, S1, _, E, s1, rel.ext x1, q1, fun l S2 as2 H2 x2 s2 q2 =>
        ⟨as2, env, S2, _, E, s2, (rel.ext x1).ext x2, q2, fun h S3 as3 H3 x3 s3 q3 => ⟨as3, S3, x, Q, s3, (r1.ext x2).ext x3, q3, iq.step ((x1.trans x2).trans x3)⟩, ie.step (x1.trans x2)⟩, ie.step x1⟩, ie⟩
/-! ### a op b op c -/
theorem eq_mono {x y : D} {S : Sto} {k k' : Bool → Prop} (h : eqSem x y S k) (m : ∀ r, k r → k' r) : eqSem x y S k' := by
  obtain ⟨t, u, h1, h2, h3, h4, h5⟩ := h
  exact ⟨t, u, h1, h2, h3, h4, m _ h5⟩
theorem in_mono {x y : D} {S : Sto} {k k' : Bool → Prop} (h : inSem x y S k) (m : ∀ r, k r → k' r) : inSem x y S k' := by
  cases y with
  | tup ys => obtain ⟨t, us, h1, h2, h3, h4, h5⟩ := h; exact ⟨t, us, h1, h2, h3, h4, m _ h5⟩
  | str z => obtain ⟨w, e, h⟩ := h; exact ⟨w, e, m _ h⟩
  | ref n =>
    rcases h with ⟨ys, t, us, h0, h1, h2, h3, h4, h5⟩ | ⟨kvs, ky, h1, h2, h3⟩
    · exact .inl ⟨ys, t, us, h0, h1, h2, h3, h4, m _ h5⟩
    · exact .inr ⟨kvs, ky, h1, h2, m _ h3⟩
  | _ => exact h.elim
theorem is_mono {x y : D} {k k' : Bool → Prop} (h : isSem x y k) (m : ∀ r, k r → k' r) : isSem x y k' := by
  cases y with
  | non => exact m _ h
  | bl b => obtain ⟨a, e, h⟩ := h; exact ⟨a, e, m _ h⟩
  | _ => exact h.elim
theorem cmp_mono (o : CmpOp) (x y : D) {S : Sto} {k k' : Bool → Prop} (h : cmpSem o x y S k) (m : ∀ r, k r → k' r) : cmpSem o x y S k' := by
  cases o with
  | Eq => exact eq_mono h m
  | NotEq => exact eq_mono (k := fun b => k (!b)) h fun r => m _
  | Lt => obtain ⟨i, j, e1, e2, h⟩ := h; exact ⟨i, j, e1, e2, m _ h⟩
  | LtE => obtain ⟨i, j, e1, e2, h⟩ := h; exact ⟨i, j, e1, e2, m _ h⟩
  | Gt => obtain ⟨i, j, e1, e2, h⟩ := h; exact ⟨i, j, e1, e2, m _ h⟩
  | GtE => obtain ⟨i, j, e1, e2, h⟩ := h; exact ⟨i, j, e1, e2, m _ h⟩
  | Is => exact is_mono h m
  | IsNot => exact is_mono (k := fun b => k (!b)) h fun r => m _
  | In => exact in_mono h m
  | NotIn => exact in_mono (k := fun b => k (!b)) h fun r => m _
theorem last2 {o o' : CmpOp} {b c : Expr} (h2 : notSet c = true) : lastMarks [o, o'] [b, c] = false := by
  show lastMarks [o'] [c] = false
  exact behind_not h2
theorem sy_chain {o o' : CmpOp} (hu : X.A.units + 65 < cLine) (h2 : notSet c = true) (ha : PE X a (liftE G X.K C W ea)) (hb : PE X b (liftE G X.K C W eb)) (hc : PE X c (liftE G X.K C W ec)) :
    PE X (.Compare a [o, o'] [b, c] pos) (liftE G X.K C W (.chain o o' ea eb ec)) :=
  (pe_chain (cm_ok o hu) (cm_ok o' hu) ha hb hc (last2 h2)).weak fun σ H QV ⟨as, env, S, Q, E, sim, rel, q, iq, ie⟩ =>
    ⟨as, env, S, _, E, sim, rel, q, fun x S1 as1 v H1 x1 s1 r1 q1 =>
      ⟨as1, env, S1, _, E, s1, rel.ext x1, q1, fun y S2 as2 w H2 x2 s2 r2 q2 =>
        ⟨as2, S2, x, y, fun d S3 => S3 = S2 ∧ ∃ r, d = .bl r ∧ (r = true → wpE C ec env S2 (fun z S3 => cmpSem o' y z S3 fun r' => Q (.bl r') S3) E) ∧ (r = false → Q (.bl false) S2), s2, r1.ext x2, r2, cmp_mono o x y q2 fun r q3 => ⟨rfl, r, rfl, q3⟩, fun d S3 as3 z H3 x3 s3 r3 ⟨eS, r, e, q3, q4⟩ => by
          subst e
          subst eS
          cases r3
          refine ⟨r, rfl, ?_⟩
          cases r with
          | false => exact (iq.step ((x1.trans x2).trans x3)).now s3 (.bl _) (q4 rfl)
          | true => exact ⟨as3, env, S3, _, E, s3, (rel.ext (x1.trans x2)).ext x3, q3 rfl, fun z' S4 as4 w' H4 x4 s4 r4 q5 => ⟨as4, S4, y, z', Q, s4, (r2.ext x3).ext x4, r4, q5, iq.step (((x1.trans x2).trans x3).trans x4)⟩, ie.step ((x1.trans x2).trans x3)⟩⟩, ie.step x1⟩, ie⟩
theorem ty_chain {o o' : CmpOp} (hu : X.A.units + 65 < cLine) (h2 : notSet c = true) (ha : PE X a (liftE G X.K C W ea)) (hb : PE X b (liftE G X.K C W eb)) (hc : PE X c (liftE G X.K C W ec)) :
    PT X (.Compare a [o, o'] [b, c] pos) (liftT G X.K C W (.chain o o' ea eb ec)) :=
  (pt_chain (cm_ok o hu) (cm_ok o' hu) ha hb hc (last2 h2)).weak fun σ H QB ⟨as, env, S, Q, E, sim, rel, q, iq, ie⟩ =>
    ⟨as, env, S, _, E, sim, rel, q, fun x S1 as1 v H1 x1 s1 r1 q1 =>
      ⟨as1, env, S1, _, E, s1, rel.ext x1, q1, fun y S2 as2 w H2 x2 s2 r2 q2 =>
        ⟨as2, S2, x, y, fun d S3 => S3 = S2 ∧ ∃ r, d = .bl r ∧ (r = true → wpE C ec env S2 (fun z S3 => cmpSem o' y z S3 fun r' => ∃ r2, D.bl r' = .bl r2 ∧ Q r2 S3) E) ∧ (r = false → ∃ r2, D.bl false = .bl r2 ∧ Q r2 S2), s2, r1.ext x2, r2, cmp_mono o x y q2 fun r q3 => ⟨rfl, r, rfl, q3⟩, fun d S3 as3 z H3 x3 s3 r3 ⟨eS, r, e, q3, q4⟩ => by
          subst e
          subst eS
          cases r3
          refine ⟨r, rfl, ?_⟩
          cases r with
          | false =>
            obtain ⟨r2, e2, q5⟩ := q4 rfl
            cases e2
            exact ⟨false, rfl, iq _ _ _ _ ((x1.trans x2).trans x3) s3 q5⟩
          | true => exact ⟨as3, env, S3, _, E, s3, (rel.ext (x1.trans x2)).ext x3, q3 rfl, fun z' S4 as4 w' H4 x4 s4 r4 q5 => ⟨as4, S4, y, z', fun d S5 => ∃ r2, d = .bl r2 ∧ Q r2 S5, s4, (r2.ext x3).ext x4, r4, q5, fun d S5 as5 v5 H5 x5 s5 r5 ⟨r', e', q6⟩ => by
            subst e'
            cases r5
            exact ⟨r', rfl, iq _ _ _ _ ((((x1.trans x2).trans x3).trans x4).trans x5) s5 q6⟩⟩, ie.step ((x1.trans x2).trans x3)⟩⟩, ie.step x1⟩, ie⟩
/-! ### methods of lists -/
def notCall : Expr → Bool
  | .Call _ _ _ _ => false
  | _ => true
theorem abase {o : Expr} {n : Str} {env : PySem.Env} {w : Sem Value} (h : notCall o = true) : attributeBase o n env w = w := by
  cases o <;> first | rfl | cases h
theorem me_slot (m : Me) : Slot "list" (meName m) (meId m) ∧ typeOf (.builtin (meId m)) = pure (.type "method_descriptor") := by
  cases m
  · exact ⟨F.slot_list_append, F.type_list_append⟩
  · exact ⟨F.slot_list_extend, F.type_list_extend⟩
  · exact ⟨F.slot_list_pop, F.type_list_pop⟩
theorem me_tyV {K : PySem.W.Frag} {H : Hp} {as : List Addr} {S : Sto} {x : D} {v : V} (sim : Sim K H as S) (r : Rep K H as x v) (h : ∃ n xs, x = .ref n ∧ lstAt S n = some xs) : tyV K "list" v H := by
  obtain ⟨n, xs, e, h⟩ := h
  subst e
  obtain ⟨a, vs, e1, _, hs, _⟩ := sim.seq r h
  subst e1
  exact .inl ⟨rfl, vs, hs⟩
theorem tBM_lift {m : Me} {eo : Ex} {xs : Exs} (σ : L2.St) (H : Hp) (QV : VK) (h : liftE G X.K C W (.meth m eo xs) σ H QV) : tBM X.K "list" (liftM X.K m) (liftE G X.K C W eo) (liftEs G X.K C W xs) σ H QV := by
  obtain ⟨as, env, S, Q, E, sim, rel, q, iq, ie⟩ := h
  exact ⟨as, env, S, _, E, sim, rel, q, fun x S1 as1 v H1 x1 s1 r1 ⟨ht, q1⟩ => ⟨me_tyV s1 r1 ht, as1, env, S1, _, E, s1, rel.ext x1, q1, fun ds S2 as2 vs H2 x2 s2 r2 q2 => ⟨as2, S2, x, ds, Q, s2, r1.ext x2, r2, q2, iq.step (x1.trans x2)⟩, ie.step x1⟩, ie⟩
theorem sy_meth {m : Me} {o e : Expr} {es : List Expr} {eo : Ex} {xs : Exs} {apos cpos : Pos} (hnc : notCall o = true) (hn : notStar e = true) (hs : allPlain es = true) (hlen : es.length < 20) (hline : (apos.endLine == cpos.line) = true)
    (ho : PE X o (liftE G X.K C W eo)) (ha : PA X (e :: es) (liftEs G X.K C W xs)) : PE X (.Call (.Attribute o (meName m) apos) (e :: es) [] cpos) (liftE G X.K C W (.meth m eo xs)) := by
  have hall : allPlain (e :: es) = true := by show (notStar e && allPlain es) = true; rw [hn, hs]; rfl
  have hfew : ((backTo cpos (starEach (e :: es) X.env)).all (fun x => !x.1) && (backToKw cpos (keywordEach [] X.env)).all (fun x => x.1.isSome)
      && decide ((e :: es).length + ([] : List Keyword).length + (if ([] : List Keyword).isEmpty then 0 else 1) < 30)) = true := by
    rw [plain_few hall]
    have : (e :: es).length + ([] : List Keyword).length + (if ([] : List Keyword).isEmpty then 0 else 1) < 30 := by
      show es.length + 1 + 0 + 0 < 30
      omega
    rw [decide_eq_true this]
    rfl
  exact (pe_bm F.plainAttrs_list (me_slot m).1 (me_slot m).2 (me_ok m) ho ha (abase hnc) hfew hline (starEach_plain hn) (back_plain hs)).weak tBM_lift
theorem sy_meth0 {m : Me} {o : Expr} {eo : Ex} {apos cpos : Pos} (hnc : notCall o = true) (hline : (apos.endLine == cpos.line) = true)
    (ho : PE X o (liftE G X.K C W eo)) : PE X (.Call (.Attribute o (meName m) apos) [] [] cpos) (liftE G X.K C W (.meth m eo .nil)) :=
  (pe_bm0 F.plainAttrs_list (me_slot m).1 (me_slot m).2 (me_ok m) ho (abase hnc) hline).weak fun σ H QV ⟨as, env, S, Q, E, sim, rel, q, iq, ie⟩ =>
    ⟨as, env, S, _, E, sim, rel, q, fun x S1 as1 v H1 x1 s1 r1 ⟨ht, q1⟩ => ⟨me_tyV s1 r1 ht, as1, S1, x, [], Q, s1, r1, .nil, q1, iq.step x1⟩, ie⟩
/-! ### calls of the module's own defs -/
/-- what a def by its number keeps -/
def spOf (G : Gi) (K : PySem.W.Frag) (C : Orc) (f : Nat) (n : Nat) : Sp := fun vs H QV EK =>
  ∃ as S ds Q E, vs.length = n ∧ Sim K H as S ∧ Reps K H as ds vs ∧ C f ds S Q E ∧ impQ K as H Q QV ∧ impE G K as H [] E (fun cls d _ H => EK cls d H)
/-- the defs of the module stand ready -/
structure FnAt (X : Cx) (G : Gi) (C : Orc) (i : Nat) (x : Str) (ps : List Str) : Prop where
  ex : ∃ f fd k, X.mg x = some (.ref f) ∧ PySem.W.keepIn X.K (.ref f) = true ∧ Binds X.K fd ps [] ∧ Room k X.A ∧ FnOk X.prog X.w X.K X.mg X.base (L2.CX X.prog X.w) k f fd ps (spOf G X.K C i ps.length) ∧
    ∀ (n : Nat) (ks : List Str) (pm : List Nat), (i, n, ks, pm) ∈ G.kws → KBinds X.K fd ps ks (kwG .none n ks.length pm) (kwG .non n ks.length pm)
  len : ∀ ds S Q E, C i ds S Q E → ds.length = ps.length
theorem FnAt.sp {i : Nat} {x : Str} {ps : List Str} (F : FnAt X G C i x ps) {as : List Addr} {S : Sto} {ds : List D} {Q : Po} {E : Xo} {H : Hp} {vs : List V} {QV : VK} {σ : L2.St} (sim : Sim X.K H as S) (r : Reps X.K H as ds vs) (q : C i ds S Q E) (iq : impQ X.K as H Q QV) (ie : impE G X.K as H σ E W) :
    spOf G X.K C i ps.length vs H QV (WE W σ) := ⟨as, S, ds, Q, E, by rw [← r.length]; exact F.len _ _ _ _ q, sim, r, q, iq, ie⟩
theorem sy_call {i : Nat} {x : Str} {ps : List Str} {e : Expr} {es : List Expr} {xs : Exs} {p : Pos} (F : FnAt X G C i x ps) (tk : Takes X W) (hg : Gl X x) (hdb : (x == ("__debug__" : Str)) = false) (hn : notStar e = true) (hs : allPlain es = true)
    (ha : PA X (e :: es) (liftEs G X.K C W xs)) : PE X (.Call (.Name x p) (e :: es) [] pos) (liftE G X.K C W (.call i xs)) := by
  obtain ⟨f, fd, k, hm, hk, hb, hr, F1, _⟩ := F.ex
  exact (pe_callS F1 hr hg hm hk hb (passAt tk) ha hdb (starEach_plain hn) (back_plain hs)).weak fun σ H QV ⟨as, env, S, Q, E, sim, rel, q, iq, ie⟩ =>
    ⟨as, env, S, _, E, sim, rel, q, fun ds S1 as1 vs H1 x1 s1 r1 q1 => F.sp s1 r1 q1 (iq.step x1) (ie.step x1), ie⟩
theorem sy_call0 {i : Nat} {x : Str} {p : Pos} (F : FnAt X G C i x []) (tk : Takes X W) (hg : Gl X x) (hdb : (x == ("__debug__" : Str)) = false) : PE X (.Call (.Name x p) [] [] pos) (liftE G X.K C W (.call i .nil)) := by
  obtain ⟨f, fd, k, hm, hk, hb, hr, F1, _⟩ := F.ex
  refine ⟨fun pins s σ H QV I h => ?_⟩
  refine wpAny_Call_Name_kw (ld_glob I hg hm ?_ hdb)
  obtain ⟨as, env, S, Q, E, sim, rel, q, iq, ie⟩ := h
  exact PySem.W.callWith_K0 I.kIn hk (run_fnS (us := []) (E := WE W) F1 hr hb (passAt tk σ) I .nil (F.sp sim .nil q iq ie))
theorem run_fnkS {CX : CXT} {k : Nat} {f : Addr} {fd : FuncData} {ps ks : List Str} {sp : Sp} {E : L2.St → XK} {g : List Value → List Value → List Value} {gV : List V → List V → List V}
    {pins : List (Addr × Obj)} {σ : L2.St} {H : Hp} {s : Shared} {Q : VK} {us ws : List Value} {vs zs : List V} (F : FnOk X.prog X.w X.K X.mg X.base CX k f fd ps sp) (hr : Room k X.A) (hb : KBinds X.K fd ps ks g gV) (hx : PassesAt CX X σ (E σ))
    (I : Inv X pins σ H s) (r : Vals vs us) (rz : Vals zs ws) (h : sp (gV vs zs) H Q (E σ)) : wpAny (model X.prog X.w) X.A (call (.ref f) us (ks.zip ws)) (EP X pins σ Q) X.xe s := by
  have r2 := hb.rel r rz
  have hl : (g us ws).length = ps.length := by rw [← r2.length]; exact F.len _ _ _ _ h
  refine wpAny_call (codeAny_mono (F.run X.A X.stack s H ⟨us, ks.zip ws⟩ (g us ws) (gV vs zs) Q (E σ) hr I.env0 (hb.to s us ws I.kIn hl) r2 h) fun r s' hq => ?_)
  cases r with
  | error e => exact hx pins H s e s' I hq
  | ok fl =>
    cases fl with
    | ret u => exact I.after hq
    | next => exact False.elim hq
    | brk => exact False.elim hq
    | cont => exact False.elim hq
theorem Reps.getD {K : PySem.W.Frag} {H : Hp} {as : List Addr} : ∀ {xs : List D} {vs : List V} (j : Nat), Reps K H as xs vs → Rep K H as (xs.getD j .non) (vs.getD j .non)
  | _, _, _, .nil => .non
  | _, _, 0, .cons h _ => h
  | _, _, j + 1, .cons _ r => by
    have := Reps.getD j r
    simpa using this
theorem Reps.kw {K : PySem.W.Frag} {H : Hp} {as : List Addr} {n m : Nat} {xs ys : List D} {vs ws : List V} (r : Reps K H as xs vs) (q : Reps K H as ys ws) (pm : List Nat) : Reps K H as (kwG .non n m pm xs ys) (kwG .non n m pm vs ws) := by
  unfold kwG
  rw [r.length, q.length]
  split
  · induction pm with
    | nil => exact .nil
    | cons j l ih => exact .cons ((r.append q).getD j) ih
  · exact .nil
/-- the keywords' values -/
structure PKs (X : Cx) (kws : List Keyword) (ks : List Str) (t : TA) : Prop where
  pk : PK X kws t
  all : ∀ pos, (backToKw pos (keywordEach kws X.env)).all (·.1.isSome) = true
  non : ∀ pos, (backToKw pos (keywordEach kws X.env)).any (·.1.isNone) = false
  names : ∀ pos, (backToKw pos (keywordEach kws X.env)).filterMap (·.1) = ks
theorem sk_nil : PKs X [] [] (liftEs G X.K C W .nil) := ⟨⟨fun pos pins s σ H Q I ⟨as, env, S, Ql, E, sim, rel, q, iq, ie⟩ => pk_nil.run pos pins s σ H Q I (iq _ _ _ _ _ Ext.refl sim .nil q)⟩, fun _ => rfl, fun _ => rfl, fun _ => rfl⟩
theorem sk_cons {kws : List Keyword} {ks : List Str} {xs : Exs} {n : Str} {kpos : Pos} (ha : PE X a (liftE G X.K C W ea)) (hr : PKs X kws ks (liftEs G X.K C W xs)) : PKs X (⟨some n, a, kpos⟩ :: kws) (n :: ks) (liftEs G X.K C W (.cons ea xs)) where
  pk := ⟨fun pos pins s σ H QL I ⟨as, env, S, Q, E, sim, rel, q, iq, ie⟩ => (pk_cons ha hr.pk).run pos pins s σ H QL I
    ⟨as, env, S, _, E, sim, rel, q, fun x S1 as1 v H1 x1 s1 r1 q1 =>
      ⟨as1, env, S1, _, E, s1, rel.ext x1, q1, fun ds S2 as2 vs H2 x2 s2 r2 q2 => iq _ _ _ _ _ (x1.trans x2) s2 (.cons (r1.ext x2) r2) q2, ie.step x1⟩, ie⟩⟩
  all := fun pos => by
    show (true && (backToKw pos (keywordEach kws X.env)).all (·.1.isSome)) = true
    rw [hr.all pos]; rfl
  non := fun pos => by
    show (false || (backToKw pos (keywordEach kws X.env)).any (·.1.isNone)) = false
    rw [hr.non pos]; rfl
  names := fun pos => by
    show n :: (backToKw pos (keywordEach kws X.env)).filterMap (·.1) = n :: ks
    rw [hr.names pos]
theorem sy_callk {i : Nat} {x : Str} {ps ks : List Str} {pm : List Nat} {e : Expr} {es : List Expr} {kws : List Keyword} {xs zs : Exs} {p : Pos} (F : FnAt X G C i x ps) (hkw : (i, exLen xs, ks, pm) ∈ G.kws) (tk : Takes X W) (hg : Gl X x) (hdb : (x == ("__debug__" : Str)) = false) (hn : notStar e = true) (hs : allPlain es = true)
    (ha : PA X (e :: es) (liftEs G X.K C W xs)) (hz : PKs X kws ks (liftEs G X.K C W zs)) : PE X (.Call (.Name x p) (e :: es) kws pos) (liftE G X.K C W (.callk i xs ks zs pm)) := by
  obtain ⟨f, fd, k, hm, hk, hb, hr, F1, hB⟩ := F.ex
  refine ⟨fun pins s σ H QV I ⟨as, env, S, Q, E, sim, rel, q, iq, ie⟩ => ?_⟩
  refine wpAny_Call_Name_kw (ld_glob I hg hm ?_ hdb)
  have hpl : ((backTo pos (starEach (e :: es) X.env)).any (·.1) || (backToKw pos (keywordEach kws X.env)).any (·.1.isNone)) = false := by
    rw [hz.non pos, starEach_plain hn]
    show ((false || (backTo pos (starEach es X.env)).any (·.1)) || false) = false
    rw [back_plain hs]; rfl
  have hL : liftEs G X.K C W xs σ H (fun vs H1 => liftEs G X.K C W zs σ H1 fun ws H2 => spOf G X.K C i ps.length (kwG .non (exLen xs) ks.length pm vs ws) H2 QV (WE W σ)) :=
    ⟨as, env, S, _, E, sim, rel, q, fun ds S1 as1 vs H1 x1 s1 r1 q1 => ⟨as1, env, S1, _, E, s1, rel.ext x1, q1, fun zs S2 as2 ws H2 x2 s2 r2 q2 => F.sp s2 ((r1.ext x2).kw r2 pm) q2 (iq.step (x1.trans x2)) (ie.step (x1.trans x2)), ie.step x1⟩, ie⟩
  refine PySem.W.callWith_KW (h₀ := X.base) I.ok.mod.kin hk (hz.all pos) (thn (ha.run pos pins s σ H _ I hL) fun us s1 ⟨vs, H1, I1, r, q1⟩ => ?_) hpl (starEach_plain hn)
  refine thn (hz.pk.run pos pins s1 σ H1 _ I1 q1) fun ws s2 ⟨zs, H2, I2, rz, q2⟩ => ⟨I2.kIn, ?_⟩
  rw [hz.names pos]
  exact run_fnkS F1 hr (hB _ _ _ hkw) (passAt tk σ) I2 r rz q2
theorem sy_callk0 {i : Nat} {x : Str} {ps ks : List Str} {pm : List Nat} {kws : List Keyword} {zs : Exs} {p : Pos} (F : FnAt X G C i x ps) (hkw : (i, 0, ks, pm) ∈ G.kws) (tk : Takes X W) (hg : Gl X x) (hdb : (x == ("__debug__" : Str)) = false)
    (hz : PKs X kws ks (liftEs G X.K C W zs)) : PE X (.Call (.Name x p) [] kws pos) (liftE G X.K C W (.callk i .nil ks zs pm)) := by
  obtain ⟨f, fd, k, hm, hk, hb, hr, F1, hB⟩ := F.ex
  refine ⟨fun pins s σ H QV I ⟨as, env, S, Q, E, sim, rel, q, iq, ie⟩ => ?_⟩
  refine wpAny_Call_Name_kw (ld_glob I hg hm ?_ hdb)
  have hpl : ((backTo pos (starEach [] X.env)).any (·.1) || (backToKw pos (keywordEach kws X.env)).any (·.1.isNone)) = false := by
    rw [hz.non pos]; rfl
  have hL : liftEs G X.K C W zs σ H (fun ws H2 => spOf G X.K C i ps.length (kwG .non 0 ks.length pm [] ws) H2 QV (WE W σ)) :=
    ⟨as, env, S, _, E, sim, rel, q, fun zs S2 as2 ws H2 x2 s2 r2 q2 => F.sp s2 (Reps.nil.kw r2 pm) q2 (iq.step x2) (ie.step x2), ie⟩
  refine PySem.W.callWith_KW0 (h₀ := X.base) I.ok.mod.kin hk (hz.all pos) ?_ hpl
  refine thn (hz.pk.run pos pins s σ H _ I hL) fun ws s2 ⟨zs, H2, I2, rz, q2⟩ => ⟨I2.kIn, ?_⟩
  rw [hz.names pos]
  exact run_fnkS (us := []) (vs := []) F1 hr (hB _ _ _ hkw) (passAt tk σ) I2 .nil rz q2
end
end Ev
end
section
set_option Elab.async false
set_option linter.all false
set_option maxRecDepth 100000
set_option maxHeartbeats 1000000
/-! Ev's sources of items, stars, dicts. -/
namespace Ev
open PySem PySem.Spec PyProof.Rows L2
/-- an iterator gives the items of a source, one by one -/
structure Fed (K : PySem.W.Frag) (as : List Addr) (H : Hp) (src : Src) (J : It) : Prop where
  go : ∀ (i : Nat) (as' : List Addr) (H' : Hp) (S' : Sto), Ext as as' H H' → Sim K H' as' S' → src.ok S' → i < src.items.length → J.go i H'
  stop : ∀ (as' : List Addr) (H' : Hp) (S' : Sto), Ext as as' H H' → Sim K H' as' S' → src.ok S' → J.stop src.items.length H'
  yld : ∀ (i : Nat) (as' : List Addr) (H' : Hp) (S' : Sto) (x : V) (H2 : Hp), Ext as as' H H' → Sim K H' as' S' → src.ok S' → i < src.items.length → J.yld i H' x H2 → ∃ d, src.items[i]? = some d ∧ Ext as' as' H' H2 ∧ Sim K H2 as' S' ∧ Rep K H2 as' d x
section
variable {K : PySem.W.Frag} {as : List Addr} {H : Hp} {S : Sto} {xs ys : List D} {vs ws : List V} {a b : Addr} {n m : Nat} {v : V}
theorem Fed.ext {as1 : List Addr} {H1 : Hp} {src : Src} {J : It} (x : Ext as as1 H H1) (f : Fed K as H src J) : Fed K as1 H1 src J :=
  ⟨fun i as' H' S' y => f.go i as' H' S' (x.trans y), fun as' H' S' y => f.stop as' H' S' (x.trans y), fun i as' H' S' v H2 y => f.yld i as' H' S' v H2 (x.trans y)⟩
theorem nth {α : Type} {xs : List α} {i : Nat} (h : i < xs.length) : ∃ x, xs[i]? = some x := ⟨xs[i], List.getElem?_eq_getElem h⟩
theorem fed_list (r : Rep K H as (.ref n) (.ref a)) : Fed K as H ⟨fun T => lstAt T n = some xs, xs⟩ (Itl K a) where
  go := fun i as' H' S' x s ok hi => by
    obtain ⟨a', vs, e, _, hq, rs⟩ := s.seq (r.ext x) ok
    cases e
    obtain ⟨v, hv⟩ := nth (xs := vs) (by rw [← rs.length]; exact hi)
    exact ⟨vs, v, hq, hv⟩
  stop := fun as' H' S' x s ok => by
    obtain ⟨a', vs, e, _, hq, rs⟩ := s.seq (r.ext x) ok
    cases e
    exact ⟨vs, hq, Nat.le_of_eq rs.length.symm⟩
  yld := fun i as' H' S' v H2 x s ok hi ⟨eH, hy⟩ => by
    subst eH
    obtain ⟨a', vs, e, _, hq, rs⟩ := s.seq (r.ext x) ok
    cases e
    obtain ⟨d, hd⟩ := nth hi
    obtain ⟨w, hw, rw'⟩ := rs.get hd
    have := hy vs hq
    rw [hw] at this
    cases this
    exact ⟨d, hd, Ext.refl, s, rw'⟩
theorem fed_fz (h : FzL K H a vs) (r : Reps K H as xs vs) : Fed K as H ⟨fun _ => True, xs⟩ (Itl K a) where
  go := fun i as' H' S' x s ok hi => by
    obtain ⟨v, hv⟩ := nth (xs := vs) (by rw [← r.length]; exact hi)
    exact ⟨vs, v, (h.ext x).sq, hv⟩
  stop := fun as' H' S' x s ok => ⟨vs, (h.ext x).sq, Nat.le_of_eq r.length.symm⟩
  yld := fun i as' H' S' v H2 x s ok hi ⟨eH, hy⟩ => by
    subst eH
    obtain ⟨d, hd⟩ := nth hi
    obtain ⟨w, hw, rw'⟩ := (r.ext x).get hd
    have := hy vs (h.ext x).sq
    rw [hw] at this
    cases this
    exact ⟨d, hd, Ext.refl, s, rw'⟩
theorem fed_tup (h : SqT K H a vs) (r : Reps K H as xs vs) : Fed K as H ⟨fun _ => True, xs⟩ (Itt K a) where
  go := fun i as' H' S' x s ok hi => by
    obtain ⟨v, hv⟩ := nth (xs := vs) (by rw [← r.length]; exact hi)
    exact ⟨vs, v, SqT.ext x h, hv⟩
  stop := fun as' H' S' x s ok => ⟨vs, SqT.ext x h, Nat.le_of_eq r.length.symm⟩
  yld := fun i as' H' S' v H2 x s ok hi ⟨eH, hy⟩ => by
    subst eH
    obtain ⟨d, hd⟩ := nth hi
    obtain ⟨w, hw, rw'⟩ := (r.ext x).get hd
    have := hy vs (SqT.ext x h)
    rw [hw] at this
    cases this
    exact ⟨d, hd, Ext.refl, s, rw'⟩
theorem rangeD_length (lo hi : Int) : (rangeD lo hi).length = (hi - lo).toNat := by simp [rangeD]
theorem rangeD_get {lo hi : Int} {i : Nat} (h : i < (hi - lo).toNat) : (rangeD lo hi)[i]? = some (.int (lo + (i : Int))) := by
  simp [rangeD, h]
theorem fed_rng {lo hi : Int} : Fed K as H ⟨fun _ => True, rangeD lo hi⟩ (Itr lo (hi - lo).toNat) where
  go := fun i as' H' S' x s ok hi' => by
    have : i < (rangeD lo hi).length := hi'
    rw [rangeD_length] at this
    exact this
  stop := fun as' H' S' x s ok => by
    show (hi - lo).toNat ≤ (rangeD lo hi).length
    rw [rangeD_length]
    exact Nat.le_refl _
  yld := fun i as' H' S' v H2 x s ok hi' ⟨eH, hy⟩ => by
    subst eH
    subst hy
    have h : i < (rangeD lo hi).length := hi'
    rw [rangeD_length] at h
    exact ⟨_, rangeD_get h, Ext.refl, s, .int _⟩
theorem pair_rep {S' : Sto} {T : Addr} {x y : V} {d e : D} (s : Sim K H as S') (hT : H T = none) (r : Rep K H as d x) (q : Rep K H as e y) : Ext as as H (upd H T (.tup [x, y])) ∧ Sim K (upd H T (.tup [x, y])) as S' ∧ Rep K (upd H T (.tup [x, y])) as (.tup [d, e]) (.ref T) :=
  ⟨Ext.laid hT, s.laid hT, .tup (SqT.of upd_same) (.cons (r.ext (Ext.laid hT)) (.cons (q.ext (Ext.laid hT)) .nil))⟩
theorem zip_get {i : Nat} {d e : D} (h1 : xs[i]? = some d) (h2 : ys[i]? = some e) : ((xs.zip ys).map fun p => D.tup [p.1, p.2])[i]? = some (.tup [d, e]) := by
  rw [List.getElem?_map, (List.getElem?_zip_eq_some (z := (d, e))).mpr ⟨h1, h2⟩]
  rfl
theorem zip_len : ((xs.zip ys).map fun p => D.tup [p.1, p.2]).length = min xs.length ys.length := by simp
theorem fed_zip (r : Rep K H as (.ref n) (.ref a)) (q : Rep K H as (.ref m) (.ref b)) :
    Fed K as H ⟨fun T => lstAt T n = some xs ∧ lstAt T m = some ys, (xs.zip ys).map fun p => .tup [p.1, p.2]⟩ (Itz K a b) where
  go := fun i as' H' S' x s ok hi => by
    have hi : i < ((xs.zip ys).map fun p => D.tup [p.1, p.2]).length := hi
    rw [zip_len] at hi
    obtain ⟨a', vs, e, _, hq, rs⟩ := s.seq (r.ext x) ok.1
    cases e
    obtain ⟨b', ws, e, _, hq', rs'⟩ := s.seq (q.ext x) ok.2
    cases e
    obtain ⟨v, hv⟩ := nth (xs := vs) (i := i) (by rw [← rs.length]; omega)
    obtain ⟨w, hw⟩ := nth (xs := ws) (i := i) (by rw [← rs'.length]; omega)
    exact ⟨vs, ws, v, w, hq, hq', hv, hw⟩
  stop := fun as' H' S' x s ok => by
    obtain ⟨a', vs, e, _, hq, rs⟩ := s.seq (r.ext x) ok.1
    cases e
    obtain ⟨b', ws, e, _, hq', rs'⟩ := s.seq (q.ext x) ok.2
    cases e
    refine ⟨vs, ws, hq, hq', ?_⟩
    show vs.length ≤ ((xs.zip ys).map fun p => D.tup [p.1, p.2]).length ∨ _
    rw [zip_len, ← rs.length, ← rs'.length]
    omega
  yld := fun i as' H' S' v H2 x s ok hi ⟨T, z1, z2, e1, hT, eH, hy, hz⟩ => by
    have hi : i < ((xs.zip ys).map fun p => D.tup [p.1, p.2]).length := hi
    rw [zip_len] at hi
    subst e1
    subst eH
    obtain ⟨a', vs, e, _, hq, rs⟩ := s.seq (r.ext x) ok.1
    cases e
    obtain ⟨b', ws, e, _, hq', rs'⟩ := s.seq (q.ext x) ok.2
    cases e
    obtain ⟨d, hd⟩ := nth (xs := xs) (i := i) (by omega)
    obtain ⟨d', hd'⟩ := nth (xs := ys) (i := i) (by omega)
    obtain ⟨w, hw, rw'⟩ := rs.get hd
    obtain ⟨w', hw', rw2⟩ := rs'.get hd'
    have h1 := hy vs hq
    have h2 := hz ws hq'
    rw [hw] at h1
    rw [hw'] at h2
    cases h1
    cases h2
    obtain ⟨p1, p2, p3⟩ := pair_rep s hT rw' rw2
    exact ⟨_, zip_get hd hd', p1, p2, p3⟩
theorem fed_zipT (h : SqT K H a vs) (r : Reps K H as xs vs) (h' : SqT K H b ws) (q : Reps K H as ys ws) :
    Fed K as H ⟨fun _ => True, (xs.zip ys).map fun p => .tup [p.1, p.2]⟩ (RZ.ItzT K a b) where
  go := fun i as' H' S' x s ok hi => by
    have hi : i < ((xs.zip ys).map fun p => D.tup [p.1, p.2]).length := hi
    rw [zip_len] at hi
    obtain ⟨v, hv⟩ := nth (xs := vs) (i := i) (by rw [← r.length]; omega)
    obtain ⟨w, hw⟩ := nth (xs := ws) (i := i) (by rw [← q.length]; omega)
    exact ⟨vs, ws, v, w, SqT.ext x h, SqT.ext x h', hv, hw⟩
  stop := fun as' H' S' x s ok => by
    refine ⟨vs, ws, SqT.ext x h, SqT.ext x h', ?_⟩
    show vs.length ≤ ((xs.zip ys).map fun p => D.tup [p.1, p.2]).length ∨ _
    rw [zip_len, ← r.length, ← q.length]
    omega
  yld := fun i as' H' S' v H2 x s ok hi ⟨T, z1, z2, e1, hT, eH, hy, hz⟩ => by
    have hi : i < ((xs.zip ys).map fun p => D.tup [p.1, p.2]).length := hi
    rw [zip_len] at hi
    subst e1
    subst eH
    obtain ⟨d, hd⟩ := nth (xs := xs) (i := i) (by omega)
    obtain ⟨d', hd'⟩ := nth (xs := ys) (i := i) (by omega)
    obtain ⟨w, hw, rw'⟩ := (r.ext x).get hd
    obtain ⟨w', hw', rw2⟩ := (q.ext x).get hd'
    have h1 := hy vs (SqT.ext x h)
    have h2 := hz ws (SqT.ext x h')
    rw [hw] at h1
    rw [hw'] at h2
    cases h1
    cases h2
    obtain ⟨p1, p2, p3⟩ := pair_rep s hT rw' rw2
    exact ⟨_, zip_get hd hd', p1, p2, p3⟩
theorem enum_len : ∀ (k : Nat) (xs : List D), (enumD k xs).length = xs.length
  | _, [] => rfl
  | k, _ :: xs => congrArg (· + 1) (enum_len (k + 1) xs)
theorem enum_get : ∀ (k : Nat) (xs : List D) (i : Nat) (d : D), xs[i]? = some d → (enumD k xs)[i]? = some (.tup [.int ((k + i : Nat) : Int), d])
  | _, [], _, _, h => by simp at h
  | k, x :: xs, 0, d, h => by
    have e : x = d := by simpa using h
    subst e
    rfl
  | k, x :: xs, i + 1, d, h => by
    have := enum_get (k + 1) xs i d (by simpa using h)
    have e : k + (i + 1) = k + 1 + i := by omega
    rw [e]
    exact this
theorem fed_enum (r : Rep K H as (.ref n) (.ref a)) : Fed K as H ⟨fun T => lstAt T n = some xs, enumD 0 xs⟩ (Ite K a) where
  go := fun i as' H' S' x s ok hi => by
    have hi : i < (enumD 0 xs).length := hi
    rw [enum_len] at hi
    obtain ⟨a', vs, e, _, hq, rs⟩ := s.seq (r.ext x) ok
    cases e
    obtain ⟨v, hv⟩ := nth (xs := vs) (by rw [← rs.length]; exact hi)
    exact ⟨vs, v, hq, hv⟩
  stop := fun as' H' S' x s ok => by
    obtain ⟨a', vs, e, _, hq, rs⟩ := s.seq (r.ext x) ok
    cases e
    refine ⟨vs, hq, ?_⟩
    show vs.length ≤ (enumD 0 xs).length
    rw [enum_len, rs.length]
    exact Nat.le_refl _
  yld := fun i as' H' S' v H2 x s ok hi ⟨T, z1, e1, hT, eH, hy⟩ => by
    have hi : i < (enumD 0 xs).length := hi
    rw [enum_len] at hi
    subst e1
    subst eH
    obtain ⟨a', vs, e, _, hq, rs⟩ := s.seq (r.ext x) ok
    cases e
    obtain ⟨d, hd⟩ := nth hi
    obtain ⟨w, hw, rw'⟩ := rs.get hd
    have h1 := hy vs hq
    rw [hw] at h1
    cases h1
    obtain ⟨p1, p2, p3⟩ := pair_rep s hT (.int (i : Nat)) rw'
    refine ⟨_, enum_get 0 xs i d hd, p1, p2, ?_⟩
    rw [Nat.zero_add]
    exact p3
theorem fed_keys {d : Addr} {o : Obj} {kvs : List (Key × D)} {ks : List (Key × V)} {ok : Sto → Prop} (h : H d = some (.frz o (.dK ks))) (r : RepK K H as kvs ks) : Fed K as H ⟨ok, kvs.map fun p => keyD p.1⟩ (Itk d o ks) where
  go := fun i as' H' S' x s _ hi => by
    have hi : i < (kvs.map fun p => keyD p.1).length := hi
    rw [List.length_map, Paired.length r] at hi
    exact ⟨x.frz _ _ _ h, hi⟩
  stop := fun as' H' S' x s _ => by
    refine ⟨x.frz _ _ _ h, ?_⟩
    show ks.length ≤ (kvs.map fun p => keyD p.1).length
    rw [List.length_map, Paired.length r]
    exact Nat.le_refl _
  yld := fun i as' H' S' v H2 x s _ hi ⟨eH, k, w, hk, ev⟩ => by
    have hi : i < (kvs.map fun p => keyD p.1).length := hi
    rw [List.length_map] at hi
    subst eH
    subst ev
    obtain ⟨p, hp⟩ := nth hi
    have hpk : p.1 = k := by
      have key : ∀ (kvs : List (Key × D)) (ks : List (Key × V)) (i : Nat), RepK K H as kvs ks → kvs[i]? = some p → ks[i]? = some (k, w) → p.1 = k := by
        intro kvs ks i r
        unfold RepK at r
        induction r generalizing i with
        | nil => intro h; simp at h
        | @cons p' q' ps qs h t ih =>
          intro h1 h2
          cases i with
          | zero =>
            have e1 : p' = p := by simpa using h1
            have e2 : q' = (k, w) := by simpa using h2
            subst e1
            subst e2
            exact h.1
          | succ i => exact ih i (by simpa using h1) (by simpa using h2)
      exact key kvs ks i r hp hk
    refine ⟨keyD p.1, ?_, Ext.refl, s, ?_⟩
    · show (kvs.map fun p => keyD p.1)[i]? = _
      rw [List.getElem?_map, hp]
      rfl
    · rw [hpk]
      cases k with
      | inl i => exact .int i
      | inr x => exact .str x
end
section
variable {X : Cx} {pins : List (Addr × Obj)} {σ : L2.St} {H : Hp} {s : Shared} {tg : Expr} {R : It → Hp → Prop} {E : Value → Shared → Prop} {a : Addr} {xs : List V}
theorem it_list (I1 : Inv X pins σ H s) (hq : SqL X.K H a xs) (q : R (Itl X.K a) H) : wpAny (model X.prog X.w) X.A (pyIter (.ref a)) (PIE X pins σ tg R) E s := by
  obtain ⟨its, rv, p, hz⟩ := I1.list hq
  refine wpAny_pyIter_list p.isList ?_
  refine ⟨s.heap.objs.size, [s.heap.objs.size], _, _, H, rfl, I1.kept (t' := s.toks) fun b o e => Heap.get?_push_of_some _ e, turn_list a _, ⟨_, Heap.get?_push_size _ rfl, rfl, rfl⟩, fun b hb => ?_, q⟩
  have e : b = s.heap.objs.size := by simpa using hb
  subst e
  exact I1.fpOk (Nat.le_refl _) (I1.hok.fresh (Nat.le_refl _))
theorem it_tup (I1 : Inv X pins σ H s) (hq : SqT X.K H a xs) (q : R (Itt X.K a) H) : wpAny (model X.prog X.w) X.A (pyIter (.ref a)) (PIE X pins σ tg R) E s := by
  obtain ⟨its, rv, p, hz⟩ := I1.tuple hq
  refine wpAny_pyIter_tuple (show s.heap.IsTuple a its.toArray from p) ?_
  refine ⟨s.heap.objs.size, [s.heap.objs.size], _, _, H, rfl, I1.kept (t' := s.toks) fun b o e => Heap.get?_push_of_some _ e, turn_tuple a _, ⟨_, Heap.get?_push_size _ rfl, rfl, rfl⟩, fun b hb => ?_, q⟩
  have e : b = s.heap.objs.size := by simpa using hb
  subst e
  exact I1.fpOk (Nat.le_refl _) (I1.hok.fresh (Nat.le_refl _))
end
/-- a source's reading -/
def liftI (G : Gi) (K : PySem.W.Frag) (C : Orc) (W : WX) (it : Itx) : TI := fun σ H R => ∃ (as : List Addr) (env : Env) (S : Sto) (Q : Src → Sto → (Sto → Sto) → Prop) (E : Xo), Sim K H as S ∧ RelE K H as env σ ∧ wpI C false it env S Q E ∧
  (∀ src S' as' H' J, Ext as as' H H' → Sim K H' as' S' → Fed K as' H' src J → Q src S' id → R J H') ∧ impE G K as H σ E W
section
variable {X : Cx} {G : Gi} {C : Orc} {W : WX} {a b : Expr} {ea eb : Ex} {tg : Expr} {pos p : Pos}
theorem si_val (he : PE X a (liftE G X.K C W ea)) : PI X tg a (liftI G X.K C W (.val ea)) := by
  refine ⟨fun pins s σ H R I ⟨as, env, S, Q, E, sim, rel, q, iq, ie⟩ => ?_⟩
  have q : wpE C ea env S (fun x S1 => srcVal false x S1 Q) E := q
  refine thn (he.run pins s σ H (fun v H1 => ∃ as1 S1 x, Ext as as1 H H1 ∧ Sim X.K H1 as1 S1 ∧ Rep X.K H1 as1 x v ∧ srcVal false x S1 Q) I ⟨as, env, S, _, E, sim, rel, q, fun x S1 as1 v H1 x1 s1 r1 q1 => ⟨as1, S1, x, x1, s1, r1, q1⟩, ie⟩) fun u s1 ⟨v, H1, I1, rv, as1, S1, x, x1, sim1, r1, q1⟩ => ?_
  cases r1 with
  | tup h r =>
    cases rv
    exact it_tup I1 h (iq _ _ _ _ _ x1 sim1 (fed_tup h r) q1)
  | fz h r =>
    cases rv
    exact it_list I1 h.sq (iq _ _ _ _ _ x1 sim1 (fed_fz h r) q1)
  | ref e =>
    cases rv
    rcases q1 with ⟨xs, hl, q1⟩ | ⟨e, _⟩
    · obtain ⟨a', vs, e1, _, hq, rs⟩ := sim1.seq (.ref e) hl
      cases e1
      exact it_list I1 hq (iq _ _ _ _ _ x1 sim1 (fed_list (.ref e)) q1)
    · cases e
  | _ => exact q1.elim
theorem srcRng_one {x : D} {k : Src → Prop} (h : srcRng [x] k) : ∃ j, x = .int j ∧ -(2 ^ 62) ≤ j ∧ j < 2 ^ 62 ∧ k ⟨fun _ => True, rangeD 0 j⟩ := by
  cases x with
  | int j => exact ⟨j, rfl, h⟩
  | _ => exact h.elim
theorem srcRng_two {x y : D} {k : Src → Prop} (h : srcRng [x, y] k) : ∃ i j, x = .int i ∧ y = .int j ∧ (-(2 ^ 62) ≤ i ∧ i < 2 ^ 62 ∧ -(2 ^ 62) ≤ j ∧ j < 2 ^ 62) ∧ k ⟨fun _ => True, rangeD i j⟩ := by
  cases x with
  | int i =>
    cases y with
    | int j => exact ⟨i, j, rfl, rfl, h⟩
    | _ => exact h.elim
  | _ => cases y <;> exact h.elim
theorem srcZip_inv {x y : D} {S : Sto} {k : Src → Prop} (h : srcZip x y S k) : (∃ xs ys, x = .tup xs ∧ y = .tup ys ∧ k ⟨fun _ => True, (xs.zip ys).map fun p => .tup [p.1, p.2]⟩) ∨
    ∃ n m xs ys, x = .ref n ∧ y = .ref m ∧ lstAt S n = some xs ∧ lstAt S m = some ys ∧ k ⟨fun T => lstAt T n = some xs ∧ lstAt T m = some ys, (xs.zip ys).map fun p => .tup [p.1, p.2]⟩ := by
  cases x with
  | tup xs =>
    cases y with
    | tup ys => exact .inl ⟨xs, ys, rfl, rfl, h⟩
    | _ => exact h.elim
  | ref n =>
    cases y with
    | ref m => obtain ⟨xs, ys, h⟩ := h; exact .inr ⟨n, m, xs, ys, rfl, rfl, h⟩
    | _ => exact h.elim
  | _ => cases y <;> exact h.elim
theorem srcEnum_inv {x : D} {S : Sto} {k : Src → Prop} (h : srcEnum x S k) : ∃ n xs, x = .ref n ∧ lstAt S n = some xs ∧ k ⟨fun T => lstAt T n = some xs, enumD 0 xs⟩ := by
  cases x with
  | ref n => obtain ⟨xs, h⟩ := h; exact ⟨n, xs, rfl, h⟩
  | _ => exact h.elim
theorem si_rng1 (hg : Gl X "range") (hm : X.mg "range" = none) (hn : notStar a = true) (ha : PE X a (liftE G X.K C W ea)) : PI X tg (.Call (.Name "range" p) [a] [] pos) (liftI G X.K C W (.rng (.cons ea .nil))) := by
  refine ⟨fun pins s σ H R I ⟨as, env, S, Q, E, sim, rel, q, iq, ie⟩ => ?_⟩
  have q : wpEs C (.cons ea .nil) env S (fun ds S1 => match ds with | [x] => srcRng [x] fun s => Q s S1 id | _ => False) E := q
  refine (pi_range1 hg hm (sa_cons hn ha sa_nil) (starEach_plain hn)).run pins s σ H R I ⟨as, env, S, _, E, sim, rel, q, fun ds S1 as1 vs H1 x1 s1 r1 q1 => ?_, ie⟩
  rcases ds with _ | ⟨x, _ | ⟨y, _⟩⟩
  · exact False.elim q1
  · have q1 : srcRng [x] fun s => Q s S1 id := q1
    obtain ⟨j, e, h1, h2, q2⟩ := srcRng_one q1
    subst e
    obtain ⟨v, e, rv⟩ := r1.one
    subst e
    cases rv
    refine ⟨j, rfl, h1, h2, ?_⟩
    have := iq _ _ _ _ _ x1 s1 fed_rng q2
    rw [Int.sub_zero] at this
    exact this
  · exact False.elim q1
theorem si_rng2 (hg : Gl X "range") (hm : X.mg "range" = none) (hn : notStar a = true) (hn' : notStar b = true) (ha : PE X a (liftE G X.K C W ea)) (hb : PE X b (liftE G X.K C W eb)) :
    PI X tg (.Call (.Name "range" p) [a, b] [] pos) (liftI G X.K C W (.rng (.cons ea (.cons eb .nil)))) := by
  refine ⟨fun pins s σ H R I ⟨as, env, S, Q, E, sim, rel, q, iq, ie⟩ => ?_⟩
  have q : wpEs C (.cons ea (.cons eb .nil)) env S (fun ds S1 => match ds with | [x, y] => srcRng [x, y] fun s => Q s S1 id | _ => False) E := q
  have h1 : starEach [b] X.env = [(false, eval b X.env)] := starEach_plain hn'
  have h2 : starEach [a, b] X.env = [(false, eval a X.env), (false, eval b X.env)] := by rw [starEach_plain hn, h1]
  refine (pi_range2 hg hm (sa_cons hn ha (sa_cons hn' hb sa_nil)) h2 h1).run pins s σ H R I ⟨as, env, S, _, E, sim, rel, q, fun ds S1 as1 vs H1 x1 s1 r1 q1 => ?_, ie⟩
  rcases ds with _ | ⟨x, _ | ⟨y, _ | ⟨z, _⟩⟩⟩
  · exact False.elim q1
  · exact False.elim q1
  · have q1 : srcRng [x, y] fun s => Q s S1 id := q1
    obtain ⟨i, j, e, e', h1, q2⟩ := srcRng_two q1
    subst e
    subst e'
    cases r1 with | cons r1 r1' =>
    cases r1' with | cons r2 r2' =>
    cases r2'
    cases r1
    cases r2
    exact ⟨i, j, rfl, h1, iq _ _ _ _ _ x1 s1 fed_rng q2⟩
  · exact False.elim q1
theorem si_zip {elts : List Expr} {kk : Nat} {tpos : Pos} (hg : Gl X "zip") (hm : X.mg "zip" = none) (hn : notStar a = true) (hn' : notStar b = true) (ha : PE X a (liftE G X.K C W ea)) (hb : PE X b (liftE G X.K C W eb)) :
    PI X (.Tuple elts kk tpos) (.Call (.Name "zip" p) [a, b] [] pos) (liftI G X.K C W (.zip ea eb)) := by
  refine ⟨fun pins s σ H R I ⟨as, env, S, Q, E, sim, rel, q, iq, ie⟩ => ?_⟩
  have q : wpEs C (.cons ea (.cons eb .nil)) env S (fun ds S1 => match ds with | [x, y] => srcZip x y S1 fun s => Q s S1 id | _ => False) E := q
  refine (RZ.pi_zipA hg hm (sa_cons hn ha (sa_cons hn' hb sa_nil)) (starEach_plain hn) (by rw [starEach_plain hn']; rfl)).run pins s σ H R I ⟨as, env, S, _, E, sim, rel, q, fun ds S1 as1 vs H1 x1 s1 r1 q1 => ?_, ie⟩
  rcases ds with _ | ⟨x, _ | ⟨y, _ | ⟨z, _⟩⟩⟩
  · exact False.elim q1
  · exact False.elim q1
  · have q1 : srcZip x y S1 fun s => Q s S1 id := q1
    cases r1 with | cons r1 r1' =>
    cases r1' with | cons r2 r2' =>
    cases r2'
    rcases srcZip_inv q1 with ⟨xs, ys, e, e', q2⟩ | ⟨n, m, xs, ys, e, e', h1, h2, q2⟩
    · subst e
      subst e'
      cases r1 with | tup h r =>
      cases r2 with | tup h' r' =>
      exact ⟨_, _, _, _, rfl, .inr ⟨h, h', iq _ _ _ _ _ x1 s1 (fed_zipT h r h' r') q2⟩⟩
    subst e
    subst e'
    obtain ⟨a1, vs, e1, _, hq, _⟩ := s1.seq r1 h1
    obtain ⟨a2, ws, e2, _, hq', _⟩ := s1.seq r2 h2
    subst e1
    subst e2
    exact ⟨_, _, _, _, rfl, .inl ⟨hq, hq', iq _ _ _ _ _ x1 s1 (fed_zip r1 r2) q2⟩⟩
  · exact False.elim q1
theorem si_enum {elts : List Expr} {kk : Nat} {tpos : Pos} (hg : Gl X "enumerate") (hm : X.mg "enumerate" = none) (hn : notStar a = true) (ha : PE X a (liftE G X.K C W ea)) :
    PI X (.Tuple elts kk tpos) (.Call (.Name "enumerate" p) [a] [] pos) (liftI G X.K C W (.enum ea)) := by
  refine ⟨fun pins s σ H R I ⟨as, env, S, Q, E, sim, rel, q, iq, ie⟩ => ?_⟩
  have q : wpEs C (.cons ea .nil) env S (fun ds S1 => match ds with | [x] => srcEnum x S1 fun s => Q s S1 id | _ => False) E := q
  refine (pi_enum hg hm (sa_cons hn ha sa_nil) (starEach_plain hn)).run pins s σ H R I ⟨as, env, S, _, E, sim, rel, q, fun ds S1 as1 vs H1 x1 s1 r1 q1 => ?_, ie⟩
  rcases ds with _ | ⟨x, _ | ⟨y, _⟩⟩
  · exact False.elim q1
  · have q1 : srcEnum x S1 fun s => Q s S1 id := q1
    cases r1 with | cons r1 r1' =>
    cases r1'
    obtain ⟨n, xs, e, h1, q2⟩ := srcEnum_inv q1
    subst e
    obtain ⟨a1, vs, e1, _, hq, _⟩ := s1.seq r1 h1
    subst e1
    exact ⟨_, _, rfl, hq, iq _ _ _ _ _ x1 s1 (fed_enum r1) q2⟩
  · exact False.elim q1
/-! ### stars -/
theorem sa_star {es : List Expr} {xs : Exs} (ha : PE X a (liftE G X.K C W ea)) (hr : PA X es (liftEs G X.K C W xs)) : PA X (.Starred a p :: es) (liftEs G X.K C W (.star ea xs)) :=
  (StX.pa_star ha hr).weak fun σ H QL ⟨as, env, S, Q, E, sim, rel, q, iq, ie⟩ =>
    ⟨as, env, S, _, E, sim, rel, q, fun x S1 as1 v H1 x1 s1 r1 ⟨ys, hs, q1⟩ => (by
      have fin : ∀ (ws : List V), Reps X.K H1 as1 ys ws → liftEs G X.K C W xs σ H1 fun zs H2 => QL (ws ++ zs) H2 := fun ws rs =>
        ⟨as1, env, S1, _, E, s1, rel.ext x1, q1, fun ds S2 as2 vs H2 x2 s2 r2 q2 => iq _ _ _ _ _ (x1.trans x2) s2 ((rs.ext x2).append r2) q2, ie.step x1⟩
      cases r1 with
      | tup h r =>
        cases hs
        exact ⟨_, _, rfl, .inl h, fin _ r⟩
      | fz h r =>
        cases hs
        exact ⟨_, _, rfl, .inr h.sq, fin _ r⟩
      | ref e =>
        obtain ⟨a1, vs, e1, _, hq, rs⟩ := s1.seq (.ref e) hs
        cases e1
        exact ⟨_, _, rfl, .inr hq, fin _ rs⟩
      | _ => cases hs), ie⟩
/-! ### dicts -/
theorem sy_dict0 : PE X (.Dict [] [] pos) (liftE G X.K C W (.dict [] .nil)) :=
  pe_dnewK.weak fun σ H QV ⟨as, env, S, Q, E, sim, rel, q, iq, ie⟩ p hp => iq.newDct sim (kvs := []) (ws := []) .nil hp q.2.2
/-- keys that are texts -/
def strKeys : List (Option Expr) → List Str → Bool
  | [], [] => true
  | some (.Constant (.str x) _ _) :: es, y :: ys => decide (x = y) && strKeys es ys
  | _, _ => false
/-- the pairs of a display, their readings -/
structure DPs (X : Cx) (G : Gi) (C : Orc) (W : WX) (pos : Pos) (keys : List (Option Expr)) (values : List Expr) (ks : List Str) (xs : Exs) : Prop where
  ex : ∃ trs, PPs X pos keys values trs ∧ ∀ (σ : L2.St) (H : Hp) (QL : List (V × V) → Hp → Prop) (as : List Addr) (env : Env) (S : Sto) (Q : Pl) (E : Xo), Sim X.K H as S → RelE X.K H as env σ → wpEs C xs env S Q E →
    (∀ ds S' as' vs H', Ext as as' H H' → Sim X.K H' as' S' → Reps X.K H' as' ds vs → Q ds S' → QL ((ks.map V.str).zip vs) H') → impE G X.K as H σ E W → tPairs trs σ H QL
theorem dp_nil : DPs X G C W pos [] [] [] .nil := ⟨[], pps_nil, fun σ H QL as env S Q E sim rel q iq ie => iq _ _ _ _ _ Ext.refl sim .nil q⟩
theorem dp_cons {keys : List (Option Expr)} {values : List Expr} {ks : List Str} {xs : Exs} {y : Str} {j : Nat} (ha : PE X a (liftE G X.K C W ea)) (hr : DPs X G C W pos keys values ks xs) :
    DPs X G C W pos (some (.Constant (.str y) j p) :: keys) (a :: values) (y :: ks) (.cons ea xs) := by
  obtain ⟨trs, h1, h2⟩ := hr.ex
  refine ⟨_, pps_cons pe_str ha h1, fun σ H QL as env S Q E sim rel q iq ie => ?_⟩
  exact ⟨as, env, S, _, E, sim, rel, q, fun x S1 as1 v H1 x1 s1 r1 q1 => h2 σ H1 _ as1 env S1 _ E s1 (rel.ext x1) q1 (fun ds S2 as2 vs H2 x2 s2 r2 q2 => iq _ _ _ _ _ (x1.trans x2) s2 (.cons (r1.ext x2) r2) q2) (ie.step x1), ie⟩
theorem zip_keys : ∀ (ks : List Str) (vs : List V), ks.length = vs.length → (ks.map V.str).zip vs = (((ks.map fun x => (Sum.inr x : Key)).zip vs).map fun kv => (kV kv.1, kv.2))
  | [], [], _ => rfl
  | k :: ks, v :: vs, h => by
    show (V.str k, v) :: (ks.map V.str).zip vs = (kV (Sum.inr k), v) :: _
    rw [zip_keys ks vs (by simpa using h)]
    rfl
theorem zip_repK {K : PySem.W.Frag} {H : Hp} {as : List Addr} : ∀ {ds : List D} {vs : List V} (ks : List Key), Reps K H as ds vs → RepK K H as (ks.zip ds) (ks.zip vs)
  | _, _, [], _ => .nil
  | _, _, _ :: _, .nil => .nil
  | _, _, k :: ks, .cons h r => .cons ⟨rfl, h⟩ (zip_repK ks r)
theorem sy_dict {keys : List (Option Expr)} {values : List Expr} {ks : List Str} {xs : Exs} (h : DPs X G C W pos keys values ks xs) (hall : keys.all (·.isSome) = true) (hl : keys.length = values.length) (h0 : keys ≠ []) (h15 : keys.length ≤ 15) :
    PE X (.Dict keys values pos) (liftE G X.K C W (.dict ks xs)) := by
  obtain ⟨trs, h1, h2⟩ := h.ex
  refine (pe_disp h1 hall hl h0 h15).weak fun σ H QV ⟨as, env, S, Q, E, sim, rel, q, iq, ie⟩ p hp => ?_
  have x0 : Ext as as H (upd H p (.dK [])) := Ext.laid hp
  have hpn : p ∉ as := sim.fresh hp
  refine h2 σ _ _ as env S _ E (sim.laid hp) (rel.ext x0) q (fun ds S1 as1 vs H1 x1 s1 r1 ⟨hk, hk15, q1⟩ => ?_) (ie.step x0)
  have hp1 : p ∉ as1 := x1.notin hpn (by rw [upd_same]; exact fun z => nomatch z)
  have hd : H1 p = some (.dK []) := x1.out p _ hpn upd_same
  have hlen : ks.length = vs.length := by rw [hk, r1.length]
  refine ⟨hd, _, zip_keys ks vs hlen, by rw [List.length_zip, List.length_map]; omega, ?_⟩
  have w1 : Wk as1 as1 H1 (upd H1 p (.dK (mergeK [] ((ks.map fun x => (Sum.inr x : Key)).zip vs)))) := Wk.own hd (fun _ z => nomatch z) (fun _ _ z => nomatch z)
  have s2 := s1.own (o := .dK (mergeK [] ((ks.map fun x => (Sum.inr x : Key)).zip vs))) hp1 hd (fun _ z => nomatch z) (fun _ _ z => nomatch z)
  have rk : RepK X.K H1 as1 (mergeD [] ((ks.map fun x => (Sum.inr x : Key)).zip ds)) (mergeK [] ((ks.map fun x => (Sum.inr x : Key)).zip vs)) := RepK.merge (zip_repK _ r1) (kvs := []) (ws := []) .nil
  refine iq _ _ (as1 ++ [p]) _ _ ((x0.trans x1).own hp |>.adopt hp) (s2.adopt (ob := .dct _) hp1 ⟨_, upd_same, (rk.wk w1).wk Wk.adopt⟩) (.ref ?_) q1
  exact s1.last p
end
end Ev
end
section
set_option Elab.async false
set_option linter.all false
set_option maxRecDepth 100000
set_option maxHeartbeats 1000000
/-! Ev's targets and comprehensions. -/
namespace Ev
open PySem PySem.Spec PyProof.Rows L2
def slotsOf : Tg → List Nat
  | .nm i => [i]
  | .tp l => l
def putV : L2.St → List Nat → List V → L2.St
  | σ, i :: l, v :: vs => putV (σ.set i (some v)) l vs
  | σ, _, _ => σ
/-- a target's reading -/
def gOf (K : PySem.W.Frag) : Tg → TG
  | .nm i => gName i
  | .tp l => fun v σ H Q => ∃ a xs, v = .ref a ∧ (SqT K H a xs ∨ SqL K H a xs) ∧ xs.length = l.length ∧ Q (putV σ l xs) H
/-- the names of a target -/
def nmsOk (N : List Str) (sc : Scope) : List Expr → List Nat → Bool
  | [], [] => true
  | .Name x _ :: es, i :: l => decide (N[i]? = some x) && (decide (sc.names.lookup x = some .local ∨ sc.names.lookup x = some .cell) && nmsOk N sc es l)
  | _, _ => false
def nmOk (N : List Str) (sc : Scope) (i : Nat) : Expr → Bool
  | .Name x _ => decide (N[i]? = some x) && decide (sc.names.lookup x = some .local ∨ sc.names.lookup x = some .cell)
  | _ => false
def tpOk (N : List Str) (sc : Scope) (l : List Nat) : Expr → Bool
  | .Tuple es _ _ => nmsOk N sc es l
  | _ => false
def tgOk (N : List Str) (sc : Scope) (e : Expr) : Tg → Bool
  | .nm i => nmOk N sc i e
  | .tp l => tpOk N sc l e
/-- the names that may be stored -/
def LocAt (X : Cx) (sc : Scope) : Prop := ∀ x, (sc.names.lookup x = some .local ∨ sc.names.lookup x = some .cell) → Loc X.env.scope x ∧ (X.fn x = true ∨ X.env.scope.names.lookup x = some .local)
def gPut (l : List Nat) : TGs := fun vs σ H Q => vs.length = l.length ∧ Q (putV σ l vs) H
section
variable {X : Cx} {N : List Str} {sc : Scope}
theorem name_pg {i : Nat} {x : Str} {pos : Pos} (hX : X.N = N) (hN : N.Nodup) (hs : LocAt X sc) (h1 : N[i]? = some x) (h2 : sc.names.lookup x = some .local ∨ sc.names.lookup x = some .cell) : PG X (.Name x pos) (gName i) := by
  subst hX
  obtain ⟨h3, h4⟩ := hs x h2
  exact pg_name hN h1 h3 h4
theorem nms_pgs (hX : X.N = N) (hN : N.Nodup) (hs : LocAt X sc) : ∀ {es : List Expr} {l : List Nat}, nmsOk N sc es l = true →
    PGs X es (gPut l) ∧ (assignEach es X.env).length = l.length ∧ (assignEach es X.env).findIdx? (·.1) = none
  | [], [], _ => ⟨⟨fun pins s σ H vs us Q I r ⟨hl, q⟩ => by
      have e : vs = [] := List.eq_nil_of_length_eq_zero hl
      subst e
      exact pgs_nil.run pins s σ H [] us Q I r ⟨rfl, q⟩⟩, rfl, rfl⟩
  | e :: es, i :: l, h => by
    unfold nmsOk at h
    split at h
    · rename_i e1 _; cases e1
    · rename_i x p es' i' l' e1 e2
      injection e1 with e1 e3
      injection e2 with e2 e4
      subst e1 e3 e2 e4
      simp only [Bool.and_eq_true, decide_eq_true_eq] at h
      obtain ⟨h1, h2, h3⟩ := h
      obtain ⟨g1, g2, g3⟩ := nms_pgs hX hN hs h3
      refine ⟨⟨fun pins s σ H vs us Q I r ⟨hl, q⟩ => ?_⟩, ?_, ?_⟩
      · cases vs with
        | nil => cases hl
        | cons v vs => exact (pgs_cons (name_pg hX hN hs h1 h2) g1).run pins s σ H _ us Q I r ⟨v, vs, rfl, by simpa using hl, q⟩
      · show (assignEach es X.env).length + 1 = l.length + 1
        rw [g2]
      · show ((false, assign (.Name x p) X.env) :: assignEach es X.env).findIdx? (·.1) = none
        rw [List.findIdx?_cons]
        simp [g3]
    · cases h
  | [], _ :: _, h => by cases h
  | e :: _, [], h => by cases e <;> cases h
theorem tg_pg {tg : Expr} {t : Tg} (hc : X.calm = true) (hX : X.N = N) (hN : N.Nodup) (hs : LocAt X sc) (h : tgOk N sc tg t = true) : PG X tg (gOf X.K t) := by
  cases t with
  | nm i =>
    have h : nmOk N sc i tg = true := h
    unfold nmOk at h
    split at h
    · simp only [Bool.and_eq_true, decide_eq_true_eq] at h
      exact name_pg hX hN hs h.1 h.2
    · cases h
  | tp l =>
    have h : tpOk N sc l tg = true := h
    unfold tpOk at h
    split at h
    · obtain ⟨g1, g2, g3⟩ := nms_pgs hX hN hs h
      refine ⟨fun pins s σ H v u Q I r ⟨a, xs, e, hq, hl, q⟩ => ?_⟩
      rcases hq with hq | hq
      · exact (pg_tup hc g1 g2 g3).run pins s σ H v u Q I r ⟨a, xs, e, hq, hl, hl, q⟩
      · exact (pg_lst hc g1 g2 g3).run pins s σ H v u Q I r ⟨a, xs, e, hq, hl, hl, q⟩
    · cases h
end
section
variable {K : PySem.W.Frag} {H : Hp} {as : List Addr} {S : Sto} {env : Env} {σ : L2.St} {d : D} {v : V}
theorem RelE.putAll : ∀ {l : List Nat} {ds : List D} {vs : List V} {env : Env} {σ : L2.St}, RelE K H as env σ → Reps K H as ds vs → RelE K H as (putAll env l ds) (putV σ l vs)
  | [], _, _, _, _, r, _ => by unfold Ev.putAll putV; exact r
  | _ :: _, [], _, _, _, r, .nil => by unfold Ev.putAll putV; exact r
  | _ :: _, _ :: _, _, _, _, r, .cons h q => by unfold Ev.putAll putV; exact RelE.putAll (r.set h) q
theorem tg_ok {t : Tg} {k : Env → Prop} {Q : L2.St → Hp → Prop} (sim : Sim K H as S) (rel : RelE K H as env σ) (r : Rep K H as d v) (h : tgSem t d env S k) (hq : ∀ env' vs, RelE K H as env' (putV σ (slotsOf t) vs) → k env' → Q (putV σ (slotsOf t) vs) H) : gOf K t v σ H Q := by
  cases t with
  | nm i => exact hq (env.set i (some d)) [v] (rel.set r) h
  | tp l =>
    have h : unpack l.length d S fun ds => k (putAll env l ds) := h
    cases r with
    | tup hs rs =>
      obtain ⟨hl, h⟩ := h
      exact ⟨_, _, rfl, .inl hs, by rw [← rs.length]; exact hl, hq _ _ (rel.putAll rs) h⟩
    | ref e =>
      obtain ⟨xs, h1, hl, h⟩ := h
      obtain ⟨a, vs, e1, _, hs, rs⟩ := sim.seq (.ref e) h1
      cases e1
      exact ⟨_, _, rfl, .inr hs, by rw [← rs.length]; exact hl, hq _ _ (rel.putAll rs) h⟩
    | _ => exact h.elim
theorem wipe_get (σ : L2.St) (j : Nat) : ∀ vs : List Nat, (L2.wipe σ vs)[j]? = if j ∈ vs then (if j < σ.length then some none else none) else σ[j]?
  | [] => by simp [L2.wipe]
  | v :: vs => by
    unfold L2.wipe
    by_cases hv : v = j
    · subst hv
      by_cases hl : v < σ.length
      · rw [List.getElem?_set_self (by rw [wipe_length]; exact hl)]
        simp [hl]
      · rw [List.getElem?_eq_none (by rw [List.length_set, wipe_length]; omega)]
        simp [hl]
    · rw [List.getElem?_set_ne hv, wipe_get σ j vs]
      have : (j ∈ v :: vs) ↔ j ∈ vs := by simp [Ne.symm hv]
      simp only [this]
theorem putV_length : ∀ (l : List Nat) (vs : List V) (σ : L2.St), (putV σ l vs).length = σ.length
  | [], _, _ => by unfold putV; rfl
  | _ :: _, [], _ => by unfold putV; rfl
  | _ :: l, _ :: vs, σ => by
    unfold putV
    rw [putV_length l vs]
    simp
theorem putV_get (j : Nat) : ∀ (l : List Nat) (vs : List V) (σ : L2.St), j ∉ l → (putV σ l vs)[j]? = σ[j]?
  | [], _, _, _ => by unfold putV; rfl
  | _ :: _, [], _, _ => by unfold putV; rfl
  | i :: l, _ :: vs, σ, h => by
    unfold putV
    rw [putV_get j l vs _ fun z => h (List.mem_cons_of_mem _ z), List.getElem?_set_ne fun z => h (by rw [z]; exact List.mem_cons_self)]
theorem wipe_put {own l : List Nat} (h : ∀ i ∈ l, i ∈ own) (vs : List V) : L2.wipe (putV (L2.wipe σ own) l vs) own = L2.wipe σ own := by
  apply List.ext_getElem?
  intro j
  rw [wipe_get, putV_length, wipe_length]
  by_cases hj : j ∈ own
  · rw [if_pos hj, wipe_get, if_pos hj]
  · rw [if_neg hj, putV_get j l vs _ fun z => hj (h j z)]
end
/-! ### a comprehension's list -/
section
variable {K : PySem.W.Frag} {as : List Addr} {H1 : Hp} {S1 : Sto} {src : Src} {J : It} {f : D → Sto → (Option D → Sto → Prop) → Prop} {Q5 : Pl} {g : TG} {tt : TT} {te : TE} {vs : List Nat} {σ : L2.St} {Qd : Addr → Hp → Prop}
theorem comp_core (fed : Fed K as H1 src J) (sim : Sim K H1 as S1) (hg : gather src.ok f src.items [] S1 Q5)
    (body : ∀ (as' : List Addr) (H' : Hp) (S' : Sto) (x : D) (v : V) (k : Option D → Sto → Prop) (KS : V → Hp → Prop) (KN : Hp → Prop), Ext as as' H1 H' → Sim K H' as' S' → Rep K H' as' x v → f x S' k →
      (∀ as4 d y S4 H4, Ext as' as4 H' H4 → Sim K H4 as4 S4 → Rep K H4 as4 d y → k (some d) S4 → KS y H4) → (∀ as4 S4 H4, Ext as' as4 H' H4 → Sim K H4 as4 S4 → k none S4 → KN H4) →
      g v (L2.wipe σ vs) H' fun σ2 H2 => L2.wipe σ2 vs = L2.wipe σ vs ∧ tt σ2 H2 fun b H3 => if b = true then te σ2 H3 KS else KN H3)
    (hd : ∀ (L : Addr) (as' : List Addr) (H' : Hp) (S' : Sto) (ds : List D) (ws : List V), H1 L = none → Ext as as' H1 H' → Sim K H' as' S' → L ∉ as' → H' L = some (.lst ws) → Reps K H' as' ds ws → src.ok S' → Q5 ds S' → Qd L H') :
    ∀ D, H1 D = none → ∃ W : Nat → Nat → Hp → Prop, (∃ m, W 0 m (upd H1 D (.lst []))) ∧ ∀ i m H, W i m H →
      (J.stop i H ∧ Qd D H) ∨ (J.go i H ∧ ∃ Nx : Hp → Prop, (∀ H', Nx H' → ∃ m', m' < m ∧ W (i + 1) m' H') ∧ ∀ x H', J.yld i H x H' → g x (L2.wipe σ vs) H' fun σ2 H2 => L2.wipe σ2 vs = L2.wipe σ vs ∧ tt σ2 H2 fun b H3 =>
        if b = true then te σ2 H3 fun y H4 => ∃ acc, H4 D = some (.lst acc) ∧ acc.length < sizeLine ∧ Nx (upd H4 D (.lst (acc ++ [y]))) else Nx H3) := by
  intro D hD
  have Pv : Nat → Hp → Prop := fun i H => True
  let P : Nat → Hp → Prop := fun i H => ∃ (as' : List Addr) (S' : Sto) (ds : List Ev.D) (ws : List V), Ext as as' H1 H ∧ Sim K H as' S' ∧ D ∉ as' ∧ H D = some (.lst ws) ∧ Reps K H as' ds ws ∧ gather src.ok f (src.items.drop i) ds S' Q5
  have gok : ∀ {xs ds S}, gather src.ok f xs ds S Q5 → src.ok S := fun {xs ds S} h => by
    cases xs with
    | nil => exact h.1
    | cons x xs => exact h.1
  refine ⟨fun i m H => m = src.items.length - i ∧ i ≤ src.items.length ∧ P i H, ⟨_, rfl, Nat.zero_le _, as, S1, [], [], Ext.laid hD, sim.laid hD, sim.fresh hD, upd_same, .nil, hg⟩, ?_⟩
  rintro i m H ⟨rfl, hi, as', S', ds, ws, x1, s1, hDn, hDl, r1, hgt⟩
  have ok := gok hgt
  by_cases hlt : i < src.items.length
  · refine .inr ⟨fed.go i as' H S' x1 s1 ok hlt, P (i + 1), fun H' p => ⟨_, by omega, rfl, hlt, p⟩, fun v H' y => ?_⟩
    obtain ⟨d, hd1, x2, s2, r2⟩ := fed.yld i as' H S' v H' x1 s1 ok hlt y
    have hcons : src.items.drop i = d :: src.items.drop (i + 1) := by
      rw [List.getElem?_eq_getElem hlt] at hd1
      rw [List.drop_eq_getElem_cons hlt]
      cases hd1
      rfl
    rw [hcons] at hgt
    obtain ⟨_, hf⟩ := hgt
    refine body as' H' S' d v _ _ _ (x1.trans x2) s2 r2 hf (fun as4 d4 y4 S4 H4 x4 s4 r4 ⟨hl, q4⟩ => ?_) fun as4 S4 H4 x4 s4 q4 => ?_
    · have hD4 : H4 D = some (.lst ws) := (x2.trans x4).out D _ hDn hDl
      have hDn4 : D ∉ as4 := (x2.trans x4).notin hDn (by rw [hDl]; exact fun z => nomatch z)
      have w : Wk as4 as4 H4 (upd H4 D (.lst (ws ++ [y4]))) := Wk.own hD4 (fun _ z => nomatch z) (fun _ _ z => nomatch z)
      have := most_le
      refine ⟨ws, hD4, by rw [← r1.length]; omega, as4, S4, ds ++ [d4], ws ++ [y4], ((x1.trans x2).trans x4).own hD, s4.own hDn4 hD4 (fun _ z => nomatch z) (fun _ _ z => nomatch z), hDn4, upd_same, ?_, q4⟩
      exact ((r1.ext (x2.trans x4)).append (.cons r4 .nil)).wk w
    · have hD4 : H4 D = some (.lst ws) := (x2.trans x4).out D _ hDn hDl
      have hDn4 : D ∉ as4 := (x2.trans x4).notin hDn (by rw [hDl]; exact fun z => nomatch z)
      exact ⟨as4, S4, ds, ws, (x1.trans x2).trans x4, s4, hDn4, hD4, r1.ext (x2.trans x4), q4⟩
  · have e : i = src.items.length := by omega
    subst e
    rw [List.drop_length] at hgt
    exact .inl ⟨fed.stop as' H S' x1 s1 ok, hd D as' H S' ds ws hD x1 s1 hDn hDl r1 hgt.1 hgt.2⟩
end
end Ev
end
section
set_option Elab.async false
set_option linter.all false
set_option maxRecDepth 100000
set_option maxHeartbeats 1000000
/-! Ev's comprehensions. -/
namespace Ev
open PySem PySem.Spec PyProof.Rows L2
def noW : WX := fun _ _ _ _ => False
theorem noX_imp {G : Gi} {K : PySem.W.Frag} {as : List Addr} {H : Hp} {σ : L2.St} {W : WX} : impE G K as H σ noX W := fun _ _ _ _ _ _ _ _ _ _ z => z.elim
def liftTs (G : Gi) (K : PySem.W.Frag) (C : Orc) (xs : Exs) : TT := fun σ H QB => ∃ (as : List Addr) (env : Env) (S : Sto) (Q : Bool → Sto → Prop), Sim K H as S ∧ RelE K H as env σ ∧ wpT C xs env S Q ∧
  ∀ r S' as' H', Ext as as' H H' → Sim K H' as' S' → Q r S' → QB r H'
def itVar : Itx → Bool
  | .val e => isVar e
  | _ => false
theorem wpI_false {C : Orc} {it : Itx} {env : Env} {S : Sto} {Q : Src → Sto → (Sto → Sto) → Prop} {E : Xo} (h : itVar it = false) : wpI C true it env S Q E = wpI C false it env S Q E := by
  cases it with
  | val e =>
    have h : isVar e = false := h
    simp only [wpI, h, Bool.and_false]
  | _ => simp only [wpI]
theorem _root_.L2.PTs.weak {X : Cx} {e : List Expr} {t t' : TT} (h : PTs X e t) (w : ∀ σ H Q, t' σ H Q → t σ H Q) : PTs X e t' := ⟨fun pins s σ H Q I q => h.run pins s σ H Q I (w _ _ _ q)⟩
section
variable {X : Cx} {G : Gi} {C : Orc} {W : WX} {a : Expr} {ea : Ex}
theorem st_nil : PTs X [] (liftTs G X.K C .nil) := pts_nil.weak fun σ H Q ⟨as, env, S, Ql, sim, rel, q, iq⟩ => iq _ _ _ _ Ext.refl sim q
theorem st_one (h : PT X a (liftT G X.K C noW ea)) : PTs X [a] (liftTs G X.K C (.cons ea .nil)) := (pts_one h).weak fun σ H Q ⟨as, env, S, Ql, sim, rel, q, iq⟩ => ⟨as, env, S, Ql, noX, sim, rel, q, iq, noX_imp⟩
/-- what a comprehension's parts are to be -/
structure CompOk (X : Cx) (G : Gi) (C : Orc) (N : List Str) (elt tg iter : Expr) (ifs : List Expr) (scope : Scope) (own : List (Str × Nat)) (ee : Ex) (t : Tg) (xs : Exs) : Prop where
  calm : X.calm = true
  nn : X.N = N
  nd : N.Nodup
  ok : BlkOk X.N X.env.scope scope own
  tg : tgOk N scope tg t = true
  sub : ∀ i ∈ slotsOf t, i ∈ own.map (·.2)
  ifs : ∀ (s : Shared) (H : Hp) (Cl : Addr) (cl : List (Str × Addr)) (fp : List Addr), PTs (X.blk s H scope (compEnvC scope cl Cl X.env) fp) ifs (liftTs G X.K C xs)
  elt : ∀ (s : Shared) (H : Hp) (Cl : Addr) (cl : List (Str × Addr)) (fp : List Addr), PE (X.blk s H scope (compEnvC scope cl Cl X.env) fp) elt (liftE G X.K C noW ee)
  folded : ∀ x, foldedSetIterable iter X.env x = pure x
variable {N : List Str} {elt tg iter : Expr} {ifs : List Expr} {scope : Scope} {own : List (Str × Nat)} {ee : Ex} {t : Tg} {xs : Exs} {pos : Pos} {it : Itx}
theorem blk_loc (s : Shared) (H : Hp) (scope : Scope) (Cl : Addr) (cl : List (Str × Addr)) (fp : List Addr) : LocAt (X.blk s H scope (compEnvC scope cl Cl X.env) fp) scope := fun x h => by
  rcases h with h | h
  · have h2 : (relabel scope X.env).names.lookup x = some .local := lookup_relS_keep (by intro z; cases z) h
    exact ⟨.inl h2, .inr h2⟩
  · have h2 : (relabel scope X.env).names.lookup x = some .cell := lookup_relS_keep (by intro z; cases z) h
    exact ⟨.inr h2, .inl (by show (scope.names.lookup x == some .cell) = true; rw [h]; rfl)⟩
theorem CompOk.pg (c : CompOk X G C N elt tg iter ifs scope own ee t xs) (s : Shared) (H : Hp) (Cl : Addr) (cl : List (Str × Addr)) (fp : List Addr) : PG (X.blk s H scope (compEnvC scope cl Cl X.env) fp) tg (gOf X.K t) :=
  tg_pg (X := X.blk s H scope (compEnvC scope cl Cl X.env) fp) (sc := scope) c.calm c.nn c.nd (blk_loc s H scope Cl cl fp) c.tg
/-- one turn -/
theorem comp_turn {K : PySem.W.Frag} {as' : List Addr} {H' : Hp} {S' : Sto} {env : Env} {σ : L2.St} {x : D} {v : V} {vs : List Nat} {k : Option D → Sto → Prop} {KS : V → Hp → Prop} {KN : Hp → Prop} (hsub : ∀ i ∈ slotsOf t, i ∈ vs) (s2 : Sim K H' as' S') (rel : RelE K H' as' env σ) (r2 : Rep K H' as' x v)
    (hf : tgSem t x (Ev.wipe env vs) S' fun env1 => wpT C xs env1 S' fun r S3 => (r = true → wpE C ee env1 S3 (fun y S4 => k (some y) S4) noX) ∧ (r = false → k none S3))
    (hks : ∀ as4 d y S4 H4, Ext as' as4 H' H4 → Sim K H4 as4 S4 → Rep K H4 as4 d y → k (some d) S4 → KS y H4) (hkn : ∀ as4 S4 H4, Ext as' as4 H' H4 → Sim K H4 as4 S4 → k none S4 → KN H4) :
    gOf K t v (L2.wipe σ vs) H' fun σ2 H2 => L2.wipe σ2 vs = L2.wipe σ vs ∧ liftTs G K C xs σ2 H2 fun b H3 => if b = true then liftE G K C noW ee σ2 H3 KS else KN H3 := by
  refine tg_ok s2 (rel.wipe vs) r2 hf fun env' ws rel' h => ⟨wipe_put hsub ws, as', env', S', _, s2, rel', h, fun r S3 as3 H3 x3 s3 q3 => ?_⟩
  cases r with
  | true => exact ⟨as3, env', S3, _, noX, s3, rel'.ext x3, q3.1 rfl, fun d S4 as4 y H4 x4 s4 r4 q4 => hks as4 d y S4 H4 (x3.trans x4) s4 r4 q4, noX_imp⟩
  | false => exact hkn as3 S3 H3 x3 s3 (q3.2 rfl)
theorem tLc_lift (c : CompOk X G C N elt tg iter ifs scope own ee t xs) (hv : itVar it = false) (σ : L2.St) (H : Hp) (QV : VK) (h : liftE G X.K C W (.comp ee t it xs (own.map (·.2))) σ H QV) :
    tLc (liftI G X.K C W it) (gOf X.K t) (liftTs G X.K C xs) (liftE G X.K C noW ee) (own.map (·.2)) σ H QV := by
  obtain ⟨as, env, S, Q, E, sim, rel, q, iq, ie⟩ := h
  unfold wpE at q
  rw [wpI_false hv] at q
  refine ⟨as, env, S, _, E, sim, rel, q, fun src S1 as1 H1 J x1 s1 fed q1 => ?_, ie⟩
  refine comp_core (Qd := fun L H' => QV (.ref L) H') fed s1 q1 (fun as' H' S' x v k KS KN x2 s2 r2 hf hks hkn => ?_) fun L as' H' S5 ds ws hL x5 s5 hLn hLd r5 _ q5 => ?_
  · exact comp_turn c.sub s2 (rel.ext (x1.trans x2)) r2 hf hks hkn
  · exact iq _ _ (as' ++ [L]) _ _ (x1.trans (x5.adopt hL)) (s5.adopt (ob := .lst ds) hLn ⟨ws, hLd, r5.wk Wk.adopt⟩) (.ref (s5.last L)) q5
theorem sy_comp (c : CompOk X G C N elt tg iter ifs scope own ee t xs) (hi : PI X tg iter (liftI G X.K C W it)) (hv : itVar it = false) :
    PE X (.ListComp elt [⟨tg, iter, ifs, 0⟩] scope pos) (liftE G X.K C W (.comp ee t it xs (own.map (·.2)))) :=
  (pe_lc c.calm (by rw [c.nn]; exact c.nd) hi c.ok c.pg c.ifs c.elt c.folded).weak (tLc_lift c hv)
/-- a dict is locked and walked -/
theorem Sim.lock {K : PySem.W.Frag} {H : Hp} {as : List Addr} {S : Sto} {n : Nat} {a : Addr} {kvs : List (Key × D)} {ws : List (Key × V)} (s : Sim K H as S) (hn : S[n]? = some (.dct kvs)) (ea : as[n]? = some a) (he : H a = some (.dK ws)) (r : RepK K H as kvs ws) (o : Obj) :
    Wk as as H (upd H a (.frz o (.dK ws))) ∧ Sim K (upd H a (.frz o (.dK ws))) as (S.set n (.fdc kvs)) := by
  have x : Ext as as H (upd H a (.frz o (.dK ws))) := Ext.write (List.mem_of_getElem? ea) he (fun _ z => nomatch z) (fun _ _ z => nomatch z)
  exact ⟨x.wk, s.put hn ea x.wk ⟨o, ws, upd_same, r.wk x.wk⟩⟩
theorem Wk.unlock {H : Hp} {as : List Addr} {a : Addr} {ws : List (Key × V)} {o : Obj} (he : H a = some (.frz o (.dK ws))) : Wk as as H (upd H a (.dK ws)) where
  pre := fun _ _ h => h
  tup := fun b l e => by rw [upd_ne fun z => by rw [z, he] at e; cases e]; exact e
  frz := fun b x u hu e => by rw [upd_ne fun z => by rw [z, he] at e; cases e; exact hu _ rfl]; exact e
theorem Ext.unlock {H H' : Hp} {as as' : List Addr} {a : Addr} {ws : List (Key × V)} {o : Obj} (ha : a ∈ as) (he : H a = some (.dK ws)) (x : Ext as as' (upd H a (.frz o (.dK ws))) H') : Ext as as' H (upd H' a (.dK ws)) where
  pre := x.pre
  new := fun b hb hn => by
    have h := x.new b hb hn
    rw [upd_ne fun z => hn (by rw [z]; exact ha)] at h
    exact h
  out := fun b u hn e => by
    have hb : b ≠ a := fun z => hn (by rw [z]; exact ha)
    rw [upd_ne hb]
    exact x.out b u hn (by rw [upd_ne hb]; exact e)
  tup := fun b l e => by
    have hb : b ≠ a := fun z => by rw [z, he] at e; cases e
    rw [upd_ne hb]
    exact x.tup b l (by rw [upd_ne hb]; exact e)
  frz := fun b u l e => by
    have hb : b ≠ a := fun z => by rw [z, he] at e; cases e
    rw [upd_ne hb]
    exact x.frz b u l (by rw [upd_ne hb]; exact e)
def tOr (t u : TE) : TE := fun σ H Q => t σ H Q ∨ u σ H Q
theorem pe_or2 {e : Expr} {t u : TE} (h1 : PE X e t) (h2 : PE X e u) : PE X e (tOr t u) := ⟨fun pins s σ H Q I q => q.elim (h1.run pins s σ H Q I) (h2.run pins s σ H Q I)⟩
theorem compV_lift {i : Nat} (c : CompOk X G C N elt tg iter ifs scope own ee t xs) (σ : L2.St) (H : Hp) (QV : VK) (h : liftE G X.K C W (.comp ee t (.val (.var i)) xs (own.map (·.2))) σ H QV) :
    tLc (liftI G X.K C W (.val (.var i))) (gOf X.K t) (liftTs G X.K C xs) (liftE G X.K C noW ee) (own.map (·.2)) σ H QV ∨ tLockE (tLc (iKeys (tVar i)) (gOf X.K t) (liftTs G X.K C xs) (liftE G X.K C noW ee) (own.map (·.2))) σ H QV := by
  obtain ⟨as, env, S, Q, E, sim, rel, q, iq, ie⟩ := h
  unfold wpE at q
  have q : ∃ d, env[i]? = some (some d) ∧ srcVal true d S fun src S1 back => gather src.ok
      (fun x S2 k => tgSem t x (Ev.wipe env (own.map (·.2))) S2 fun env1 => wpT C xs env1 S2 fun r S3 => (r = true → wpE C ee env1 S3 (fun y S4 => k (some y) S4) noX) ∧ (r = false → k none S3))
      src.items [] S1 fun ds S5 => Q (.ref S5.length) (back S5 ++ [.lst ds]) := q
  obtain ⟨d, hd, q⟩ := q
  have plain : srcVal false d S (fun src S1 back => gather src.ok
      (fun x S2 k => tgSem t x (Ev.wipe env (own.map (·.2))) S2 fun env1 => wpT C xs env1 S2 fun r S3 => (r = true → wpE C ee env1 S3 (fun y S4 => k (some y) S4) noX) ∧ (r = false → k none S3))
      src.items [] S1 fun ds S5 => Q (.ref S5.length) (back S5 ++ [.lst ds])) → liftI G X.K C W (.val (.var i)) σ H fun J H1 => ∀ L, H1 L = none → ∃ W : Nat → Nat → Hp → Prop, (∃ m, W 0 m (upd H1 L (.lst []))) ∧ ∀ i m H, W i m H →
      (J.stop i H ∧ QV (.ref L) H) ∨ (J.go i H ∧ ∃ Nx : Hp → Prop, (∀ H', Nx H' → ∃ m', m' < m ∧ W (i + 1) m' H') ∧ ∀ x H', J.yld i H x H' → gOf X.K t x (L2.wipe σ (own.map (·.2))) H' fun σ2 H2 => L2.wipe σ2 (own.map (·.2)) = L2.wipe σ (own.map (·.2)) ∧ liftTs G X.K C xs σ2 H2 fun b H3 =>
        if b = true then liftE G X.K C noW ee σ2 H3 fun y H4 => ∃ acc, H4 L = some (.lst acc) ∧ acc.length < sizeLine ∧ Nx (upd H4 L (.lst (acc ++ [y]))) else Nx H3) := fun q => by
    refine ⟨as, env, S, _, E, sim, rel, ⟨d, hd, q⟩, fun src S1 as1 H1 J x1 s1 fed q1 => ?_, ie⟩
    refine comp_core (Qd := fun L H' => QV (.ref L) H') fed s1 q1 (fun as' H' S' x v k KS KN x2 s2 r2 hf hks hkn => ?_) fun L as' H' S5 ds ws hL x5 s5 hLn hLd r5 _ q5 => ?_
    · exact comp_turn c.sub s2 (rel.ext (x1.trans x2)) r2 hf hks hkn
    · exact iq _ _ (as' ++ [L]) _ _ (x1.trans (x5.adopt hL)) (s5.adopt (ob := .lst ds) hLn ⟨ws, hLd, r5.wk Wk.adopt⟩) (.ref (s5.last L)) q5
  cases d with
  | tup l => exact .inl (plain q)
  | fz l => exact .inl (plain q)
  | ref n =>
    rcases q with q | ⟨_, kvs, hkv, q⟩
    · exact .inl (plain (.inl q))
    refine .inr ?_
    obtain ⟨v, hv, rv⟩ := rel.at_ i _ hd
    cases rv with
    | @ref _ a ea =>
    obtain ⟨a', ea', ws, he, rk⟩ := sim.at_ n _ hkv
    rw [ea] at ea'
    cases ea'
    refine ⟨a, .dK ws, he, trivial, fun od => ?_⟩
    obtain ⟨w1, s1⟩ := sim.lock hkv ea he rk od
    have ma : a ∈ as := List.mem_of_getElem? ea
    have x1 : Ext as as H (upd H a (.frz od (.dK ws))) := Ext.write ma he (fun _ z => nomatch z) (fun _ _ z => nomatch z)
    refine ⟨.ref a, hv, a, od, rfl, .inl ⟨ws, upd_same, ?_⟩⟩
    refine comp_core (Qd := fun L H' => H' a = some (.frz od (.dK ws)) ∧ QV (.ref L) (upd H' a (.dK ws))) (fed_keys (ok := fun T => T[n]? = some (.fdc kvs)) upd_same (rk.wk w1)) s1 q (fun as' H' S' x v k KS KN x2 s2 r2 hf hks hkn => ?_) fun L as' H' S5 ds ws5 hL x5 s5 hLn hLd r5 ok5 q5 => ?_
    · exact comp_turn c.sub s2 (rel.ext (x1.trans x2)) r2 hf hks hkn
    · have ha' : H' a = some (.frz od (.dK ws)) := x5.frz _ _ _ upd_same
      refine ⟨ha', ?_⟩
      have ea5 : as'[n]? = some a := x5.pre _ _ ea
      have wu : Wk as' as' H' (upd H' a (.dK ws)) := Wk.unlock ha'
      have hLa : L ≠ a := fun z => hLn (by rw [z]; exact List.mem_of_getElem? ea5)
      have su : Sim X.K (upd H' a (.dK ws)) as' (S5.set n (.dct kvs)) := s5.put ok5 ea5 wu ⟨ws, upd_same, ((rk.wk w1).wk x5.wk).wk wu⟩
      have hLd' : (upd H' a (.dK ws)) L = some (.lst ws5) := by rw [upd_ne hLa]; exact hLd
      have hLH : H L = none := by rw [upd_ne hLa] at hL; exact hL
      refine iq _ _ (as' ++ [L]) _ _ ((Ext.unlock ma he x5).adopt hLH) (su.adopt (ob := .lst ds) hLn ⟨ws5, hLd', (r5.wk wu).wk Wk.adopt⟩) (.ref ?_) q5
      exact s5.last L
  | _ => exact q.elim
theorem sy_compV {i : Nat} (c : CompOk X G C N elt tg iter ifs scope own ee t xs) (hi : PE X iter (liftE G X.K C W (.var i))) (hk : PE X iter (tVar i)) :
    PE X (.ListComp elt [⟨tg, iter, ifs, 0⟩] scope pos) (liftE G X.K C W (.comp ee t (.val (.var i)) xs (own.map (·.2)))) := by
  have hN : X.N.Nodup := by rw [c.nn]; exact c.nd
  exact (pe_or2 (pe_lc c.calm hN (si_val hi (tg := tg)) c.ok c.pg c.ifs c.elt c.folded (pos := pos)) (pe_lock (pe_lc c.calm hN (pi_keys hk (tg := tg)) c.ok c.pg c.ifs c.elt c.folded (pos := pos)))).weak (compV_lift c)
end
end Ev
end
section
set_option Elab.async false
set_option linter.all false
set_option maxRecDepth 100000
set_option maxHeartbeats 1000000
/-! Ev's statements. -/
namespace Ev
open PySem PySem.Spec PyProof.Rows L2
/-- what is wanted behind a statement, over the heap -/
structure impK (G : Gi) (K : PySem.W.Frag) (as : List Addr) (H : Hp) (Kk : Kn) (E : Ends) (W : WX) : Prop where
  nx : ∀ env' S' as' σ' H', Ext as as' H H' → Sim K H' as' S' → RelE K H' as' env' σ' → Kk.nx env' S' → E.nx σ' H'
  rt : impQ K as H Kk.rt E.rt
  bk : ∀ env' S' as' σ' H', Ext as as' H H' → Sim K H' as' S' → RelE K H' as' env' σ' → Kk.bk env' S' → E.bk σ' H'
  ct : ∀ env' S' as' σ' H', Ext as as' H H' → Sim K H' as' S' → RelE K H' as' env' σ' → Kk.ct env' S' → E.ct σ' H'
  xc : ∀ σ', impE G K as H σ' Kk.xc W
section
variable {G : Gi} {K : PySem.W.Frag} {as as' : List Addr} {H H' : Hp} {Kk : Kn} {E : Ends} {W : WX}
theorem impK.step (x : Ext as as' H H') (i : impK G K as H Kk E W) : impK G K as' H' Kk E W :=
  ⟨fun env' S' as2 σ' H2 y => i.nx env' S' as2 σ' H2 (x.trans y), i.rt.step x, fun env' S' as2 σ' H2 y => i.bk env' S' as2 σ' H2 (x.trans y), fun env' S' as2 σ' H2 y => i.ct env' S' as2 σ' H2 (x.trans y), fun σ' => (i.xc σ').step x⟩
end
def liftS (G : Gi) (K : PySem.W.Frag) (C : Orc) (sub : Nat → Nat → Bool) (W : WX) (st : Ev.St) : TS := fun E σ H => ∃ as env S Kk, Sim K H as S ∧ RelE K H as env σ ∧ wpS C sub st env S Kk ∧ impK G K as H Kk E W
section
variable {X : Cx} {G : Gi} {C : Orc} {sub : Nat → Nat → Bool} {W : WX} {a b c : Expr} {ea eb ec : Ex} {pos : Pos} {st : Stmt} {rest : List Stmt} {s t : Ev.St}
theorem ss_pass : PS X (.Pass pos) (liftS G X.K C sub W .skip) := ps_pass.weak fun E σ H ⟨as, env, S, Kk, sim, rel, q, ik⟩ => ik.nx _ _ _ _ _ Ext.refl sim rel q
theorem ss_brk : PS X (.Break pos) (liftS G X.K C sub W .brk) := ps_break.weak fun E σ H ⟨as, env, S, Kk, sim, rel, q, ik⟩ => ik.bk _ _ _ _ _ Ext.refl sim rel q
theorem ss_cnt : PS X (.Continue pos) (liftS G X.K C sub W .cnt) := ps_continue.weak fun E σ H ⟨as, env, S, Kk, sim, rel, q, ik⟩ => ik.ct _ _ _ _ _ Ext.refl sim rel q
theorem sl_nil : PSs X [] (liftS G X.K C sub W .skip) := pss_nil.weak fun E σ H ⟨as, env, S, Kk, sim, rel, q, ik⟩ => ik.nx _ _ _ _ _ Ext.refl sim rel q
theorem sl_one (h : PS X st (liftS G X.K C sub W s)) : PSs X [st] (liftS G X.K C sub W s) := pss_one h
theorem sl_cons (h : PS X st (liftS G X.K C sub W s)) (hr : PSs X rest (liftS G X.K C sub W t)) : PSs X (st :: rest) (liftS G X.K C sub W (.seq s t)) :=
  (pss_cons h hr).weak fun E σ H ⟨as, env, S, Kk, sim, rel, q, ik⟩ =>
    ⟨as, env, S, _, sim, rel, q, ⟨fun env' S' as' σ' H' x s' r' q' => ⟨as', env', S', Kk, s', r', q', ik.step x⟩, ik.rt, ik.bk, ik.ct, ik.xc⟩⟩
theorem ss_ret (ha : PE X a (liftE G X.K C W ea)) : PS X (.Return (some a) pos) (liftS G X.K C sub W (.ret ea)) :=
  (ps_ret ha).weak fun E σ H ⟨as, env, S, Kk, sim, rel, q, ik⟩ => ⟨as, env, S, Kk.rt, Kk.xc, sim, rel, q, ik.rt, ik.xc σ⟩
theorem ss_retN : PS X (.Return none pos) (liftS G X.K C sub W .retN) := ps_retN.weak fun E σ H ⟨as, env, S, Kk, sim, rel, q, ik⟩ => ik.rt.now sim .non q
/-- no comprehension -/
def notLc : Expr → Bool
  | .ListComp _ _ _ _ => false
  | .SetComp _ _ _ _ => false
  | .DictComp _ _ _ _ _ => false
  | _ => true
theorem sw_not {e : Expr} {tg : Option Expr} {l : Nat} {env : PySem.Env} (h : notLc e = true) : swapsWith e tg l env = pure false := by
  cases e <;> first | rfl | cases h
theorem sw_sole {e tg : Expr} {l : Nat} {env : PySem.Env} (h : notLc e = true) : swapsWithSole [tg] e l env = pure false := sw_not h
def notTupE : Expr → Bool
  | .Tuple _ _ _ => false
  | _ => true
theorem st_not {e tg : Expr} {env : PySem.Env} (h : notTupE e = true) : swappedStores [tg] e env = pure none := by
  cases tg <;> first | rfl | (cases e <;> first | rfl | cases h)
theorem ss_expr (hn : notLc a = true) (ha : PE X a (liftE G X.K C W ea)) : PS X (.Expr a pos) (liftS G X.K C sub W (.expr ea)) :=
  (ps_expr ha (sw_not hn)).weak fun E σ H ⟨as, env, S, Kk, sim, rel, q, ik⟩ => ⟨as, env, S, _, Kk.xc, sim, rel, q, fun d S' as' v H' x s' r' q' => ik.nx _ _ _ _ _ x s' (rel.ext x) q', ik.xc σ⟩
theorem ss_ite {A B : List Stmt} (hc : PT X c (liftT G X.K C W ec)) (ha : PSs X A (liftS G X.K C sub W s)) (hb : PSs X B (liftS G X.K C sub W t)) : PS X (.If c A B pos) (liftS G X.K C sub W (.ite ec s t)) :=
  (ps_if hc ha hb).weak fun E σ H ⟨as, env, S, Kk, sim, rel, q, ik⟩ =>
    ⟨as, env, S, fun r S1 => (r = true → wpS C sub s env S1 Kk) ∧ (r = false → wpS C sub t env S1 Kk), Kk.xc, sim, rel, q, fun r S1 as1 H1 x1 s1 ⟨q1, q2⟩ => by
      cases r with
      | true => exact ⟨as1, env, S1, Kk, s1, rel.ext x1, q1 rfl, ik.step x1⟩
      | false => exact ⟨as1, env, S1, Kk, s1, rel.ext x1, q2 rfl, ik.step x1⟩, ik.xc σ⟩
/-! ### stores -/
theorem tSet_lift {i : Nat} (E : Ends) (σ : L2.St) (H : Hp) (h : liftS G X.K C sub W (.set i ea) E σ H) : tAsg (liftE G X.K C W ea) (gName i) E σ H := by
  obtain ⟨as, env, S, Kk, sim, rel, q, ik⟩ := h
  exact ⟨as, env, S, _, Kk.xc, sim, rel, q, fun d S' as' v H' x s' r' q' => ik.nx _ _ _ _ _ x s' ((rel.ext x).set r') q', ik.xc σ⟩
theorem ss_set {N : List Str} {sc : Scope} {i : Nat} {x : Str} {pos' : Pos} (hX : X.N = N) (hN : N.Nodup) (hs : LocAt X sc) (h1 : N[i]? = some x) (h2 : sc.names.lookup x = some .local ∨ sc.names.lookup x = some .cell) (ha : PE X a (liftE G X.K C W ea))
    (hw : swapsWith a (some (.Name x pos')) pos.line X.env = pure false) : PS X (.Assign [.Name x pos'] a pos) (liftS G X.K C sub W (.set i ea)) := by
  subst hX
  obtain ⟨h3, h4⟩ := hs x h2
  exact (ps_set hN h1 h3 ha hw h4).weak tSet_lift
/-- the statement y = [..] stores within the comprehension -/
def swB (sc : Scope) (x : Str) (px : Pos) : Expr → Bool
  | .ListComp _ _ scope pos => (decide (sc.names.lookup x = some .local) && (px.line == pos.line)) && !(scope.names.any fun (n, k) => n == x && (k == .local || k == .cell))
  | _ => false
theorem sw_list {elt : Expr} {gs : List Comprehension} {scope sc : Scope} {p px : Pos} {x : Str} {l : Nat} {env : PySem.Env} (hk : env.scope = sc) (hf : sc.kind = .function) : swapsWith (.ListComp elt gs scope p) (some (.Name x px)) l env = pure (swB sc x px (.ListComp elt gs scope p)) := by
  subst hk
  have hb : env.blockKind = .function := by unfold Env.blockKind; rw [hf]; rfl
  unfold swapsWith swB
  simp only [hb]
  show pure _ = pure _
  congr 1
  have e : (env.kindOf x == some .local) = decide (env.scope.names.lookup x = some .local) := by
    unfold PySem.Env.kindOf
    cases env.scope.names.lookup x with
    | none => rfl
    | some k => cases k <;> rfl
  rw [e]
  rfl
theorem ss_setLc {N : List Str} {i : Nat} {y : Str} {py : Pos} {elt tg iter : Expr} {ifs : List Expr} {scope : Scope} {own : List (Str × Nat)} {ee : Ex} {tt : Tg} {xs : Exs} {it : Itx} {spos : Pos} (c : CompOk X G C N elt tg iter ifs scope own ee tt xs) (hi : PI X tg iter (liftI G X.K C W it)) (hv : itVar it = false)
    (h1 : N[i]? = some y) (h2 : X.env.scope.names.lookup y = some .local) (hw : swapsWith (.ListComp elt [⟨tg, iter, ifs, 0⟩] scope pos) (some (.Name y py)) spos.line X.env = pure true) :
    PS X (.Assign [.Name y py] (.ListComp elt [⟨tg, iter, ifs, 0⟩] scope pos) spos) (liftS G X.K C sub W (.set i (.comp ee tt it xs (own.map (·.2))))) := by
  refine (ps_setLc c.calm (by rw [c.nn]; exact c.nd) (by rw [c.nn]; exact h1) h2 hw hi c.ok c.pg c.ifs c.elt c.folded).weak fun E σ H h => ?_
  obtain ⟨as, env, S, Kk, sim, rel, q, ik⟩ := h
  exact tLc_lift c hv _ _ _ ⟨as, env, S, _, Kk.xc, sim, rel, q, fun d S' as' v H' x s' r' q' => ik.nx _ _ _ _ _ x s' ((rel.ext x).set r') q', ik.xc σ⟩
def sOr (t u : TS) : TS := fun E σ H => t E σ H ∨ u E σ H
theorem ps_or2 {st : Stmt} {t u : TS} (h1 : PS X st t) (h2 : PS X st u) : PS X st (sOr t u) := ⟨fun pins s σ H D I q => q.elim (h1.run pins s σ H D I) (h2.run pins s σ H D I)⟩
theorem ss_setLcV {N : List Str} {i j : Nat} {y : Str} {py : Pos} {elt tg iter : Expr} {ifs : List Expr} {scope : Scope} {own : List (Str × Nat)} {ee : Ex} {tt : Tg} {xs : Exs} {spos : Pos} (c : CompOk X G C N elt tg iter ifs scope own ee tt xs) (hi : PE X iter (liftE G X.K C W (.var j))) (hk : PE X iter (tVar j))
    (h1 : N[i]? = some y) (h2 : X.env.scope.names.lookup y = some .local) (hw : swapsWith (.ListComp elt [⟨tg, iter, ifs, 0⟩] scope pos) (some (.Name y py)) spos.line X.env = pure true) :
    PS X (.Assign [.Name y py] (.ListComp elt [⟨tg, iter, ifs, 0⟩] scope pos) spos) (liftS G X.K C sub W (.set i (.comp ee tt (.val (.var j)) xs (own.map (·.2))))) := by
  have hN : X.N.Nodup := by rw [c.nn]; exact c.nd
  have h1' : X.N[i]? = some y := by rw [c.nn]; exact h1
  refine (ps_or2 (ps_setLc c.calm hN h1' h2 hw (si_val hi (tg := tg)) c.ok c.pg c.ifs c.elt c.folded) (ps_lock (ps_setLc c.calm hN h1' h2 hw (pi_keys hk (tg := tg)) c.ok c.pg c.ifs c.elt c.folded))).weak fun E σ H h => ?_
  obtain ⟨as, env, S, Kk, sim, rel, q, ik⟩ := h
  exact compV_lift c σ H (fun v H' => E.nx (σ.set i (some v)) H') ⟨as, env, S, _, Kk.xc, sim, rel, q, fun d S' as' v H' x s' r' q' => ik.nx _ _ _ _ _ x s' ((rel.ext x).set r') q', ik.xc σ⟩
/-! ### several targets -/
theorem ss_tset {N : List Str} {sc : Scope} {l : List Nat} {es : List Expr} {k : Nat} {pt : Pos} (hc : X.calm = true) (hX : X.N = N) (hN : N.Nodup) (hs : LocAt X sc) (hl : nmsOk N sc es l = true) (hn : notLc a = true) (ht : notTupE a = true) (ha : PE X a (liftE G X.K C W ea)) :
    PS X (.Assign [.Tuple es k pt] a pos) (liftS G X.K C sub W (.tset l ea)) := by
  refine (ps_asg ha (tg_pg (t := .tp l) (tg := .Tuple es k pt) hc hX hN hs hl) (sw_sole hn) (st_not ht) rfl).weak fun E σ H ⟨as, env, S, Kk, sim, rel, q, ik⟩ => ?_
  refine ⟨as, env, S, _, Kk.xc, sim, rel, q, fun d S' as' v H' x s' r' q' => ?_, ik.xc σ⟩
  exact tg_ok (t := .tp l) (k := fun e => Kk.nx e S') s' (rel.ext x) r' q' fun env' vs rel' h => ik.nx _ _ _ _ _ x s' rel' h
theorem ss_tsetC {N : List Str} {sc : Scope} {l : List Nat} {es : List Expr} {k : Nat} {pt p : Pos} {elt : Expr} {gs : List Comprehension} {scope : Scope} (hc : X.calm = true) (hX : X.N = N) (hN : N.Nodup) (hs : LocAt X sc) (hl : nmsOk N sc es l = true) (ha : PE X (.ListComp elt gs scope p) (liftE G X.K C W ea)) :
    PS X (.Assign [.Tuple es k pt] (.ListComp elt gs scope p) pos) (liftS G X.K C sub W (.tset l ea)) := by
  refine (ps_asg ha (tg_pg (t := .tp l) (tg := .Tuple es k pt) hc hX hN hs hl) rfl (st_not rfl) rfl).weak fun E σ H ⟨as, env, S, Kk, sim, rel, q, ik⟩ => ?_
  refine ⟨as, env, S, _, Kk.xc, sim, rel, q, fun d S' as' v H' x s' r' q' => ?_, ik.xc σ⟩
  exact tg_ok (t := .tp l) (k := fun e => Kk.nx e S') s' (rel.ext x) r' q' fun env' vs rel' h => ik.nx _ _ _ _ _ x s' rel' h
/-- o[i] = e -/
theorem ss_iset (hu : X.A.units + 1 < cLine) (hsl : notSlice c = true) (hn : notLc a = true) (ht : notTupE a = true) {p2 : Pos} (ha : PE X a (liftE G X.K C W ea)) (hb : PE X b (liftE G X.K C W eb)) (hcx : PE X c (liftE G X.K C W ec)) :
    PS X (.Assign [.Subscript b c p2] a pos) (liftS G X.K C sub W (.iset eb ec ea)) := by
  have hass : ∀ v, assign (.Subscript b c p2) X.env v = (do
      let ov ← holding [v] (eval b X.env)
      let iv ← holding [v, ov] (eval c X.env)
      standAt p2
      holding [v, ov, iv] (setItem ov iv v)
      release [v, ov, iv] []) := by
    intro v
    cases c <;> first | rfl | cases hsl
  refine (ps_asg ha (pg_sub hb hcx (set_ok hu) hass) (sw_sole hn) (st_not ht) rfl).weak fun E σ H ⟨as, env, S, Kk, sim, rel, q, ik⟩ => ?_
  refine ⟨as, env, S, _, Kk.xc, sim, rel, q, fun d S1 as1 v H1 x1 s1 r1 q1 => ?_, ik.xc σ⟩
  exact ⟨as1, env, S1, _, Kk.xc, s1, rel.ext x1, q1, fun o S2 as2 vo H2 x2 s2 r2 q2 =>
    ⟨as2, env, S2, _, Kk.xc, s2, rel.ext (x1.trans x2), q2, fun i S3 as3 vi H3 x3 s3 r3 q3 => ⟨as3, S3, o, i, d, _, s3, r2.ext x3, r3, (r1.ext x2).ext x3, q3, fun S' H' x4 s4 q4 => ik.nx _ _ _ _ _ (((x1.trans x2).trans x3).trans x4) s4 (rel.ext (((x1.trans x2).trans x3).trans x4)) q4⟩, (ik.xc σ).step (x1.trans x2)⟩, (ik.xc σ).step x1⟩
/-! ### for -/
theorem loop_core {K : PySem.W.Frag} {as : List Addr} {H1 : Hp} {S1 : Sto} {env : Env} {σ1 : L2.St} {src : Src} {J : It} {t : Tg} {Kk : Kn} {E : Ends} (fed : Fed K as H1 src J) (sim : Sim K H1 as S1) (rel : RelE K H1 as env σ1) (hw : walk src.ok (tgSem t) (wpS C sub s) src.items env S1 Kk) (ik : impK G K as H1 Kk E W) :
    ∃ Wv : Nat → Nat → L2.St → Hp → Prop, (∃ m, Wv 0 m σ1 H1) ∧ ∀ i m σ H, Wv i m σ H → (J.stop i H ∧ E.nx σ H) ∨ (J.go i H ∧ ∃ Nw : L2.St → Hp → Prop, (∀ σ' H', Nw σ' H' → ∃ m', m' < m ∧ Wv (i + 1) m' σ' H') ∧
      ∀ x H', J.yld i H x H' → gOf K t x σ H' fun σ2 H2 => liftS G K C sub W s { E with nx := Nw, ct := Nw, bk := E.nx } σ2 H2) := by
  let P : Nat → L2.St → Hp → Prop := fun i σ H => ∃ (as' : List Addr) (env' : Env) (S' : Sto), Ext as as' H1 H ∧ Sim K H as' S' ∧ RelE K H as' env' σ ∧ walk src.ok (tgSem t) (wpS C sub s) (src.items.drop i) env' S' Kk
  have wok : ∀ {xs env S}, walk src.ok (tgSem t) (wpS C sub s) xs env S Kk → src.ok S := fun {xs env S} h => by
    cases xs with
    | nil => exact h.1
    | cons x xs => exact h.1
  refine ⟨fun i m σ H => m = src.items.length - i ∧ i ≤ src.items.length ∧ P i σ H, ⟨_, rfl, Nat.zero_le _, as, env, S1, Ext.refl, sim, rel, hw⟩, ?_⟩
  rintro i m σ H ⟨rfl, hi, as', env', S', x1, s1, rel1, hwk⟩
  have ok := wok hwk
  by_cases hlt : i < src.items.length
  · refine .inr ⟨fed.go i as' H S' x1 s1 ok hlt, P (i + 1), fun σ' H' p => ⟨_, by omega, rfl, hlt, p⟩, fun v H' y => ?_⟩
    obtain ⟨d, hd1, x2, s2, r2⟩ := fed.yld i as' H S' v H' x1 s1 ok hlt y
    have hcons : src.items.drop i = d :: src.items.drop (i + 1) := by
      rw [List.getElem?_eq_getElem hlt] at hd1
      rw [List.drop_eq_getElem_cons hlt]
      cases hd1
      rfl
    rw [hcons] at hwk
    obtain ⟨_, hf⟩ := hwk
    refine tg_ok s2 (rel1.ext x2) r2 hf fun env2 vs rel2 hb => ⟨as', env2, S', _, s2, rel2, hb, ?_⟩
    have ik2 := ik.step (x1.trans x2)
    exact ⟨fun env3 S3 as3 σ3 H3 x3 s3 r3 q3 => ⟨as3, env3, S3, (x1.trans x2).trans x3, s3, r3, q3⟩, ik2.rt, fun env3 S3 as3 σ3 H3 x3 s3 r3 q3 => ik2.nx _ _ _ _ _ x3 s3 r3 q3, fun env3 S3 as3 σ3 H3 x3 s3 r3 q3 => ⟨as3, env3, S3, (x1.trans x2).trans x3, s3, r3, q3⟩, ik2.xc⟩
  · have e : i = src.items.length := by omega
    subst e
    rw [List.drop_length] at hwk
    exact .inl ⟨fed.stop as' H S' x1 s1 ok, ik.nx _ _ _ _ _ x1 s1 rel1 hwk.2⟩
theorem ss_for {N : List Str} {sc : Scope} {tg iter : Expr} {body : List Stmt} {t : Tg} {it : Itx} (hp : PassesOwn (model X.prog X.w) X.A X.env X.xe) (hc : X.calm = true) (hX : X.N = N) (hN : N.Nodup) (hs : LocAt X sc) (htg : tgOk N sc tg t = true) (hi : PI X tg iter (liftI G X.K C W it))
    (hf : ∀ x, foldedSetIterable iter X.env x = pure x) (hb : PSs X body (liftS G X.K C sub W s)) : PS X (.For tg iter body [] pos) (liftS G X.K C sub W (.loop t it s)) := by
  refine (ps_for hp hc hi (tg_pg hc hX hN hs htg) hb hf).weak fun E σ H ⟨as, env, S, Kk, sim, rel, q, ik⟩ => ?_
  exact ⟨as, env, S, _, Kk.xc, sim, rel, q, fun src S1 as1 H1 J x1 s1 fed q1 => loop_core fed s1 (rel.ext x1) q1 (ik.step x1), ik.xc σ⟩
end
end Ev
end
section
set_option Elab.async false
set_option linter.all false
set_option maxRecDepth 100000
set_option maxHeartbeats 1000000
/-! Ev's statements, further: a, b = x, y. -/
namespace Ev
open PySem PySem.Spec PyProof.Rows L2
def isStar : Expr → Bool
  | .Starred _ _ => true
  | _ => false
def locName (sc : Scope) (line : Nat) : Expr → Option Str
  | .Name id pos => if sc.names.lookup id == some .local && pos.line == line then some id else none
  | _ => none
/-- in which order a, b = x, y stores: the names where the stores are swapped -/
def swP (sc : Scope) (ts vs : List Expr) : Option (Option (List Str)) :=
  if (!(ts.length == 2 || ts.length == 3) || vs.length != ts.length) = true then some none
  else if vs.any isStar = true then some none
  else if ((ts.filterMap (locName sc ((ts.head?.map (·.pos.line)).getD 0))).length != ts.length || (ts.filterMap (locName sc ((ts.head?.map (·.pos.line)).getD 0))).eraseDups.length != (ts.filterMap (locName sc ((ts.head?.map (·.pos.line)).getD 0))).length) = true then some none
  else if vs.all (foldedForSure 8) = true then some none
  else if vs.all (constantsAlone 8) = true then none
  else some (some (ts.filterMap (locName sc ((ts.head?.map (·.pos.line)).getD 0))))
theorem swP_ok {sc : Scope} {ts vs : List Expr} {r : Option (List Str)} {env : PySem.Env} {k k' : Nat} {p p' : Pos} (h : swP sc ts vs = some r) (hs : env.scope = sc) (hf : sc.kind = .function) : swappedStores [.Tuple ts k p] (.Tuple vs k' p') env = pure r := by
  subst hs
  have hb : env.blockKind = .function := by unfold PySem.Env.blockKind; rw [hf]; rfl
  have g : swappedStores [.Tuple ts k p] (.Tuple vs k' p') env = (if ((!(ts.length == 2 || ts.length == 3) || vs.length != ts.length) || env.blockKind != .function) = true then pure none else
      if vs.any isStar = true then pure none else if ((ts.filterMap (locName env.scope ((ts.head?.map (·.pos.line)).getD 0))).length != ts.length || (ts.filterMap (locName env.scope ((ts.head?.map (·.pos.line)).getD 0))).eraseDups.length != (ts.filterMap (locName env.scope ((ts.head?.map (·.pos.line)).getD 0))).length) = true then pure none else
        if vs.all (foldedForSure 8) = true then pure none else if vs.all (constantsAlone 8) = true then (do unsupported "assign.tuple-of-constant-expressions:order-of-the-stores"; pure (some (ts.filterMap (locName env.scope ((ts.head?.map (·.pos.line)).getD 0))))) else pure (some (ts.filterMap (locName env.scope ((ts.head?.map (·.pos.line)).getD 0))))) := rfl
  rw [g, hb]
  unfold swP at h
  split at h
  · rename_i h1
    cases h
    rw [if_pos (by rw [Bool.or_eq_true]; exact .inl h1)]
  rename_i h1
  rw [if_neg (by rw [Bool.or_eq_true]; rintro (z | z); exact h1 z; exact absurd z (by decide))]
  split at h
  · rename_i h2
    cases h
    rw [if_pos h2]
  rename_i h2
  rw [if_neg h2]
  split at h
  · rename_i h3
    cases h
    rw [if_pos h3]
  rename_i h3
  rw [if_neg h3]
  split at h
  · rename_i h4
    cases h
    rw [if_pos h4]
  rename_i h4
  rw [if_neg h4]
  split at h
  · cases h
  rename_i h5
  cases h
  rw [if_neg h5]
section
variable {X : Cx} {G : Gi} {C : Orc} {sub : Nat → Nat → Bool} {W : WX} {a b c : Expr} {ea eb ec : Ex} {pos : Pos}
theorem ss_par2 {N : List Str} {i j : Nat} {x y : Str} {px py pt pt2 : Pos} {kt k2 : Nat} {xs : Exs} (hc : X.calm = true) (hX : X.N = N) (hN : N.Nodup) (hf : X.env.scope.kind = .function) (hi : N[i]? = some x) (hj : N[j]? = some y) (hij : i ≠ j) (hx : X.env.scope.names.lookup x = some .local) (hy : X.env.scope.names.lookup y = some .local)
    (hw : swP X.env.scope [.Name x px, .Name y py] [a, b] = some (some [x, y])) (ha : PA X [a, b] (liftEs G X.K C W xs)) :
    PS X (.Assign [.Tuple [.Name x px, .Name y py] kt pt] (.Tuple [a, b] k2 pt2) pos) (liftS G X.K C sub W (.par [i, j] xs)) := by
  subst hX
  refine (ps_par hc hN hi hj hij hx hy ha (swP_ok hw rfl hf)).weak fun E σ H ⟨as, env, S, Kk, sim, rel, q, ik⟩ => ?_
  refine ⟨as, env, S, _, Kk.xc, sim, rel, q, fun ds S1 as1 vs H1 x1 s1 r1 ⟨hl, q1⟩ => ?_, ik.xc σ⟩
  match ds, vs, r1, hl, q1 with
  | [_, _], [v, w], r1, _, q1 => exact ⟨v, w, rfl, ik.nx _ _ _ (putV σ [i, j] [v, w]) _ x1 s1 ((rel.ext x1).putAll r1) q1⟩
theorem ss_par3 {N : List Str} {i j l : Nat} {x y z : Str} {px py pz pt pt2 : Pos} {kt k2 : Nat} {xs : Exs} (hc : X.calm = true) (hX : X.N = N) (hN : N.Nodup) (hf : X.env.scope.kind = .function) (hi : N[i]? = some x) (hj : N[j]? = some y) (hl : N[l]? = some z) (hij : i ≠ j) (hil : i ≠ l) (hjl : j ≠ l)
    (hx : X.env.scope.names.lookup x = some .local) (hy : X.env.scope.names.lookup y = some .local) (hz : X.env.scope.names.lookup z = some .local)
    (hw : swP X.env.scope [.Name x px, .Name y py, .Name z pz] [a, b, c] = some (some [x, y, z])) (ha : PA X [a, b, c] (liftEs G X.K C W xs)) :
    PS X (.Assign [.Tuple [.Name x px, .Name y py, .Name z pz] kt pt] (.Tuple [a, b, c] k2 pt2) pos) (liftS G X.K C sub W (.par [i, j, l] xs)) := by
  subst hX
  refine (ps_par3 hc hN hi hj hl hij hil hjl hx hy hz ha (swP_ok hw rfl hf)).weak fun E σ H ⟨as, env, S, Kk, sim, rel, q, ik⟩ => ?_
  refine ⟨as, env, S, _, Kk.xc, sim, rel, q, fun ds S1 as1 vs H1 x1 s1 r1 ⟨hl, q1⟩ => ?_, ik.xc σ⟩
  match ds, vs, r1, hl, q1 with
  | [_, _, _], [u, v, w], r1, _, q1 => exact ⟨u, v, w, rfl, ik.nx _ _ _ (putV σ [i, j, l] [u, v, w]) _ x1 s1 ((rel.ext x1).putAll r1) q1⟩
theorem ss_parN {N : List Str} {sc : Scope} {l : List Nat} {ts vs : List Expr} {k k2 : Nat} {pt pt2 : Pos} {xs : Exs} (hc : X.calm = true) (hX : X.N = N) (hN : N.Nodup) (hs : LocAt X sc) (hf : X.env.scope.kind = .function) (hl : nmsOk N sc ts l = true) (hlen : l.length ≤ 1000)
    (hw : swP X.env.scope ts vs = some none) (ha : PA X vs (liftEs G X.K C W xs)) : PS X (.Assign [.Tuple ts k pt] (.Tuple vs k2 pt2) pos) (liftS G X.K C sub W (.par l xs)) := by
  refine (ps_asg (pe_tup ha) (tg_pg (t := .tp l) (tg := .Tuple ts k pt) hc hX hN hs hl) (sw_sole rfl) (swP_ok hw rfl hf) rfl).weak fun E σ H ⟨as, env, S, Kk, sim, rel, q, ik⟩ => ?_
  have q : wpEs C xs env S (fun ds S1 => ds.length = l.length ∧ Kk.nx (putAll env l ds) S1) Kk.xc := q
  have h : liftEs G X.K C W xs σ H fun ws H1 => ws.length ≤ sizeLine ∧ ∀ p, H1 p = none → gOf X.K (.tp l) (.ref p) σ (upd H1 p (.tup ws)) E.nx := by
    refine ⟨as, env, S, _, Kk.xc, sim, rel, q, fun ds S1 as1 ws H1 x1 s1 r1 ⟨hd, q1⟩ => ⟨by rw [← r1.length, sizeLine_eq]; omega, fun p hp => ?_⟩, ik.xc σ⟩
    have x2 : Ext as1 as1 H1 (upd H1 p (.tup ws)) := Ext.laid hp
    exact ⟨p, ws, rfl, .inl (SqT.of upd_same), by rw [← r1.length, hd], ik.nx _ _ _ _ _ (x1.trans x2) (s1.laid hp) ((rel.ext (x1.trans x2)).putAll (r1.ext x2)) q1⟩
  exact h
end
end Ev
end
section
set_option Elab.async false
set_option linter.all false
set_option maxRecDepth 100000
set_option maxHeartbeats 1000000
/-! Ev's exceptions. -/
namespace Ev
open PySem PySem.Spec PyProof.Rows L2
/-! ### several except clauses, each with a name or without -/
/-- a clause: its class, the slot of its name, what its suite does -/
structure Cl where
  cls : Value
  slot : Option Nat
  ts : Addr → Value → Option Addr → TS
/-- what a suite's end is, its name's slot left -/
def Cl.ends (c : Cl) (D : Ends) : Ends := match c.slot with
  | none => D
  | some i => { nx := fun σ H => D.nx (σ.set i none) H, rt := D.rt, bk := fun σ H => D.bk (σ.set i none) H, ct := fun σ H => D.ct (σ.set i none) H }
def Cl.into (c : Cl) (a : Addr) (σ : L2.St) : L2.St := match c.slot with
  | none => σ
  | some i => σ.set i (some (.ref a))
def wCls (K : PySem.W.Frag) (n : Nat) (Wo : WX) (D : Ends) : List Cl → WX
  | [] => Wo
  | c :: r => fun cls d σ H => ∃ b, PySem.W.exmOne K cls c.cls = some b ∧ (b = true → σ.length = n → ∀ a, H a = none → c.ts a cls d (c.ends D) (c.into a σ) H) ∧ (b = false → wCls K n Wo D r cls d σ H)
inductive ClsOk (X : Cx) : List ExceptHandler → List Cl → Prop
  | nil : ClsOk X [] []
  | cons {x : Str} {c : Cl} {nm : Option Str} {b₀ : Stmt} {bs : List Stmt} {p1 p2 : Pos} {hs : List ExceptHandler} {l : List Cl} (hx : Names X x c.cls)
      (hn : match c.slot, nm with
        | none, none => True
        | some i, some n => X.N[i]? = some n ∧ X.env.kindOf n = some .local
        | _, _ => False)
      (hb : ∀ (a : Addr) (oe : Obj) (cls : Value) (d : Option Addr) (pn : List (Addr × Obj)), Zc cls d oe → (∃ vs, oe.data = .fields vs) → PSs (X.suite a ((a, oe) :: pn)) (b₀ :: bs) (c.ts a cls d)) (r : ClsOk X hs l) :
      ClsOk X (.ExceptHandler (some (.Name x p1)) nm (b₀ :: bs) p2 :: hs) (c :: l)
section
variable {X : Cx} {body : List Stmt} {h₀ : ExceptHandler} {hds : List ExceptHandler} {l : List Cl} {pos : Pos} {tb : WX → TS} {Wo : WX}
theorem ps_try_cls (hs : X.stack = X.env :: X.outer) (hf : X.env.frame = some X.env.locals) (hN : X.N.Nodup) (tk : Takes X Wo)
    (hb : ∀ (W : WX) (pn : List (Addr × Obj)) (xe : Value → Shared → Prop), Takes (X.tr pn xe) W → PassesOwn (model X.prog X.w) X.A X.env xe → PSs (X.tr pn xe) body (tb W))
    (hh : ClsOk X (h₀ :: hds) l) : PS X (.Try body (h₀ :: hds) [] [] pos) (fun D σ H => tb (wCls X.K X.N.length Wo D l) D σ H) := by
  refine ⟨fun pins s σ H D I hw => ?_⟩
  have okX := I.ok
  have frX : X.A.frames = some (X.env :: X.outer) := by rw [okX.frames, hs]
  have body_run := (hb (wCls X.K X.N.length Wo D l) (X.pn ++ pins) (fun ev sa => wpAny (model X.prog X.w) X.A (noteFrame ev X.env) (fun _ sb => wpAny (model X.prog X.w) X.A (setFlight ev none)
    (fun _ sc => wpAny (model X.prog X.w) X.A (handleBy ev X.env (h₀ :: hds)) (SP X pins D) X.xe sc) X.xe sb) X.xe sa) (fun uv st hxe => ?_) PassesOwn.looking).run [] s σ H D (I.toTry _) hw
  · refine wpAny_Try_except (wpAny_mono body_run (fun fl sz hend => ?_) fun _ _ z => z)
    cases fl with
    | next => obtain ⟨σz, Hz, Jz, qz⟩ := hend; exact wpAny_execs_nil ⟨σz, Hz, Jz.ofTry okX, qz⟩
    | brk => obtain ⟨σz, Hz, Jz, qz⟩ := hend; exact ⟨σz, Hz, Jz.ofTry okX, qz⟩
    | cont => obtain ⟨σz, Hz, Jz, qz⟩ := hend; exact ⟨σz, Hz, Jz.ofTry okX, qz⟩
    | ret uz => obtain ⟨vz, σz, Hz, Jz, rz, qz⟩ := hend; exact ⟨vz, σz, Hz, Jz.ofTry okX, rz, qz⟩
  · obtain ⟨ae, Bg, sI, pinsE, σe, He, cls, de, rfl, JE, nbg, upg, skyE, nae, ose, bare, wE⟩ := hxe
    have J0 : Inv X pins σe He sI := JE.ofTry okX
    have lenE : σe.length = X.N.length := J0.len
    have sky0 : Sky Bg (X.env :: X.outer) ae (Zc cls de) X.env.locals st.heap := by rw [← hs]; exact skyE
    show wpAny (model X.prog X.w) X.A (noteFrame (.ref ae) X.env) _ _ _
    refine Sky.land Zc.steady frX hf sky0 fun hp fly up1 => ?_
    have J1 : Inv X pins σe He { st with heap := hp } := J0.landed nbg fly.1 (upg.trans up1) ose bare
    obtain ⟨oe1, vs1, ae1, z1, d1⟩ := fly.there
    have nfr : ae ∉ frs (X.env :: X.outer) := fun hm => by
      obtain ⟨_, o2, e2, nf2⟩ := fly.2.2.1.mem hm
      rw [ae1] at e2
      cases e2
      exact nf2 _ d1
    have nL : ae ≠ X.env.locals := fun z => nfr (List.mem_filterMap.mpr ⟨X.env, List.mem_cons_self, by rw [hf, z]⟩)
    have nF : ae ∉ X.fs := fun hm => by
      obtain ⟨en, hen, qn⟩ := List.mem_filterMap.mp hm
      exact nfr (List.mem_filterMap.mpr ⟨en, List.mem_cons_of_mem _ hen, qn⟩)
    have S1 := J1.suite ae1 d1 nae nL nF
    have LT : PySem.W.Looks (model X.prog X.w) hp (typeOf (.ref ae)) cls := fun A Q E sx kx qx => wpAny_typeOf_ref (kx _ _ ae1) (by rw [z1.1]; exact qx)
    have go : ∀ {hs' : List ExceptHandler} {l' : List Cl}, ClsOk X hs' l' → wCls X.K X.N.length Wo D l' cls de σe He → wpAny (model X.prog X.w) X.A (handleBy (.ref ae) X.env hs') (SP X pins D) X.xe { st with heap := hp } := by
      intro hs' l' hk
      induction hk with
      | nil =>
        intro wz
        refine wpAny_handleBy_nil ?_
        obtain ⟨_, _, _, oe, vs, T, oT, ts', he, hz, hd, h1, hr⟩ := id fly
        unfold PySem.passOn
        refine wpAny_bind (wpAny_field he hd h1 ?_)
        rw [if_neg (show ¬ ((Value.ref T == Value.none) = true) from by simp)]
        have last : wpAny (model X.prog X.w) X.A (setFlight (.ref ae) X.env.frame) (fun _ sz => wpAny (model X.prog X.w) X.A (throw (.ref ae) : Sem Flow) (SP X pins D) X.xe sz) X.xe { st with heap := hp } := by
          rw [hf]
          refine HandSPX.setFlight_upZ fly fun h4 hh4 up4 => wpAny_throw (tk _ _ ?_)
          exact ⟨ae, Bg, sI, pins, σe, He, cls, de, rfl, J0, nbg, (upg.trans up1).trans up4, .inr (.inr (by rw [hs]; exact hh4)), nae, ose, bare, wz⟩
        first
          | exact wpAny_bind (wpAny_pure (wpAny_bind last))
          | exact wpAny_bind last
      | @cons x c nm b₀ bs p1 p2 hs2 l2 hx hn hsu r ih =>
        intro wz
        obtain ⟨b, hb1, hyes, hno⟩ := wz
        refine wpAny_handleBy_cons (codeAny_handlers_test ?_) (by intro z; cases z)
        have LM := PySem.W.exm_one (M := model X.prog X.w) (J1.kIn) LT hb1
        have named : ∀ {Qn : Value → Shared → Prop} {En : Value → Shared → Prop}, Qn c.cls { st with heap := hp } → wpAny (model X.prog X.w) (X.A.mark (some (.ref ae))) (eval (.Name x p1) X.env) Qn En { st with heap := hp } := fun {Qn En} q => by
          obtain ⟨hg, hdbg, hm | ⟨hm, hv, hnn⟩⟩ := hx
          · exact ld_glob (X := X.suite ae ((ae, oe1) :: (X.pn ++ pins))) S1 hg hm q hdbg
          · exact ld_blt (X := X.suite ae ((ae, oe1) :: (X.pn ++ pins))) S1 hg hm hv q hnn hdbg
        refine named (LM.here ?_)
        cases b with
        | false => exact ih (hno rfl)
        | true =>
          have wy := hyes rfl lenE ae nae
          have fin : ∀ {h4 : Heap}, HandSPX.FlyingZ Bg (X.env :: X.outer) ae (Zc cls de) h4 → hp.UpToSlots h4 → ∃ oe4, Inv (X.suite ae ((ae, oe4) :: (X.pn ++ pins))) [] σe He { st with heap := h4 } ∧ Zc cls de oe4 ∧ ∃ vs4, oe4.data = .fields vs4 := fun {h4} fl4 up4 => by
            have J4 : Inv X pins σe He { st with heap := h4 } := J0.landed nbg fl4.1 ((upg.trans up1).trans up4) ose bare
            obtain ⟨oe4, vs4, he4, hz4, hd4⟩ := fl4.there
            exact ⟨oe4, J4.suite he4 hd4 nae nL nF, hz4, vs4, hd4⟩
          match hsl : c.slot, nm, hn with
          | none, none, _ =>
            refine codeAny_handlers_suite ?_
            refine HandSPX.lands_againZ fly fun h4 fl4 up4 => ?_
            obtain ⟨oe4, S4, hz4, hd4⟩ := fin fl4 up4
            have wy : c.ts ae cls de D σe He := by
              unfold Cl.ends Cl.into at wy
              rw [hsl] at wy
              exact wy
            refine wpAny_mono ((hsu ae oe4 cls de (X.pn ++ pins) hz4 hd4).run [] _ _ He _ S4 wy) (fun fl s6 hsp => ?_) (fun _ _ z => z.elim)
            cases fl with
            | next => obtain ⟨σ6, H6, S6, q6⟩ := hsp; exact ⟨_, _, S6.unsuite okX, q6⟩
            | brk => obtain ⟨σ6, H6, S6, q6⟩ := hsp; exact ⟨_, _, S6.unsuite okX, q6⟩
            | cont => obtain ⟨σ6, H6, S6, q6⟩ := hsp; exact ⟨_, _, S6.unsuite okX, q6⟩
            | ret u => obtain ⟨v6, σ6, H6, S6, r6, q6⟩ := hsp; exact ⟨_, _, _, S6.unsuite okX, r6, q6⟩
          | some i, some n, ⟨hi, hln⟩ =>
            refine codeAny_handlers_suite_as ?_
            refine HandSPX.lands_againZ fly fun h4 fl4 up4 => ?_
            obtain ⟨oe4, S4, hz4, hd4⟩ := fin fl4 up4
            have wy : c.ts ae cls de { nx := fun σ H => D.nx (σ.set i none) H, rt := D.rt, bk := fun σ H => D.bk (σ.set i none) H, ct := fun σ H => D.ct (σ.set i none) H } (σe.set i (some (.ref ae))) He := by
              unfold Cl.ends Cl.into at wy
              rw [hsl] at wy
              exact wy
            refine store_ok (X := X.suite ae ((ae, oe4) :: (X.pn ++ pins))) (v := .ref ae) S4 hN hi (.inl hln) rfl (fun s5 S5 => ?_) (.inr hln)
            refine wpAny_mono ((hsu ae oe4 cls de (X.pn ++ pins) hz4 hd4).run [] s5 _ He _ S5 wy) (fun fl s6 hsp => ?_) (fun _ _ z => z.elim)
            have left : ∀ {σ6 : L2.St} {H6 : Hp} {Qe : Shared → Prop}, Inv (X.suite ae ((ae, oe4) :: (X.pn ++ pins))) [] σ6 H6 s6 → (∀ s7, Inv X pins (σ6.set i none) H6 s7 → Qe s7) →
                wpAny (model X.prog X.w) X.A (do bindName X.env n .none; unbindBehindTheSuite X.env n p2) (fun _ s7 => Qe s7) X.xe s6 := fun {σ6 H6 Qe} S6 hq => gone_ok (S6.unsuite okX) hN hi hln hq
            cases fl with
            | next => obtain ⟨σ6, H6, S6, q6⟩ := hsp; exact left S6 fun s7 J7 => ⟨_, _, J7, q6⟩
            | brk => obtain ⟨σ6, H6, S6, q6⟩ := hsp; exact left S6 fun s7 J7 => ⟨_, _, J7, q6⟩
            | cont => obtain ⟨σ6, H6, S6, q6⟩ := hsp; exact left S6 fun s7 J7 => ⟨_, _, J7, q6⟩
            | ret u => obtain ⟨v6, σ6, H6, S6, r6, q6⟩ := hsp; exact left S6 fun s7 J7 => ⟨_, _, _, J7, r6, q6⟩
    exact go hh wE
end
end Ev
end
section
set_option Elab.async false
set_option linter.all false
set_option maxRecDepth 100000
set_option maxHeartbeats 1000000
/-! Ev's exceptions: made, raised, caught. -/
namespace Ev
open PySem PySem.Spec PyProof.Rows L2
/-! ### __init__ of an error class: self.f = f, .. -/
def spInit (K : PySem.W.Frag) (C : Addr) (ns : List Str) : Sp := fun vs H Q _ => ∃ a ys, vs = .ref a :: ys ∧ ys.length = ns.length ∧ OexC K C ∧ (∀ n ∈ ns, PySem.W.findIn K (.ref C) n = some none) ∧ H a = some (exo a C none) ∧
  ∀ dx, H dx = none → dx ≠ a → Q .non (upd (upd H dx (exd dx (ns.zip ys).reverse)) a (exo a C (some dx)))
theorem upd_swap {H : Hp} {a b : Addr} {o u w : HO} (h : b ≠ a) : upd (upd (upd H b o) a u) b w = upd (upd H b w) a u := by
  funext x
  by_cases h1 : x = b
  · subst h1
    rw [upd_same, upd_ne h, upd_same]
  · by_cases h2 : x = a
    · subst h2
      rw [upd_ne h1, upd_same, upd_same]
    · rw [upd_ne h1, upd_ne h2, upd_ne h1, upd_ne h2, upd_ne h1]
def selfName (x : Str) : Expr → Bool
  | .Name y _ => decide (y = x)
  | _ => false
/-- the body of such an __init__ -/
def initOk (ns : List Str) : List Stmt → Bool
  | [.Assign [.Attribute (.Name s1 _) f1 _] (.Name v1 _) _] => decide (ns = [f1]) && (decide (s1 = "self") && decide (v1 = f1))
  | [.Assign [.Attribute (.Name s1 _) f1 _] (.Name v1 _) _, .Assign [.Attribute (.Name s2 _) f2 _] (.Name v2 _) _] =>
    decide (ns = [f1, f2]) && ((decide (s1 = "self") && decide (v1 = f1)) && (decide (s2 = "self") && decide (v2 = f2)))
  | _ => false
section
variable {P : Program} {w : World} {K : PySem.W.Frag} {mg : Str → Option Value} {base : Heap} {x qual : Str} {params : Arguments} {body : List Stmt} {scope : Scope} {f : Addr} {fd : FuncData} {C : Addr} {ns : List Str}
theorem init_ok (F : FunD K x qual params body scope [] [] f fd) (S : FnScope ("self" :: ns) ("self" :: ns) scope) (hl : ∀ n ∈ ("self" : Str) :: ns, scope.names.lookup n = some .local ∧ (n == ("__debug__" : Str)) = false ∧ (n == ("__classdict__" : Str)) = false) (hb : initOk ns body = true) :
    FnOk P w K mg base (L2.CX P w) 1 f fd ("self" :: ns) (spInit K C ns) := by
  refine F.ok (k := 0) S (fun vs H Q E h => ?_) fun cdv A outer s H vs Q E hr h => ?_
  · obtain ⟨a, ys, e, hl, _⟩ := h
    subst e
    exact congrArg (· + 1) hl
  obtain ⟨a, ys, e, hlen, T, hno, ha, hq⟩ := h
  subst e
  have vn : ∀ (i : Nat) (n : Str) (p : Pos), (("self" : Str) :: ns)[i]? = some n → PE (cxOf (L2.CX P w) P w K mg base ("self" :: ns) qual scope f cdv A outer s H E) (.Name n p) (tVar i) := fun i n p e => by
    obtain ⟨h1, h2, h3⟩ := hl n (List.mem_of_getElem? e)
    exact pe_var e (.inl h1) h2 h3
  unfold initOk at hb
  split at hb
  · rename_i s1 p1 f1 p2 v1 p3 p4
    simp only [Bool.and_eq_true, decide_eq_true_eq] at hb
    obtain ⟨rfl, rfl, rfl⟩ := hb
    match ys, hlen with
    | [y], _ =>
      refine ⟨_, pss_one (ps_ost (vn 0 _ _ rfl) (vn 1 _ _ rfl) rfl), ?_⟩
      exact ⟨y, rfl, .ref a, rfl, a, C, rfl, T, hno _ (by simp), .inl ⟨ha, fun dx h1 h2 => hq dx h1 h2⟩⟩
  · rename_i s1 p1 f1 p2 v1 p3 p4 s2 p5 f2 p6 v2 p7 p8
    simp only [Bool.and_eq_true, decide_eq_true_eq] at hb
    obtain ⟨rfl, ⟨rfl, rfl⟩, rfl, rfl⟩ := hb
    match ys, hlen with
    | [y, z], _ =>
      refine ⟨_, pss_cons (ps_ost (vn 0 _ _ rfl) (vn 1 _ _ rfl) rfl) (pss_one (ps_ost (vn 0 _ _ rfl) (vn 2 _ _ rfl) rfl)), ?_⟩
      refine ⟨y, rfl, .ref a, rfl, a, C, rfl, T, hno _ (by simp), .inl ⟨ha, fun dx h1 h2 => ?_⟩⟩
      refine ⟨z, rfl, .ref a, rfl, a, C, rfl, T, hno _ (by simp), .inr ⟨dx, [(v1, y)], upd_same, by rw [upd_ne h2, upd_same], by show 1 ≤ 900; decide, ?_⟩⟩
      show Q .non _
      rw [upd_swap h2]
      exact hq dx h1 h2
  · cases hb
end
/-! ### what is known of an error class -/
structure ClAt (X : Cx) (x : Str) (ns : List Str) : Prop where
  mg : X.mg x = some (.ref (He.ga X.K x))
  make : (ns = [] ∧ PySem.W.excIn X.K (He.ga X.K x) He.veBase "ValueError.__new__" = true ∧ PySem.W.keepIn X.K (.ref (He.ga X.K x)) = true ∧ Raises X (.ref (He.ga X.K x))) ∨
    (ns ≠ [] ∧ OexC X.K (He.ga X.K x) ∧ XfC X.K (He.ga X.K x) ∧ (∀ n ∈ ns, PySem.W.findIn X.K (.ref (He.ga X.K x)) n = some none) ∧ ns.Nodup ∧
      ∃ fI fd k, PySem.W.findIn X.K (.ref (He.ga X.K x)) "__init__" = some (some (.ref fI)) ∧ PySem.W.typeIn X.K (.ref fI) = some (.type "function") ∧ Room (k + 1) X.A ∧ Binds X.K fd ("self" :: ns) [] ∧
        FnOk X.prog X.w X.K X.mg X.base (L2.CX X.prog X.w) k fI fd ("self" :: ns) (spInit X.K (He.ga X.K x) ns))
theorem zip_look : ∀ {ns : List Str} {ys : List V} {j : Nat} {n : Str} {y : V}, ns.Nodup → ns[j]? = some n → ys[j]? = some y → ((ns.zip ys).reverse).lookup n = some y := by
  intro ns ys j n y hnd h1 h2
  have key : ∀ (l : List (Str × V)), (l.map (·.1)).Nodup → (n, y) ∈ l → l.lookup n = some y := by
    intro l
    induction l with
    | nil => intro _ h; cases h
    | cons p l ih =>
      intro hn hm
      obtain ⟨k, v⟩ := p
      rw [List.lookup_cons]
      rcases List.mem_cons.mp hm with e | hm'
      · cases e
        simp
      · have : n ≠ k := fun z => by
          rw [List.map_cons, List.nodup_cons] at hn
          exact hn.1 (by rw [← z]; exact List.mem_map.mpr ⟨_, hm', rfl⟩)
        have e : (n == k) = false := by simpa using this
        rw [e]
        rw [List.map_cons, List.nodup_cons] at hn
        exact ih hn.2 hm'
  have sl : ∀ (ns : List Str) (ys : List V), ((ns.zip ys).map (·.1)).Sublist ns := by
    intro ns
    induction ns with
    | nil => intro ys; exact List.Sublist.refl _
    | cons k ns ih =>
      intro ys
      cases ys with
      | nil => exact List.nil_sublist _
      | cons y ys => exact (ih ys).cons₂ k
  have hz : ((ns.zip ys).map (·.1)).Nodup := hnd.sublist (sl ns ys)
  refine key _ ?_ ?_
  · rw [List.map_reverse]
    exact List.pairwise_reverse.mpr (hz.imp fun h => Ne.symm h)
  · rw [List.mem_reverse]
    exact List.mem_of_getElem? ((List.getElem?_zip_eq_some (z := (n, y))).mpr ⟨h1, h2⟩)
end Ev
end
section
set_option Elab.async false
set_option linter.all false
set_option maxRecDepth 100000
set_option maxHeartbeats 1000000
/-! Ev's exceptions: raise, try. -/
namespace Ev
open PySem PySem.Spec PyProof.Rows L2
section
variable {X : Cx} {G : Gi} {C : Orc} {sub : Nat → Nat → Bool} {W : WX} {pos p : Pos} {x : Str} {ns : List Str}
/-- x(), an error class without __init__ -/
theorem mk_own0 {A : Addr} {bmB : List Value} {B newId initId : String} (F : ExcBaseFacts B newId initId bmB) (q : PySem.W.excIn X.K A bmB newId = true) (gC : X.mg x = some (.ref A)) (kC : PySem.W.keepIn X.K (.ref A) = true) (r : Raises X (.ref A)) (hg : Gl X x) (hdb : (x == ("__debug__" : Str)) = false) :
    PMk X (.Call (.Name x p) [] [] pos) (fun _ H Q => Q (.ref A) none H) := by
  intro pins s σ H Q I h
  refine wpAny_Call_Name_kw (ld_glob I hg gC ?_ hdb)
  refine PySem.W.callWith_K0 I.kIn kC ?_
  show wpAny _ _ (call (.ref A) []) _ _ _
  obtain ⟨bm, N, nm, qn, bs, hdct, sn, sb, ab, col, dd, k0, k1, k2, k3, k5, mN, hC, hN, hni, T⟩ := exc_obj I.kIn q
  exact wpAny_call_exc_subT F T hC hN hni (fun h' e hm => mk_of I hm r h (I.hok.gone hm.new)) (Nat.zero_le _)
theorem ss_raise0 {c : Nat} {pos' : Pos} (hc : X.calm = true) (tk : Takes X W) (cl : ClAt X x []) (hG : G.cls[c]? = some (x, [])) (hg : Gl X x) (hdb : (x == ("__debug__" : Str)) = false) :
    PS X (.Raise (some (.Call (.Name x p) [] [] pos)) none pos') (liftS G X.K C sub W (.raise c .nil)) := by
  rcases cl.make with ⟨_, h1, h2, h3⟩ | ⟨h, _⟩
  · refine (ps_raise hc tk (mk_own0 F.excBase_ValueError h1 cl.mg h2 h3 hg hdb)).weak fun E σ H ⟨as, env, S, Kk, sim, rel, q, ik⟩ => ?_
    exact ik.xc σ c [] S as H _ _ Ext.refl sim ⟨x, [], hG, rfl, rfl, .inl ⟨rfl, rfl⟩⟩ q.2
  · exact absurd rfl h
theorem ss_raise {c : Nat} {pos' : Pos} {e : Expr} {es : List Expr} {xs : Exs} (hc : X.calm = true) (tk : Takes X W) (cl : ClAt X x ns) (hne : ns ≠ []) (hG : G.cls[c]? = some (x, ns)) (hg : Gl X x) (hdb : (x == ("__debug__" : Str)) = false) (hl : exLen xs = ns.length) (hn5 : ns.length ≤ 5)
    (hn : notStar e = true) (hs : allPlain es = true) (ha : PA X (e :: es) (liftEs G X.K C W xs)) : PS X (.Raise (some (.Call (.Name x p) (e :: es) [] pos)) none pos') (liftS G X.K C sub W (.raise c xs)) := by
  rcases cl.make with ⟨h, _⟩ | ⟨_, T, _, hno, hnd, fI, fd, k, h1, h2, hr, hb, F1⟩
  · exact absurd h hne
  refine (ps_raise hc tk (pmk_oex T h1 h2 F1 hr hb .nil (fun _ _ _ _ e s' _ z => ?_) hg cl.mg ha hdb (starEach_plain hn) (back_plain hs))).weak fun E σ H ⟨as, env, S, Kk, sim, rel, q, ik⟩ => ?_
  · obtain ⟨_, _, _, _, _, _, _, _, _, _, _, _, z⟩ := z
    exact z.elim
  refine ⟨as, env, S, _, Kk.xc, sim, rel, q, fun ds S1 as1 vs H1 x1 s1 r1 ⟨hd, q1⟩ => ?_, ik.xc σ⟩
  have hvl : vs.length = ns.length := by rw [← r1.length, hd, hl]
  refine ⟨by omega, fun a ha' => ⟨a, vs, by rw [List.append_nil], hvl, T, hno, upd_same, fun dx h1 h2 => ?_⟩⟩
  have hdx : H1 dx = none := by rw [upd_ne h2] at h1; exact h1
  refine ⟨rfl, dx, (ns.zip vs).reverse, upd_same, by rw [upd_ne h2, upd_same], hdx, ?_⟩
  have eH : upd (del (upd (upd (upd H1 a (exo a (He.ga X.K x) none)) dx (exd dx (ns.zip vs).reverse)) a (exo a (He.ga X.K x) (some dx))) a) dx (.xd (ns.zip vs).reverse) = upd H1 dx (.xd (ns.zip vs).reverse) := by
    funext b
    by_cases e1 : b = dx
    · subst e1
      rw [upd_same, upd_same]
    · rw [upd_ne e1, upd_ne e1]
      by_cases e2 : b = a
      · subst e2
        rw [del_same, ha']
      · rw [del_ne e2, upd_ne e2, upd_ne e1, upd_ne e2]
  rw [eH]
  refine ik.xc σ c ds S1 as1 _ _ _ (x1.trans (Ext.laid hdx)) (s1.laid hdx) ⟨x, ns, hG, rfl, by rw [hd, hl], .inr ⟨hne, dx, _, rfl, upd_same, fun j n f hn hf => ?_⟩⟩ q1
  obtain ⟨v, hv, rv⟩ := r1.get hf
  exact ⟨v, zip_look hnd hn hv, rv.ext (Ext.laid hdx)⟩
end
/-! ### except suites: return an answer of constants and the error's fields -/
theorem ExRep.ext {G : Gi} {K : PySem.W.Frag} {H H' : Hp} {as as' : List Addr} {S : Sto} {c : Nat} {fs : List D} {cls : Value} {d : Option Addr} (sim : Sim K H as S) (x : Ext as as' H H') (r : ExRep G K H as c fs cls d) : ExRep G K H' as' c fs cls d := by
  obtain ⟨y, ns, hG, ec, hl, h | ⟨hne, dd, ws, ed, he, hf⟩⟩ := r
  · exact ⟨y, ns, hG, ec, hl, .inl h⟩
  · have hn : dd ∉ as := fun hm => by
      obtain ⟨i, hi, e⟩ := List.getElem_of_mem hm
      have hS : i < S.length := by rw [← sim.len]; exact hi
      obtain ⟨b, e1, q⟩ := sim.at_ i _ (List.getElem?_eq_getElem hS)
      rw [List.getElem?_eq_getElem hi, e] at e1
      cases e1
      cases ho : S[i] with
      | lst xs => rw [ho] at q; obtain ⟨_, q, _⟩ := q; rw [he] at q; cases q
      | dct xs => rw [ho] at q; obtain ⟨_, q, _⟩ := q; rw [he] at q; cases q
      | fdc xs => rw [ho] at q; obtain ⟨_, _, q, _⟩ := q; rw [he] at q; cases q
    exact ⟨y, ns, hG, ec, hl, .inr ⟨hne, dd, ws, ed, x.out _ _ hn he, fun j n f h1 h2 => let ⟨v, h3, h4⟩ := hf j n f h1 h2; ⟨v, h3, h4.ext x⟩⟩⟩
/-- what a suite's expression gives: k the clause's class, nm the slot and the name of the error -/
def liftH (G : Gi) (K : PySem.W.Frag) (sub : Nat → Nat → Bool) (k : Nat) (nm : Option (Nat × Str)) (a : Addr) (cls : Value) (d : Option Addr) (hx : Hx) : TE := fun σ H Q => ∃ as S c fs Qp, Sim K H as S ∧ ExRep G K H as c fs cls d ∧ sub c k = true ∧ (∀ i n, nm = some (i, n) → σ[i]? = some (some (.ref a))) ∧ hxD c fs hx S Qp ∧ impQ K as H Qp Q
def liftHs (G : Gi) (K : PySem.W.Frag) (sub : Nat → Nat → Bool) (k : Nat) (nm : Option (Nat × Str)) (a : Addr) (cls : Value) (d : Option Addr) (l : List Hx) : TA := fun σ H Q => ∃ (as : List Addr) (S : Sto) (c : Nat) (fs : List D) (Qp : List D → Sto → Prop), Sim K H as S ∧ ExRep G K H as c fs cls d ∧ sub c k = true ∧ (∀ i n, nm = some (i, n) → σ[i]? = some (some (.ref a))) ∧ hxD.hxL c fs l S Qp ∧
  ∀ ds S' as' vs H', Ext as as' H H' → Sim K H' as' S' → Reps K H' as' ds vs → Qp ds S' → Q vs H'
/-- each class below k has the field f as its j-th one -/
def fldOk (cls : List (Str × List Str)) (sub : Nat → Nat → Bool) (k j : Nat) (f : Str) : Bool := (List.range cls.length).all fun c => !sub c k || (match cls[c]? with
  | some (_, ns) => decide (ns[j]? = some f)
  | none => true)
mutual
def hxOk (cls : List (Str × List Str)) (sub : Nat → Nat → Bool) (k : Nat) (nm : Option (Nat × Str)) : Hx → Expr → Bool
  | .str x, e => match e with
    | .Constant (.str y) _ _ => decide (x = y)
    | _ => false
  | .non, e => match e with
    | .Constant .none _ _ => true
    | _ => false
  | .int i, e => match e with
    | .Constant (.int j) _ _ => decide (i = j)
    | _ => false
  | .bl b, e => match e with
    | .Constant (.bool c) _ _ => decide (b = c)
    | _ => false
  | .fld j, e => match e, nm with
    | .Attribute (.Name n _) f _, some (_, m) => decide (n = m) && fldOk cls sub k j f
    | _, _ => false
  | .isi _, _ => false
  | .lst l, e => match e with
    | .List es _ => hxsOk cls sub k nm l es
    | _ => false
  | .tup l, e => match e with
    | .Tuple es _ _ => hxsOk cls sub k nm l es
    | _ => false
def hxsOk (cls : List (Str × List Str)) (sub : Nat → Nat → Bool) (k : Nat) (nm : Option (Nat × Str)) : List Hx → List Expr → Bool
  | [], es => match es with
    | [] => true
    | _ => false
  | h :: hs, es => match es with
    | e :: es => notStar e && (decide (hs.length < 20) && (hxOk cls sub k nm h e && hxsOk cls sub k nm hs es))
    | _ => false
end
theorem pe_ex {ι : Type} {X : Cx} {e : Expr} {p : ι → Prop} {t : ι → TE} (h : ∀ i, p i → PE X e (t i)) : PE X e (fun σ H Q => ∃ i, p i ∧ t i σ H Q) := ⟨fun pins s σ H Q I ⟨i, hp, q⟩ => (h i hp).run pins s σ H Q I q⟩
section
variable {X : Cx} {G : Gi} {sub : Nat → Nat → Bool} {k : Nat} {nm : Option (Nat × Str)} {a : Addr} {oe : Obj} {cls : Value} {d : Option Addr} {pn : List (Addr × Obj)}
mutual
theorem hx_ok (hcl : ∀ (c : Nat) (x : Str) (ns : List Str), G.cls[c]? = some (x, ns) → ClAt X x ns) (hnm : ∀ i n, nm = some (i, n) → X.N[i]? = some n ∧ Vis X.env.scope n ∧ (n == ("__debug__" : Str)) = false ∧ (n == ("__classdict__" : Str)) = false) (hz : Zc cls d oe) (hf : ∃ vs, oe.data = .fields vs) :
    ∀ (hx : Hx) (e : Expr), hxOk G.cls sub k nm hx e = true → PE (X.suite a ((a, oe) :: pn)) e (liftH G X.K sub k nm a cls d hx)
  | .str x, e, h => by
    unfold hxOk at h
    split at h
    · rename_i y j p
      have e1 : x = y := of_decide_eq_true h
      subst e1
      exact pe_str.weak fun σ H Q ⟨as, S, c, fs, Qp, sim, _, _, _, q, iq⟩ => iq.now sim (.str _) q
    · cases h
  | .non, e, h => by
    unfold hxOk at h
    split at h
    · exact pe_non.weak fun σ H Q ⟨as, S, c, fs, Qp, sim, _, _, _, q, iq⟩ => iq.now sim .non q
    · cases h
  | .int i, e, h => by
    unfold hxOk at h
    split at h
    · rename_i y j p
      have e1 : i = y := of_decide_eq_true h
      subst e1
      exact pe_int.weak fun σ H Q ⟨as, S, c, fs, Qp, sim, _, _, _, q, iq⟩ => iq.now sim (.int _) q
    · cases h
  | .bl b, e, h => by
    unfold hxOk at h
    split at h
    · rename_i y j p
      have e1 : b = y := of_decide_eq_true h
      subst e1
      exact pe_bl.weak fun σ H Q ⟨as, S, c, fs, Qp, sim, _, _, _, q, iq⟩ => iq.now sim (.bl _) q
    · cases h
  | .isi _, e, h => by
    unfold hxOk at h
    cases h
  | .fld j, e, h => by
    unfold hxOk at h
    split at h
    · rename_i n p f p2 i m
      obtain ⟨h1, h2⟩ := Bool.and_eq_true_iff.mp h
      have e1 : n = m := of_decide_eq_true h1
      subst e1
      obtain ⟨hN, hv, hd1, hd2⟩ := hnm i n rfl
      have fo : ∀ (c : Nat) (x : Str) (ns : List Str), G.cls[c]? = some (x, ns) → sub c k = true → ns[j]? = some f := fun c x ns hc hs => by
        unfold fldOk at h2
        rw [List.all_eq_true] at h2
        have hlt := (List.getElem?_eq_some_iff.mp hc).1
        have h3 := h2 c (List.mem_range.mpr hlt)
        rw [hc, hs] at h3
        simpa using h3
      refine (pe_ex (ι := Nat × Str × List Str) (p := fun u => G.cls[u.1]? = some u.2 ∧ sub u.1 k = true) (t := fun u => tXf a cls d (He.ga X.K u.2.1) f (tVar i)) fun ⟨c, x, ns⟩ ⟨hc, hs⟩ => ?_).weak fun σ H Q ⟨as, S, c, fs, Qp, sim, er, hsub, hσ, q, iq⟩ => ?_
      · have hcA := hcl c x ns hc
        have hj := fo c x ns hc hs
        rcases hcA.make with ⟨e0, _⟩ | ⟨_, _, T, hno, _⟩
        · subst e0
          cases hj
        · exact pe_xf T (hno f (List.mem_of_getElem? hj)) hz hf (pe_var hN hv hd1 hd2) rfl
      · obtain ⟨x, ns, hG, ec, hl, h0⟩ := er
        have hj := fo c x ns hG hsub
        refine ⟨(c, x, ns), ⟨hG, hsub⟩, .ref a, hσ i n rfl, rfl, ec, ?_⟩
        obtain ⟨dv, hd, qd⟩ := q
        rcases h0 with ⟨e0, _⟩ | ⟨_, dd, ws, ed, he, hfl⟩
        · subst e0
          cases hj
        · obtain ⟨v, hv, rv⟩ := hfl j f dv hj hd
          exact ⟨dd, ws, v, ed, he, hv, iq.now sim rv qd⟩
    · cases h
  | .lst l, e, h => by
    unfold hxOk at h
    split at h
    · rename_i es p
      refine (pe_lst (hxs_ok hcl hnm hz hf l es h)).weak fun σ H Q ⟨as, S, c, fs, Qp, sim, er, hsub, hσ, q, iq⟩ => ?_
      exact ⟨as, S, c, fs, _, sim, er, hsub, hσ, q, fun ds S1 as1 vs H1 x1 s1 r1 ⟨hd, q1⟩ => ⟨by rw [← r1.length]; exact Nat.le_trans hd most_le, fun p hp => (iq.step x1).newList s1 r1 hp q1⟩⟩
    · cases h
  | .tup l, e, h => by
    unfold hxOk at h
    split at h
    · rename_i es k' p
      refine (pe_tup (hxs_ok hcl hnm hz hf l es h)).weak fun σ H Q ⟨as, S, c, fs, Qp, sim, er, hsub, hσ, q, iq⟩ => ?_
      exact ⟨as, S, c, fs, _, sim, er, hsub, hσ, q, fun ds S1 as1 vs H1 x1 s1 r1 ⟨hd, q1⟩ => ⟨by rw [← r1.length]; exact Nat.le_trans hd most_le, fun p hp => (iq.step x1).newTup s1 r1 hp q1⟩⟩
    · cases h
theorem hxs_ok (hcl : ∀ (c : Nat) (x : Str) (ns : List Str), G.cls[c]? = some (x, ns) → ClAt X x ns) (hnm : ∀ i n, nm = some (i, n) → X.N[i]? = some n ∧ Vis X.env.scope n ∧ (n == ("__debug__" : Str)) = false ∧ (n == ("__classdict__" : Str)) = false) (hz : Zc cls d oe) (hf : ∃ vs, oe.data = .fields vs) :
    ∀ (l : List Hx) (es : List Expr), hxsOk G.cls sub k nm l es = true → PA (X.suite a ((a, oe) :: pn)) es (liftHs G X.K sub k nm a cls d l)
  | [], es, h => by
    unfold hxsOk at h
    split at h
    · exact pa_nil.weak fun σ H Q ⟨as, S, c, fs, Qp, sim, er, hsub, hσ, q, iq⟩ => iq _ _ _ _ _ Ext.refl sim .nil q
    · cases h
  | hx :: hs, es, h => by
    unfold hxsOk at h
    split at h
    · rename_i e es'
      simp only [Bool.and_eq_true] at h
      obtain ⟨h1, _, h2, h3⟩ := h
      refine (pa_cons (hx_ok hcl hnm hz hf hx e h2) (hxs_ok hcl hnm hz hf hs es' h3) (starEach_plain h1)).weak fun σ H Q ⟨as, S, c, fs, Qp, sim, er, hsub, hσ, q, iq⟩ => ?_
      exact ⟨as, S, c, fs, _, sim, er, hsub, hσ, q, fun dv S1 as1 v H1 x1 s1 r1 q1 => ⟨as1, S1, c, fs, _, s1, er.ext sim x1, hsub, hσ, q1, fun ds S2 as2 vs H2 x2 s2 r2 q2 => iq _ _ _ _ _ (x1.trans x2) s2 (.cons (r1.ext x2) r2) q2⟩⟩
    · cases h
end
end
/-! ### try -/
def nmOf : Option Nat → Option Str → Option (Nat × Str)
  | some i, some n => some (i, n)
  | _, _ => none
def nmB (N : List Str) (sc : Scope) : Option Nat → Option Str → Bool
  | none, none => true
  | some i, some n => decide (N[i]? = some n) && (decide (sc.names.lookup n = some .local) && (!(n == ("__debug__" : Str)) && !(n == ("__classdict__" : Str))))
  | _, _ => false
/-- the clauses: `except x as n: return e` -/
def hdsOk (G : Gi) (sub : Nat → Nat → Bool) (N : List Str) (sc : Scope) : List ExceptHandler → List (Nat × Option Nat × Hx) → Bool
  | [], l => match l with
    | [] => true
    | _ => false
  | h :: hs, l => match h, l with
    | .ExceptHandler (some (.Name x _)) nm [.Return (some e) _] _, (k, sl, hx) :: r =>
      (decide ((G.cls[k]?).map (·.1) = some x) && (decide (sc.names.lookup x = some .globalImplicit) && !(x == ("__debug__" : Str)))) &&
        (nmB N sc sl nm && (hxOk G.cls sub k (nmOf sl nm) hx e && hdsOk G sub N sc hs r))
    | _, _ => false
/-- what is seen of the error classes, one below another -/
structure SubAt (X : Cx) (G : Gi) (sub : Nat → Nat → Bool) : Prop where
  is : ∀ (c k : Nat) (x y : Str) (ns ms : List Str), G.cls[c]? = some (x, ns) → G.cls[k]? = some (y, ms) → PySem.W.exmOne X.K (.ref (He.ga X.K x)) (.ref (He.ga X.K y)) = some (sub c k)
section
variable {X : Cx} {G : Gi} {C : Orc} {sub : Nat → Nat → Bool} {W : WX} {N : List Str} {sc : Scope}
theorem hds_cls (hX : X.N = N) (hS : X.env.scope = sc) (hcl : ∀ (c : Nat) (x : Str) (ns : List Str), G.cls[c]? = some (x, ns) → ClAt X x ns) (hsub : SubAt X G sub) : ∀ {hs : List ExceptHandler} {l : List (Nat × Option Nat × Hx)}, hdsOk G sub N sc hs l = true →
    ∃ cl : List Cl, ClsOk X hs cl ∧ ∀ (Kk : Kn) (E : Ends) (as : List Addr) (H : Hp), impK G X.K as H Kk E W → ∀ σ, impE G X.K as H σ (catch_ sub Kk.rt Kk.xc (l.map fun q => (q.1, q.2.2))) (wCls X.K X.N.length W E cl)
  | [], l, h => by
    unfold hdsOk at h
    split at h
    · exact ⟨[], .nil, fun Kk E as H ik σ => ik.xc σ⟩
    · cases h
  | h₀ :: hs, l, h => by
    unfold hdsOk at h
    split at h
    · rename_i x p1 nm e p2 p3 k sl hx r
      simp only [Bool.and_eq_true, decide_eq_true_eq, Bool.not_eq_true'] at h
      obtain ⟨⟨h1, h2, h3⟩, h4, h5, h6⟩ := h
      obtain ⟨cl, c1, c2⟩ := hds_cls hX hS hcl hsub h6
      obtain ⟨ms, hk⟩ : ∃ ms, G.cls[k]? = some (x, ms) := by
        cases q : G.cls[k]? with
        | none => rw [q] at h1; cases h1
        | some y =>
          rw [q] at h1
          obtain ⟨y1, y2⟩ := y
          have : y1 = x := by simpa using h1
          rw [this]
          exact ⟨y2, rfl⟩
      have hca := hcl k x ms hk
      have nmk : ∀ i n, nmOf sl nm = some (i, n) → sl = some i ∧ nm = some n := fun i n e => by
        unfold nmOf at e
        split at e
        · cases e
          exact ⟨rfl, rfl⟩
        · cases e
      have hnmv : ∀ i n, nmOf sl nm = some (i, n) → X.N[i]? = some n ∧ Vis X.env.scope n ∧ (n == ("__debug__" : Str)) = false ∧ (n == ("__classdict__" : Str)) = false := fun i n e => by
        obtain ⟨e1, e2⟩ := nmk i n e
        subst e1
        subst e2
        simp only [nmB, Bool.and_eq_true, decide_eq_true_eq, Bool.not_eq_true'] at h4
        rw [hX, hS]
        exact ⟨h4.1, .inl h4.2.1, h4.2.2.1, h4.2.2.2⟩
      refine ⟨⟨.ref (He.ga X.K x), sl, fun a cls d => tRet (liftH G X.K sub k (nmOf sl nm) a cls d hx)⟩ :: cl, .cons ⟨by show X.env.scope.names.lookup x = _; rw [hS]; exact h2, h3, .inl hca.mg⟩ ?_ (fun a oe cls d pn hz hf => pss_one (ps_ret (hx_ok hcl hnmv hz hf hx e h5))) c1, fun Kk E as H ik σ => ?_⟩
      · clear hnmv nmk h5
        cases sl with
        | none =>
          cases nm with
          | none => exact True.intro
          | some n => exact absurd h4 (by simp [nmB])
        | some i =>
          cases nm with
          | none => exact absurd h4 (by simp [nmB])
          | some n =>
            simp only [nmB, Bool.and_eq_true, decide_eq_true_eq, Bool.not_eq_true'] at h4
            refine ⟨by rw [hX]; exact h4.1, ?_⟩
            show X.env.scope.names.lookup n = _
            rw [hS]
            exact h4.2.1
      · intro c fs S' as' H' cls d x1 s1 er q
        obtain ⟨q1, q2⟩ := q
        have er' := er
        obtain ⟨y, ns, hG, ec, _⟩ := er'
        refine ⟨sub c k, by rw [ec]; exact hsub.is c k y x ns ms hG hk, fun hb hlen a ha => ?_, fun hb => c2 Kk E as H ik σ c fs S' as' H' cls d x1 s1 er (q2 hb)⟩
        show liftH G X.K sub k _ a cls d hx (Cl.into _ a σ) H' (Cl.ends _ E).rt
        refine ⟨as', S', c, fs, Kk.rt, s1, er, hb, fun i n e => ?_, q1 hb, ?_⟩
        · obtain ⟨e1, e2⟩ := nmk i n e
          subst e1
          show (σ.set i (some (.ref a)))[i]? = _
          have hi := (hnmv i n e).1
          have hlt := (List.getElem?_eq_some_iff.mp hi).1
          exact List.getElem?_set_self (by rw [hlen]; exact hlt)
        · have e : ∀ c : Cl, (c.ends E).rt = E.rt := fun c => by
            unfold Cl.ends
            cases c.slot <;> rfl
          rw [e]
          exact ik.rt.step x1
    · cases h
theorem ss_try {body : List Stmt} {h₀ : ExceptHandler} {hds : List ExceptHandler} {l : List (Nat × Option Nat × Hx)} {s : Ev.St} {pos : Pos} (hst : X.stack = X.env :: X.outer) (hf : X.env.frame = some X.env.locals) (hX : X.N = N) (hN : N.Nodup) (hS : X.env.scope = sc) (tk : Takes X W)
    (hcl : ∀ (c : Nat) (x : Str) (ns : List Str), G.cls[c]? = some (x, ns) → ClAt X x ns) (hsub : SubAt X G sub) (hh : hdsOk G sub N sc (h₀ :: hds) l = true)
    (hb : ∀ (W : WX) (pn : List (Addr × Obj)) (xe : Value → Shared → Prop), Takes (X.tr pn xe) W → PassesOwn (model X.prog X.w) X.A X.env xe → PSs (X.tr pn xe) body (liftS G X.K C sub W s)) :
    PS X (.Try body (h₀ :: hds) [] [] pos) (liftS G X.K C sub W (.tri s l)) := by
  obtain ⟨cl, c1, c2⟩ := hds_cls (W := W) hX hS hcl hsub hh
  refine (ps_try_cls hst hf (by rw [hX]; exact hN) tk (tb := fun W => liftS G X.K C sub W s) hb c1).weak fun E σ H ⟨as, env, S, Kk, sim, rel, q, ik⟩ => ?_
  exact ⟨as, env, S, _, sim, rel, q, ⟨ik.nx, ik.rt, ik.bk, ik.ct, fun σ' => c2 Kk E as H ik σ'⟩⟩
end
end Ev
end
section
set_option Elab.async false
set_option linter.all false
set_option maxRecDepth 100000
set_option maxHeartbeats 2000000
/-! Ev: does an expression of the text stand for one of ours; a checked one does. -/
namespace Ev
open PySem PySem.Spec PyProof.Rows L2
mutual
def dEq : D → D → Bool
  | .non, y => match y with
    | .non => true
    | _ => false
  | .bl b, y => match y with
    | .bl c => decide (b = c)
    | _ => false
  | .int i, y => match y with
    | .int j => decide (i = j)
    | _ => false
  | .str x, y => match y with
    | .str z => decide (x = z)
    | _ => false
  | .tup xs, y => match y with
    | .tup ys => dsEq xs ys
    | _ => false
  | .ref _, _ => false
  | .fz _, _ => false
def dsEq : List D → List D → Bool
  | [], y => match y with
    | [] => true
    | _ => false
  | x :: xs, y => match y with
    | [] => false
    | y :: ys => dEq x y && dsEq xs ys
end
mutual
theorem dEq_ok : ∀ (x y : D), dEq x y = true → x = y
  | .non, y, h => by
    unfold dEq at h
    split at h
    · rfl
    · cases h
  | .bl b, y, h => by
    unfold dEq at h
    split at h
    · rw [of_decide_eq_true h]
    · cases h
  | .int b, y, h => by
    unfold dEq at h
    split at h
    · rw [of_decide_eq_true h]
    · cases h
  | .str b, y, h => by
    unfold dEq at h
    split at h
    · rw [of_decide_eq_true h]
    · cases h
  | .tup xs, y, h => by
    unfold dEq at h
    split at h
    · rw [dsEq_ok xs _ h]
    · cases h
  | .ref _, y, h => by
    unfold dEq at h
    cases h
  | .fz _, y, h => by
    unfold dEq at h
    cases h
theorem dsEq_ok : ∀ (xs ys : List D), dsEq xs ys = true → xs = ys
  | [], y, h => by
    unfold dsEq at h
    split at h
    · rfl
    · cases h
  | x :: xs, y, h => by
    unfold dsEq at h
    split at h
    · cases h
    · obtain ⟨h1, h2⟩ := Bool.and_eq_true_iff.mp h
      rw [dEq_ok x _ h1, dsEq_ok xs _ h2]
end
def glB (sc : Scope) (x : Str) : Bool := decide (sc.names.lookup x = some .globalImplicit) && !(x == ("__debug__" : Str))
def visB (sc : Scope) (x : Str) : Bool := (decide (sc.names.lookup x = some .local ∨ sc.names.lookup x = some .cell ∨ sc.names.lookup x = some .free)) && (!(x == ("__debug__" : Str)) && !(x == ("__classdict__" : Str)))
/-- what of a call's function is known -/
def fnB (G : Gi) (f : Nat) (x : Str) : Bool := decide ((G.fns[f]?).map (·.1) = some x)
def biB (G : Gi) (b : Bi) : Bool := decide (b ∈ G.bis)
def isNil : Exs → Bool
  | .nil => true
  | _ => false
def nmP (N : List Str) (own : List Nat) : List (Str × Nat) := own.map fun i => (N.getD i Str.empty, i)
mutual
def chkE (G : Gi) (N : List Str) : Nat → Scope → Ex → Expr → Bool
  | 0, _, _, _ => false
  | n + 1, sc, x, e => match x with
    | .var i => (match e with
      | .Name y _ => decide (N[i]? = some y) && visB sc y
      | _ => false)
    | .int i => (match e with
      | .Constant (.int j) _ _ => decide (i = j)
      | _ => false)
    | .str s => (match e with
      | .Constant (.str t) _ _ => decide (s = t)
      | _ => false)
    | .bl b => (match e with
      | .Constant (.bool c) _ _ => decide (b = c)
      | _ => false)
    | .non => (match e with
      | .Constant .none _ _ => true
      | _ => false)
    | .glo y d => (match e with
      | .Name z _ => decide (y = z) && (glB sc z && (match G.con.lookup y with
        | some d' => dEq d d'
        | none => false))
      | _ => false)
    | .bin o a b => (match e with
      | .BinOp ea o' eb _ => decide (o = o') && (chkE G N n sc a ea && chkE G N n sc b eb)
      | _ => false)
    | .neg a => (match e with
      | .UnaryOp .USub ea _ => chkE G N n sc a ea
      | _ => false)
    | .nt a => (match e with
      | .UnaryOp .Not ea _ => chkE G N n sc a ea
      | _ => false)
    | .cmp o a b => (match e with
      | .Compare ea [o'] [eb] _ => decide (o = o') && (notSet eb && (chkE G N n sc a ea && chkE G N n sc b eb))
      | _ => false)
    | .chain o o2 a b c => (match e with
      | .Compare ea [o', o2'] [eb, ec] _ => (decide (o = o') && decide (o2 = o2')) && (notSet ec && (chkE G N n sc a ea && (chkE G N n sc b eb && chkE G N n sc c ec)))
      | _ => false)
    | .and a b => (match e with
      | .BoolOp .And es _ => chkBo G N n sc .And (.and a b) es
      | _ => false)
    | .or a b => (match e with
      | .BoolOp .Or es _ => chkBo G N n sc .Or (.or a b) es
      | _ => false)
    | .ife c a b => (match e with
      | .IfExp ec ea eb _ => chkT G N n sc c ec && (chkE G N n sc a ea && chkE G N n sc b eb)
      | _ => false)
    | .tup xs => (match e with
      | .Tuple es _ _ => chkEs G N n sc xs es
      | _ => false)
    | .lst xs => (match e with
      | .List es _ => chkEs G N n sc xs es
      | _ => false)
    | .ix a i => (match e with
      | .Subscript ea ei _ => notSlice ei && (chkE G N n sc a ea && chkE G N n sc i ei)
      | _ => false)
    | .slc a lo hi => (match e with
      | .Subscript ea (.Slice l h none _) _ => chkE G N n sc a ea && (chkP G N n sc lo l && chkP G N n sc hi h)
      | _ => false)
    | .call f xs => (match e with
      | .Call (.Name y _) [] [] _ => isNil xs && (glB sc y && decide (G.fns[f]? = some (y, [])))
      | .Call (.Name y _) (e1 :: es) [] _ => (glB sc y && fnB G f y) && ((notStar e1 && allPlain es) && chkEs G N n sc xs (e1 :: es))
      | _ => false)
    | .callk f xs ks zs pm => (match e with
      | .Call (.Name y _) [] kws _ => (isNil xs && (glB sc y && fnB G f y)) && (decide ((f, 0, ks, pm) ∈ G.kws) && chkK G N n sc zs kws ks)
      | .Call (.Name y _) (e1 :: es) kws _ => (glB sc y && fnB G f y) && ((notStar e1 && allPlain es) && (decide ((f, exLen xs, ks, pm) ∈ G.kws) && (chkEs G N n sc xs (e1 :: es) && chkK G N n sc zs kws ks)))
      | _ => false)
    | .bi b xs => (match e with
      | .Call (.Name y _) (e1 :: es) [] _ => (decide (y = biName b) && (glB sc y && biB G b)) && ((notStar e1 && allPlain es) && chkEs G N n sc xs (e1 :: es))
      | _ => false)
    | .isi a ts => (match e with
      | .Call (.Name y _) [ea, .Name z _] [] _ => (decide (y = ("isinstance" : Str)) && (glB sc y && G.fre.contains y)) && (match ts with
        | [t] => (decide (t ≠ .non) && (decide (z = Str.ofString (tyS t)) && (glB sc z && G.fre.contains z))) && (notStar ea && chkE G N n sc a ea)
        | _ => false)
      | .Call (.Name y _) [ea, .Tuple es _ _] [] _ => (decide (y = ("isinstance" : Str)) && (glB sc y && G.fre.contains y)) && ((tysOk sc G.fre es ts && decide (ts.length ≤ 10)) && (notStar ea && chkE G N n sc a ea))
      | _ => false)
    | .meth m o xs => (match e with
      | .Call (.Attribute eo y p1) [] [] p2 => (decide (y = meName m) && (notCall eo && (p1.endLine == p2.line))) && (isNil xs && chkE G N n sc o eo)
      | .Call (.Attribute eo y p1) (e1 :: es) [] p2 => (decide (y = meName m) && (notCall eo && (p1.endLine == p2.line))) && (((notStar e1 && allPlain es) && decide (es.length < 20)) && (chkE G N n sc o eo && chkEs G N n sc xs (e1 :: es)))
      | _ => false)
    | .comp ee t it xs own => (match e with
      | .ListComp elt [⟨tg, iter, ifs, 0⟩] scope _ => chkC G N n sc ee t xs own elt tg iter ifs scope && chkV G N n sc it tg iter
      | _ => false)
    | .dict ks xs => (match e with
      | .Dict [] [] _ => ks.isEmpty && isNil xs
      | .Dict (k1 :: keys) values _ => chkD G N n sc ks xs (k1 :: keys) values && (((k1 :: keys).all (·.isSome) && decide ((k1 :: keys).length = values.length)) && decide ((k1 :: keys).length ≤ 15))
      | _ => false)
/-- a test -/
def chkT (G : Gi) (N : List Str) : Nat → Scope → Ex → Expr → Bool
  | 0, _, _, _ => false
  | n + 1, sc, x, e => match e with
    | .UnaryOp .Not ea _ => (match x with
      | .nt a => chkT G N n sc a ea
      | _ => false)
    | .BoolOp op es _ => chkBt G N n sc op x es
    | .Compare ea [o'] [eb] _ => (match x with
      | .cmp o a b => decide (o = o') && (notSet eb && (chkE G N n sc a ea && chkE G N n sc b eb))
      | _ => false)
    | .Compare ea [o', o2'] [eb, ec] _ => (match x with
      | .chain o o2 a b c => (decide (o = o') && decide (o2 = o2')) && (notSet ec && (chkE G N n sc a ea && (chkE G N n sc b eb && chkE G N n sc c ec)))
      | _ => false)
    | e => plainTest e && chkE G N n sc x e
/-- and, or: their values -/
def chkBo (G : Gi) (N : List Str) : Nat → Scope → BoolOp → Ex → List Expr → Bool
  | 0, _, _, _, _ => false
  | n + 1, sc, op, x, es => match es with
    | [e] => chkE G N n sc x e
    | e :: e2 :: es => (match op, x with
      | .And, .and a b => chkE G N n sc a e && chkBo G N n sc .And b (e2 :: es)
      | .Or, .or a b => chkE G N n sc a e && chkBo G N n sc .Or b (e2 :: es)
      | _, _ => false)
    | [] => false
/-- and, or: as tests -/
def chkBt (G : Gi) (N : List Str) : Nat → Scope → BoolOp → Ex → List Expr → Bool
  | 0, _, _, _, _ => false
  | n + 1, sc, op, x, es => match es with
    | [e] => chkT G N n sc x e
    | e :: e2 :: es => (match op, x with
      | .And, .and a b => chkT G N n sc a e && chkBt G N n sc .And b (e2 :: es)
      | .Or, .or a b => chkT G N n sc a e && chkBt G N n sc .Or b (e2 :: es)
      | _, _ => false)
    | [] => false
def chkEs (G : Gi) (N : List Str) : Nat → Scope → Exs → List Expr → Bool
  | 0, _, _, _ => false
  | n + 1, sc, xs, es => match xs with
    | .nil => (match es with
      | [] => true
      | _ => false)
    | .cons x xs => (match es with
      | e :: es => notStar e && (chkE G N n sc x e && chkEs G N n sc xs es)
      | _ => false)
    | .star x xs => (match es with
      | .Starred e _ :: es => chkE G N n sc x e && chkEs G N n sc xs es
      | _ => false)
def chkP (G : Gi) (N : List Str) : Nat → Scope → Pt → Option Expr → Bool
  | 0, _, _, _ => false
  | n + 1, sc, p, o => match p with
    | .no => (match o with
      | none => true
      | _ => false)
    | .at x => (match o with
      | some e => chkE G N n sc x e
      | _ => false)
def chkK (G : Gi) (N : List Str) : Nat → Scope → Exs → List Keyword → List Str → Bool
  | 0, _, _, _, _ => false
  | n + 1, sc, xs, kws, ks => match xs with
    | .nil => (match kws, ks with
      | [], [] => true
      | _, _ => false)
    | .cons x xs => (match kws, ks with
      | ⟨some y, e, _⟩ :: kws, k :: ks => decide (y = k) && (chkE G N n sc x e && chkK G N n sc xs kws ks)
      | _, _ => false)
    | .star _ _ => false
def chkD (G : Gi) (N : List Str) : Nat → Scope → List Str → Exs → List (Option Expr) → List Expr → Bool
  | 0, _, _, _, _, _ => false
  | n + 1, sc, ks, xs, keys, values => match xs with
    | .nil => (match ks, keys, values with
      | [], [], [] => true
      | _, _, _ => false)
    | .cons x xs => (match ks, keys, values with
      | k :: ks, some (.Constant (.str y) _ _) :: keys, e :: values => decide (y = k) && (chkE G N n sc x e && chkD G N n sc ks xs keys values)
      | _, _, _ => false)
    | .star _ _ => false
/-- a comprehension but for its source -/
def chkC (G : Gi) (N : List Str) : Nat → Scope → Ex → Tg → Exs → List Nat → Expr → Expr → Expr → List Expr → Scope → Bool
  | 0, _, _, _, _, _, _, _, _, _, _ => false
  | n + 1, sc, ee, t, xs, own, elt, tg, iter, ifs, scope =>
    (blkC N sc scope (nmP N own) && (tgOk N scope tg t && ((slotsOf t).all fun i => own.contains i))) && (notSet iter && (chkE G N n (relS scope sc) ee elt && (match xs with
      | .nil => (match ifs with
        | [] => true
        | _ => false)
      | .cons x .nil => (match ifs with
        | [c] => chkT G N n (relS scope sc) x c
        | _ => false)
      | _ => false)))
/-- a source of a comprehension -/
def chkV (G : Gi) (N : List Str) : Nat → Scope → Itx → Expr → Expr → Bool
  | 0, _, _, _, _ => false
  | n + 1, sc, it, tg, iter => match it with
    | .val x => chkE G N n sc x iter
    | _ => chkI G N n sc it tg iter
def chkI (G : Gi) (N : List Str) : Nat → Scope → Itx → Expr → Expr → Bool
  | 0, _, _, _, _ => false
  | n + 1, sc, it, tg, iter => match it with
    | .val x => chkE G N n sc x iter
    | .rng (.cons x .nil) => (match iter with
      | .Call (.Name y _) [a] [] _ => (decide (y = ("range" : Str)) && (glB sc y && G.fre.contains y)) && (notStar a && chkE G N n sc x a)
      | _ => false)
    | .rng (.cons x (.cons z .nil)) => (match iter with
      | .Call (.Name y _) [a, b] [] _ => (decide (y = ("range" : Str)) && (glB sc y && G.fre.contains y)) && ((notStar a && notStar b) && (chkE G N n sc x a && chkE G N n sc z b))
      | _ => false)
    | .rng _ => false
    | .zip x z => (match iter with
      | .Call (.Name y _) [a, b] [] _ => (decide (y = ("zip" : Str)) && (glB sc y && G.fre.contains y)) && (((notStar a && notStar b) && (chkE G N n sc x a && chkE G N n sc z b)) && (match tg with
        | .Tuple _ _ _ => true
        | _ => false))
      | _ => false)
    | .enum x => (match iter with
      | .Call (.Name y _) [a] [] _ => (decide (y = ("enumerate" : Str)) && (glB sc y && G.fre.contains y)) && ((notStar a && chkE G N n sc x a) && (match tg with
        | .Tuple _ _ _ => true
        | _ => false))
      | _ => false)
end
end Ev
end
section
set_option Elab.async false
set_option linter.all false
set_option maxRecDepth 100000
set_option maxHeartbeats 4000000
/-! Ev: a checked expression does what ours does. -/
namespace Ev
open PySem PySem.Spec PyProof.Rows L2
/-- what a context has -/
structure XOk (X : Cx) (G : Gi) (C : Orc) (W : WX) (N : List Str) (sc : Scope) : Prop where
  calm : X.calm = true
  nn : X.N = N
  nd : N.Nodup
  scp : X.env.scope = sc
  kf : sc.kind = .function
  un : X.A.units + 65 < cLine
  tk : Takes X W
  fns : ∀ (i : Nat) (x : Str) (ps : List Str), G.fns[i]? = some (x, ps) → FnAt X G C i x ps
  fre : ∀ x ∈ G.fre, X.mg x = none
  bis : ∀ b ∈ G.bis, BiAt X.mg b
  con : ∀ (x : Str) (d : D), G.con.lookup x = some d → ∃ v u, X.mg x = some u ∧ RelV v u ∧ ∀ H as, Rep X.K H as d v
section
variable {X : Cx} {G : Gi} {C : Orc} {W : WX} {N : List Str} {sc : Scope} {x : Str}
theorem XOk.gl (o : XOk X G C W N sc) (h : glB sc x = true) : Gl X x ∧ (x == ("__debug__" : Str)) = false := by
  unfold glB at h
  simp only [Bool.and_eq_true, decide_eq_true_eq, Bool.not_eq_true'] at h
  exact ⟨by show X.env.scope.names.lookup x = _; rw [o.scp]; exact h.1, h.2⟩
theorem XOk.vis (o : XOk X G C W N sc) {i : Nat} (hN : N[i]? = some x) (h : visB sc x = true) : X.N[i]? = some x ∧ Vis X.env.scope x ∧ (x == ("__debug__" : Str)) = false ∧ (x == ("__classdict__" : Str)) = false := by
  unfold visB at h
  simp only [Bool.and_eq_true, decide_eq_true_eq, Bool.not_eq_true'] at h
  rw [o.nn, o.scp]
  exact ⟨hN, h.1, h.2.1, h.2.2⟩
theorem XOk.fn (o : XOk X G C W N sc) {f : Nat} (h : fnB G f x = true) : ∃ ps, FnAt X G C f x ps := by
  unfold fnB at h
  have h := of_decide_eq_true h
  cases q : G.fns[f]? with
  | none => rw [q] at h; cases h
  | some y =>
    obtain ⟨y1, y2⟩ := y
    rw [q] at h
    have e : y1 = x := by simpa using h
    rw [e] at q
    exact ⟨y2, o.fns f x y2 q⟩
theorem XOk.blk (o : XOk X G C W N sc) {scope : Scope} (hk : scope.kind = .function) (s : Shared) (H : Hp) (Cl : Addr) (cl : List (Str × Addr)) (fp : List Addr) : XOk (X.blk s H scope (compEnvC scope cl Cl X.env) fp) G C noW N (relS scope sc) where
  calm := o.calm
  nn := o.nn
  nd := o.nd
  scp := by
    rw [← o.scp]
    rfl
  kf := hk
  un := o.un
  tk := takes_none5
  fns := fun i x ps h => ⟨(o.fns i x ps h).ex, (o.fns i x ps h).len⟩
  fre := o.fre
  bis := o.bis
  con := o.con
theorem isNil_eq {xs : Exs} (h : isNil xs = true) : xs = .nil := by
  cases xs with
  | nil => rfl
  | _ => cases h
theorem nmP_snd {own : List Nat} : (nmP N own).map (·.2) = own := by
  unfold nmP
  rw [List.map_map]
  exact List.map_id own
end
structure Snd (G : Gi) (N : List Str) (n : Nat) : Prop where
  e : ∀ {X : Cx} {C : Orc} {W : WX} {sc : Scope}, XOk X G C W N sc → ∀ (x : Ex) (e : Expr), chkE G N n sc x e = true → PE X e (liftE G X.K C W x)
  t : ∀ {X : Cx} {C : Orc} {W : WX} {sc : Scope}, XOk X G C W N sc → ∀ (x : Ex) (e : Expr), chkT G N n sc x e = true → PT X e (liftT G X.K C W x)
  bo : ∀ {X : Cx} {C : Orc} {W : WX} {sc : Scope}, XOk X G C W N sc → ∀ (op : BoolOp) (x : Ex) (es : List Expr) (pos : Pos), chkBo G N n sc op x es = true → PE X (.BoolOp op es pos) (liftE G X.K C W x)
  bt : ∀ {X : Cx} {C : Orc} {W : WX} {sc : Scope}, XOk X G C W N sc → ∀ (op : BoolOp) (x : Ex) (es : List Expr) (pos : Pos), chkBt G N n sc op x es = true → PW X (.BoolOp op es pos) (liftT G X.K C W x)
  es : ∀ {X : Cx} {C : Orc} {W : WX} {sc : Scope}, XOk X G C W N sc → ∀ (xs : Exs) (es : List Expr), chkEs G N n sc xs es = true → PA X es (liftEs G X.K C W xs)
  p : ∀ {X : Cx} {C : Orc} {W : WX} {sc : Scope}, XOk X G C W N sc → ∀ (p : Pt) (o : Option Expr), chkP G N n sc p o = true → PO X o (liftP G X.K C W p)
  k : ∀ {X : Cx} {C : Orc} {W : WX} {sc : Scope}, XOk X G C W N sc → ∀ (xs : Exs) (kws : List Keyword) (ks : List Str), chkK G N n sc xs kws ks = true → PKs X kws ks (liftEs G X.K C W xs)
  d : ∀ {X : Cx} {C : Orc} {W : WX} {sc : Scope}, XOk X G C W N sc → ∀ (ks : List Str) (xs : Exs) (keys : List (Option Expr)) (values : List Expr) (pos : Pos), chkD G N n sc ks xs keys values = true → DPs X G C W pos keys values ks xs
  c : ∀ {X : Cx} {C : Orc} {W : WX} {sc : Scope}, XOk X G C W N sc → ∀ (ee : Ex) (t : Tg) (xs : Exs) (own : List Nat) (elt tg iter : Expr) (ifs : List Expr) (scope : Scope), chkC G N n sc ee t xs own elt tg iter ifs scope = true → CompOk X G C N elt tg iter ifs scope (nmP N own) ee t xs
  i : ∀ {X : Cx} {C : Orc} {W : WX} {sc : Scope}, XOk X G C W N sc → ∀ (it : Itx) (tg iter : Expr), chkI G N n sc it tg iter = true → PI X tg iter (liftI G X.K C W it)
  v : ∀ {X : Cx} {C : Orc} {W : WX} {sc : Scope}, XOk X G C W N sc → ∀ (it : Itx) (tg iter : Expr), chkV G N n sc it tg iter = true →
    (itVar it = false ∧ PI X tg iter (liftI G X.K C W it)) ∨ ∃ i, it = .val (.var i) ∧ PE X iter (liftE G X.K C W (.var i)) ∧ PE X iter (tVar i)
theorem snd_zero {G : Gi} {N : List Str} : Snd G N 0 where
  e := fun _ x e h => by cases h
  t := fun _ x e h => by cases h
  bo := fun _ op x es pos h => by cases h
  bt := fun _ op x es pos h => by cases h
  es := fun _ xs es h => by cases h
  p := fun _ p o h => by cases h
  k := fun _ xs kws ks h => by cases h
  d := fun _ ks xs keys values pos h => by cases h
  c := fun _ ee t xs own elt tg iter ifs scope h => by cases h
  i := fun _ it tg iter h => by cases h
  v := fun _ it tg iter h => by cases h
section
variable {X : Cx} {G : Gi} {C : Orc} {W : WX} {N : List Str} {sc : Scope} {n : Nat}
theorem chk_var {i : Nat} {e : Expr} (o : XOk X G C W N sc) (h : chkE G N (n + 1) sc (.var i) e = true) : PE X e (tVar i) := by
  unfold chkE at h
  dsimp only at h
  split at h
  · obtain ⟨h1, h2⟩ := Bool.and_eq_true_iff.mp h
    obtain ⟨a1, a2, a3, a4⟩ := o.vis (of_decide_eq_true h1) h2
    exact pe_var a1 a2 a3 a4
  · cases h
theorem snd_e (ih : Snd G N n) (o : XOk X G C W N sc) (x : Ex) (e : Expr) (h : chkE G N (n + 1) sc x e = true) : PE X e (liftE G X.K C W x) := by
  unfold chkE at h
  cases x with
  | var i =>
    dsimp only at h
    split at h
    · obtain ⟨h1, h2⟩ := Bool.and_eq_true_iff.mp h
      obtain ⟨a1, a2, a3, a4⟩ := o.vis (of_decide_eq_true h1) h2
      exact sy_var a1 a2 a3 a4
    · cases h
  | int i =>
    dsimp only at h
    split at h
    · rw [of_decide_eq_true h]; exact sy_int
    · cases h
  | str i =>
    dsimp only at h
    split at h
    · rw [of_decide_eq_true h]; exact sy_str
    · cases h
  | bl i =>
    dsimp only at h
    split at h
    · rw [of_decide_eq_true h]; exact sy_bl
    · cases h
  | non =>
    dsimp only at h
    split at h
    · exact sy_non
    · cases h
  | glo y d =>
    dsimp only at h
    split at h
    · simp only [Bool.and_eq_true, decide_eq_true_eq] at h
      obtain ⟨rfl, h2, h3⟩ := h
      split at h3
      · rename_i d' hd
        rw [dEq_ok _ _ h3]
        obtain ⟨g1, g2⟩ := o.gl h2
        obtain ⟨v, u, c1, c2, c3⟩ := o.con _ _ hd
        exact sy_glo g1 c1 c2 c3 g2
      · cases h3
    · cases h
  | bin op a b =>
    dsimp only at h
    split at h
    · simp only [Bool.and_eq_true, decide_eq_true_eq] at h
      obtain ⟨rfl, h2, h3⟩ := h
      exact sy_bin (ih.e o _ _ h2) (ih.e o _ _ h3)
    · cases h
  | neg a =>
    dsimp only at h
    split at h
    · exact sy_neg (ih.e o _ _ h)
    · cases h
  | nt a =>
    dsimp only at h
    split at h
    · exact sy_not (ih.e o _ _ h)
    · cases h
  | cmp op a b =>
    dsimp only at h
    split at h
    · simp only [Bool.and_eq_true, decide_eq_true_eq] at h
      obtain ⟨rfl, h1, h2, h3⟩ := h
      exact sy_cmp o.un h1 (ih.e o _ _ h2) (ih.e o _ _ h3)
    · cases h
  | chain op op2 a b c =>
    dsimp only at h
    split at h
    · simp only [Bool.and_eq_true, decide_eq_true_eq] at h
      obtain ⟨⟨rfl, rfl⟩, h1, h2, h3, h4⟩ := h
      exact sy_chain o.un h1 (ih.e o _ _ h2) (ih.e o _ _ h3) (ih.e o _ _ h4)
    · cases h
  | and a b =>
    dsimp only at h
    split at h
    · exact ih.bo o _ _ _ _ h
    · cases h
  | or a b =>
    dsimp only at h
    split at h
    · exact ih.bo o _ _ _ _ h
    · cases h
  | ife c a b =>
    dsimp only at h
    split at h
    · simp only [Bool.and_eq_true, decide_eq_true_eq] at h
      obtain ⟨h1, h2, h3⟩ := h
      exact sy_ife (ih.t o _ _ h1) (ih.e o _ _ h2) (ih.e o _ _ h3)
    · cases h
  | tup xs =>
    dsimp only at h
    split at h
    · exact sy_tup (ih.es o _ _ h)
    · cases h
  | lst xs =>
    dsimp only at h
    split at h
    · exact sy_lst (ih.es o _ _ h)
    · cases h
  | ix a i =>
    dsimp only at h
    split at h
    · simp only [Bool.and_eq_true, decide_eq_true_eq] at h
      obtain ⟨h1, h2, h3⟩ := h
      exact sy_ix (by have := o.un; omega) h1 (ih.e o _ _ h2) (ih.e o _ _ h3)
    · cases h
  | slc a lo hi =>
    dsimp only at h
    split at h
    · simp only [Bool.and_eq_true, decide_eq_true_eq] at h
      obtain ⟨h1, h2, h3⟩ := h
      exact sy_slc (ih.e o _ _ h1) (ih.p o _ _ h2) (ih.p o _ _ h3)
    · cases h
  | call f xs =>
    dsimp only at h
    split at h
    · simp only [Bool.and_eq_true, decide_eq_true_eq] at h
      obtain ⟨h1, h2, h3⟩ := h
      obtain ⟨g1, g2⟩ := o.gl h2
      rw [isNil_eq h1]
      exact sy_call0 (o.fns _ _ _ h3) o.tk g1 g2
    · simp only [Bool.and_eq_true, decide_eq_true_eq] at h
      obtain ⟨⟨h1, h2⟩, ⟨h3, h4⟩, h5⟩ := h
      obtain ⟨g1, g2⟩ := o.gl h1
      obtain ⟨ps, F⟩ := o.fn h2
      exact sy_call F o.tk g1 g2 h3 h4 (ih.es o _ _ h5)
    · cases h
  | callk f xs ks zs pm =>
    dsimp only at h
    split at h
    · simp only [Bool.and_eq_true, decide_eq_true_eq] at h
      obtain ⟨⟨h1, h2, h3⟩, h4, h5⟩ := h
      obtain ⟨g1, g2⟩ := o.gl h2
      obtain ⟨ps, F⟩ := o.fn h3
      rw [isNil_eq h1]
      exact sy_callk0 F h4 o.tk g1 g2 (ih.k o _ _ _ h5)
    · simp only [Bool.and_eq_true, decide_eq_true_eq] at h
      obtain ⟨⟨h1, h2⟩, ⟨h3, h4⟩, h5, h6, h7⟩ := h
      obtain ⟨g1, g2⟩ := o.gl h1
      obtain ⟨ps, F⟩ := o.fn h2
      exact sy_callk F h5 o.tk g1 g2 h3 h4 (ih.es o _ _ h6) (ih.k o _ _ _ h7)
    · cases h
  | bi b xs =>
    dsimp only at h
    split at h
    · simp only [Bool.and_eq_true, decide_eq_true_eq] at h
      obtain ⟨⟨rfl, h1, h2⟩, ⟨h3, h4⟩, h5⟩ := h
      obtain ⟨g1, g2⟩ := o.gl h1
      exact sy_bi o.calm g1 (o.bis _ (of_decide_eq_true h2)) h3 h4 (ih.es o _ _ h5)
    · cases h
  | isi a ts =>
    dsimp only at h
    split at h
    · simp only [Bool.and_eq_true, decide_eq_true_eq] at h
      obtain ⟨⟨rfl, h1, h2⟩, h3⟩ := h
      obtain ⟨g1, g2⟩ := o.gl h1
      split at h3
      · simp only [Bool.and_eq_true, decide_eq_true_eq] at h3
        obtain ⟨⟨h4, h5, h6, h7⟩, h8, h9⟩ := h3
        obtain ⟨g3, g4⟩ := o.gl h6
        exact sy_isi1 h4 h5 g1 (o.fre _ (by simpa using h2)) g3 (o.fre _ (by simpa using h7)) h8 (ih.e o _ _ h9)
      · cases h3
    · simp only [Bool.and_eq_true, decide_eq_true_eq] at h
      obtain ⟨⟨rfl, h1, h2⟩, ⟨h3, h4⟩, h5, h6⟩ := h
      obtain ⟨g1, g2⟩ := o.gl h1
      exact sy_isiT o.scp o.fre h3 h4 g1 (o.fre _ (by simpa using h2)) h5 (ih.e o _ _ h6)
    · cases h
  | meth m a xs =>
    dsimp only at h
    split at h
    · simp only [Bool.and_eq_true, decide_eq_true_eq] at h
      obtain ⟨⟨rfl, h1, h2⟩, h3, h4⟩ := h
      rw [isNil_eq h3]
      exact sy_meth0 h1 h2 (ih.e o _ _ h4)
    · simp only [Bool.and_eq_true, decide_eq_true_eq] at h
      obtain ⟨⟨rfl, h1, h2⟩, ⟨⟨h3, h4⟩, h5⟩, h6, h7⟩ := h
      exact sy_meth h1 h3 h4 h5 h2 (ih.e o _ _ h6) (ih.es o _ _ h7)
    · cases h
  | comp ee t it xs own =>
    dsimp only at h
    split at h
    · obtain ⟨h1, h2⟩ := Bool.and_eq_true_iff.mp h
      have cc := ih.c o _ _ _ _ _ _ _ _ _ h1
      rcases ih.v o _ _ _ h2 with ⟨h3, h4⟩ | ⟨i, h3, h4, h5⟩
      · have := sy_comp cc h4 h3 (pos := by assumption)
        rw [nmP_snd] at this
        exact this
      · subst h3
        have := sy_compV cc h4 h5 (pos := by assumption)
        rw [nmP_snd] at this
        exact this
    · cases h
  | dict ks xs =>
    dsimp only at h
    split at h
    · simp only [Bool.and_eq_true] at h
      obtain ⟨h1, h2⟩ := h
      rw [isNil_eq h2]
      cases ks with
      | nil => exact sy_dict0
      | cons _ _ => cases h1
    · simp only [Bool.and_eq_true, decide_eq_true_eq] at h
      obtain ⟨h1, ⟨h2, h3⟩, h4⟩ := h
      exact sy_dict (ih.d o _ _ _ _ _ h1) h2 h3 (by simp) h4
    · cases h
theorem snd_t (ih : Snd G N n) (o : XOk X G C W N sc) (x : Ex) (e : Expr) (h : chkT G N (n + 1) sc x e = true) : PT X e (liftT G X.K C W x) := by
  unfold chkT at h
  split at h
  · split at h
    · exact ty_not (ih.t o _ _ h)
    · cases h
  · exact (ih.bt o _ _ _ _ h).pt
  · split at h
    · simp only [Bool.and_eq_true, decide_eq_true_eq] at h
      obtain ⟨rfl, h1, h2, h3⟩ := h
      exact ty_cmp o.un h1 (ih.e o _ _ h2) (ih.e o _ _ h3)
    · cases h
  · split at h
    · simp only [Bool.and_eq_true, decide_eq_true_eq] at h
      obtain ⟨⟨rfl, rfl⟩, h1, h2, h3, h4⟩ := h
      exact ty_chain o.un h1 (ih.e o _ _ h2) (ih.e o _ _ h3) (ih.e o _ _ h4)
    · cases h
  · obtain ⟨h1, h2⟩ := Bool.and_eq_true_iff.mp h
    exact sy_test h1 (ih.e o _ _ h2)
theorem snd_bo (ih : Snd G N n) (o : XOk X G C W N sc) (op : BoolOp) (x : Ex) (es : List Expr) (pos : Pos) (h : chkBo G N (n + 1) sc op x es = true) : PE X (.BoolOp op es pos) (liftE G X.K C W x) := by
  unfold chkBo at h
  split at h
  · exact sy_one (ih.e o _ _ h)
  · split at h
    · obtain ⟨h1, h2⟩ := Bool.and_eq_true_iff.mp h
      exact sy_and (ih.e o _ _ h1) (ih.bo o _ _ _ _ h2)
    · obtain ⟨h1, h2⟩ := Bool.and_eq_true_iff.mp h
      exact sy_or (ih.e o _ _ h1) (ih.bo o _ _ _ _ h2)
    · cases h
  · cases h
theorem snd_bt (ih : Snd G N n) (o : XOk X G C W N sc) (op : BoolOp) (x : Ex) (es : List Expr) (pos : Pos) (h : chkBt G N (n + 1) sc op x es = true) : PW X (.BoolOp op es pos) (liftT G X.K C W x) := by
  unfold chkBt at h
  split at h
  · cases op with
    | And => exact ty_and1 (ih.t o _ _ h)
    | Or => exact ty_or1 (ih.t o _ _ h)
  · split at h
    · obtain ⟨h1, h2⟩ := Bool.and_eq_true_iff.mp h
      exact ty_and (ih.t o _ _ h1) (ih.bt o _ _ _ _ h2)
    · obtain ⟨h1, h2⟩ := Bool.and_eq_true_iff.mp h
      exact ty_or (ih.t o _ _ h1) (ih.bt o _ _ _ _ h2)
    · cases h
  · cases h
theorem snd_es (ih : Snd G N n) (o : XOk X G C W N sc) (xs : Exs) (es : List Expr) (h : chkEs G N (n + 1) sc xs es = true) : PA X es (liftEs G X.K C W xs) := by
  unfold chkEs at h
  cases xs with
  | nil =>
    dsimp only at h
    split at h
    · exact sa_nil
    · cases h
  | cons x xs =>
    dsimp only at h
    split at h
    · simp only [Bool.and_eq_true] at h
      obtain ⟨h1, h2, h3⟩ := h
      exact sa_cons h1 (ih.e o _ _ h2) (ih.es o _ _ h3)
    · cases h
  | star x xs =>
    dsimp only at h
    split at h
    · obtain ⟨h2, h3⟩ := Bool.and_eq_true_iff.mp h
      exact sa_star (ih.e o _ _ h2) (ih.es o _ _ h3)
    · cases h
theorem snd_p (ih : Snd G N n) (o : XOk X G C W N sc) (p : Pt) (oe : Option Expr) (h : chkP G N (n + 1) sc p oe = true) : PO X oe (liftP G X.K C W p) := by
  unfold chkP at h
  cases p with
  | no =>
    dsimp only at h
    split at h
    · exact sp_no
    · cases h
  | «at» x =>
    dsimp only at h
    split at h
    · exact sp_at (ih.e o _ _ h)
    · cases h
theorem snd_k (ih : Snd G N n) (o : XOk X G C W N sc) (xs : Exs) (kws : List Keyword) (ks : List Str) (h : chkK G N (n + 1) sc xs kws ks = true) : PKs X kws ks (liftEs G X.K C W xs) := by
  unfold chkK at h
  cases xs with
  | nil =>
    dsimp only at h
    split at h
    · exact sk_nil
    · cases h
  | cons x xs =>
    dsimp only at h
    split at h
    · simp only [Bool.and_eq_true, decide_eq_true_eq] at h
      obtain ⟨rfl, h2, h3⟩ := h
      exact sk_cons (ih.e o _ _ h2) (ih.k o _ _ _ h3)
    · cases h
  | star x xs => cases h
theorem snd_d (ih : Snd G N n) (o : XOk X G C W N sc) (ks : List Str) (xs : Exs) (keys : List (Option Expr)) (values : List Expr) (pos : Pos) (h : chkD G N (n + 1) sc ks xs keys values = true) : DPs X G C W pos keys values ks xs := by
  unfold chkD at h
  cases xs with
  | nil =>
    dsimp only at h
    split at h
    · exact dp_nil
    · cases h
  | cons x xs =>
    dsimp only at h
    split at h
    · simp only [Bool.and_eq_true, decide_eq_true_eq] at h
      obtain ⟨rfl, h2, h3⟩ := h
      exact dp_cons (ih.e o _ _ h2) (ih.d o _ _ _ _ _ h3)
    · cases h
  | star x xs => cases h
theorem snd_c (ih : Snd G N n) (o : XOk X G C W N sc) (ee : Ex) (t : Tg) (xs : Exs) (own : List Nat) (elt tg iter : Expr) (ifs : List Expr) (scope : Scope) (h : chkC G N (n + 1) sc ee t xs own elt tg iter ifs scope = true) : CompOk X G C N elt tg iter ifs scope (nmP N own) ee t xs := by
  unfold chkC at h
  simp only [Bool.and_eq_true] at h
  obtain ⟨⟨h1, h2, h3⟩, h4, h5, h6⟩ := h
  have ok : BlkOk N sc scope (nmP N own) := blkOk_by h1
  have xb := fun s H Cl cl fp => o.blk ok.kind s H Cl cl fp
  exact {
    calm := o.calm
    nn := o.nn
    nd := o.nd
    ok := by rw [o.nn, o.scp]; exact ok
    tg := h2
    sub := fun i hi => by
      rw [nmP_snd]
      have := List.all_eq_true.mp h3 i hi
      simpa using this
    ifs := fun s H Cl cl fp => by
      split at h6
      · split at h6
        · exact st_nil
        · cases h6
      · split at h6
        · exact st_one (ih.t (xb s H Cl cl fp) _ _ h6)
        · cases h6
      · cases h6
    elt := fun s H Cl cl fp => ih.e (xb s H Cl cl fp) _ _ h5
    folded := folded_not h4 }
theorem snd_i (ih : Snd G N n) (o : XOk X G C W N sc) (it : Itx) (tg iter : Expr) (h : chkI G N (n + 1) sc it tg iter = true) : PI X tg iter (liftI G X.K C W it) := by
  unfold chkI at h
  split at h
  · exact si_val (ih.e o _ _ h)
  · split at h
    · simp only [Bool.and_eq_true, decide_eq_true_eq] at h
      obtain ⟨⟨rfl, h1, h2⟩, h3, h4⟩ := h
      exact si_rng1 (o.gl h1).1 (o.fre _ (by simpa using h2)) h3 (ih.e o _ _ h4)
    · cases h
  · split at h
    · simp only [Bool.and_eq_true, decide_eq_true_eq] at h
      obtain ⟨⟨rfl, h1, h2⟩, ⟨h3, h4⟩, h5, h6⟩ := h
      exact si_rng2 (o.gl h1).1 (o.fre _ (by simpa using h2)) h3 h4 (ih.e o _ _ h5) (ih.e o _ _ h6)
    · cases h
  · cases h
  · split at h
    · simp only [Bool.and_eq_true, decide_eq_true_eq] at h
      obtain ⟨⟨rfl, h1, h2⟩, ⟨⟨h3, h4⟩, h5, h6⟩, h7⟩ := h
      split at h7
      · exact si_zip (o.gl h1).1 (o.fre _ (by simpa using h2)) h3 h4 (ih.e o _ _ h5) (ih.e o _ _ h6)
      · cases h7
    · cases h
  · split at h
    · simp only [Bool.and_eq_true, decide_eq_true_eq] at h
      obtain ⟨⟨rfl, h1, h2⟩, ⟨h3, h4⟩, h7⟩ := h
      split at h7
      · exact si_enum (o.gl h1).1 (o.fre _ (by simpa using h2)) h3 (ih.e o _ _ h4)
      · cases h7
    · cases h
theorem snd_v (ihn : ∀ m, n = m + 1 → Snd G N m) (ih : Snd G N n) (o : XOk X G C W N sc) (it : Itx) (tg iter : Expr) (h : chkV G N (n + 1) sc it tg iter = true) :
    (itVar it = false ∧ PI X tg iter (liftI G X.K C W it)) ∨ ∃ i, it = .val (.var i) ∧ PE X iter (liftE G X.K C W (.var i)) ∧ PE X iter (tVar i) := by
  unfold chkV at h
  cases it with
  | val x =>
    dsimp only at h
    by_cases hv : isVar x = true
    · cases x with
      | var i =>
        refine .inr ⟨i, rfl, ih.e o _ _ h, ?_⟩
        cases n with
        | zero => cases h
        | succ m => exact chk_var o h
      | _ => cases hv
    · have hv : isVar x = false := by simpa using hv
      exact .inl ⟨hv, si_val (ih.e o _ _ h)⟩
  | rng xs => exact .inl ⟨rfl, ih.i o _ _ _ h⟩
  | zip a b => exact .inl ⟨rfl, ih.i o _ _ _ h⟩
  | enum a => exact .inl ⟨rfl, ih.i o _ _ _ h⟩
end
theorem snd (G : Gi) (N : List Str) : ∀ n, Snd G N n
  | 0 => snd_zero
  | n + 1 =>
    have ih := snd G N n
    { e := fun o x e h => snd_e ih o x e h
      t := fun o x e h => snd_t ih o x e h
      bo := fun o op x es pos h => snd_bo ih o op x es pos h
      bt := fun o op x es pos h => snd_bt ih o op x es pos h
      es := fun o xs es h => snd_es ih o xs es h
      p := fun o p oe h => snd_p ih o p oe h
      k := fun o xs kws ks h => snd_k ih o xs kws ks h
      d := fun o ks xs keys values pos h => snd_d ih o ks xs keys values pos h
      c := fun o ee t xs own elt tg iter ifs scope h => snd_c ih o ee t xs own elt tg iter ifs scope h
      i := fun o it tg iter h => snd_i ih o it tg iter h
      v := fun o it tg iter h => snd_v (fun m e => by subst e; exact snd G N m) ih o it tg iter h }
end Ev
end
section
set_option Elab.async false
set_option linter.all false
set_option maxRecDepth 100000
set_option maxHeartbeats 4000000
/-! Ev: statements, checked. -/
namespace Ev
open PySem PySem.Spec PyProof.Rows L2
def stB (N : List Str) (sc : Scope) (i : Nat) (y : Str) : Bool := decide (N[i]? = some y) && decide (sc.names.lookup y = some .local ∨ sc.names.lookup y = some .cell)
def locB (N : List Str) (sc : Scope) (i : Nat) (y : Str) : Bool := decide (N[i]? = some y) && decide (sc.names.lookup y = some .local)
mutual
def chkS (G : Gi) (sub : Nat → Nat → Bool) (N : List Str) (sc : Scope) : Nat → Ev.St → Stmt → Bool
  | 0, _, _ => false
  | n + 1, st, s => match st with
    | .skip => (match s with
      | .Pass _ => true
      | _ => false)
    | .seq _ _ => false
    | .set i e => (match s with
      | .Assign [.Name y p] (.ListComp elt [⟨tg, iter, ifs, 0⟩] scope p2) _ => (match e with
        | .comp ee t it xs own => if swB sc y p (.ListComp elt [⟨tg, iter, ifs, 0⟩] scope p2) = true then locB N sc i y && (chkC G N n sc ee t xs own elt tg iter ifs scope && chkV G N n sc it tg iter)
          else stB N sc i y && chkE G N n sc e (.ListComp elt [⟨tg, iter, ifs, 0⟩] scope p2)
        | _ => false)
      | .Assign [.Name y p] a _ => stB N sc i y && (notLc a && chkE G N n sc e a)
      | _ => false)
    | .tset l e => (match s with
      | .Assign [.Tuple es _ _] (.ListComp elt gs scope p2) _ => nmsOk N sc es l && chkE G N n sc e (.ListComp elt gs scope p2)
      | .Assign [.Tuple es _ _] a _ => nmsOk N sc es l && ((notLc a && notTupE a) && chkE G N n sc e a)
      | _ => false)
    | .par l xs => (match s with
      | .Assign [.Tuple ts _ _] (.Tuple vs _ _) _ => chkEs G N n sc xs vs && (match swP sc ts vs with
        | some none => nmsOk N sc ts l && decide (l.length ≤ 1000)
        | some (some ns) => (match ts, vs, l with
          | [.Name x _, .Name y _], [_, _], [i, j] => (decide (ns = [x, y]) && decide (i ≠ j)) && (locB N sc i x && locB N sc j y)
          | [.Name x _, .Name y _, .Name z _], [_, _, _], [i, j, k] => (decide (ns = [x, y, z]) && (decide (i ≠ j) && (decide (i ≠ k) && decide (j ≠ k)))) && (locB N sc i x && (locB N sc j y && locB N sc k z))
          | _, _, _ => false)
        | none => false)
      | _ => false)
    | .iset o i e => (match s with
      | .Assign [.Subscript b c _] a _ => ((notSlice c && notLc a) && notTupE a) && (chkE G N n sc e a && (chkE G N n sc o b && chkE G N n sc i c))
      | _ => false)
    | .expr e => (match s with
      | .Expr a _ => notLc a && chkE G N n sc e a
      | _ => false)
    | .ret e => (match s with
      | .Return (some a) _ => chkE G N n sc e a
      | _ => false)
    | .retN => (match s with
      | .Return none _ => true
      | _ => false)
    | .ite c s1 s2 => (match s with
      | .If ec a b _ => chkT G N n sc c ec && (chkSs G sub N sc n s1 a && chkSs G sub N sc n s2 b)
      | _ => false)
    | .loop t it s1 => (match s with
      | .For tg iter body [] _ => (tgOk N sc tg t && notSet iter) && (chkI G N n sc it tg iter && chkSs G sub N sc n s1 body)
      | _ => false)
    | .brk => (match s with
      | .Break _ => true
      | _ => false)
    | .cnt => (match s with
      | .Continue _ => true
      | _ => false)
    | .raise c xs => (match s with
      | .Raise (some (.Call (.Name x _) [] [] _)) none _ => (glB sc x && isNil xs) && decide (G.cls[c]? = some (x, []))
      | .Raise (some (.Call (.Name x _) (e1 :: es) [] _)) none _ => (glB sc x && (match G.cls[c]? with
        | some (y, ns) => (decide (y = x) && decide (ns ≠ [])) && (decide (exLen xs = ns.length) && decide (ns.length ≤ 5))
        | none => false)) && ((notStar e1 && allPlain es) && chkEs G N n sc xs (e1 :: es))
      | _ => false)
    | .tri s1 hs => (match s with
      | .Try body (h₀ :: hds) [] [] _ => chkSs G sub N sc n s1 body && hdsOk G sub N sc (h₀ :: hds) hs
      | _ => false)
def chkSs (G : Gi) (sub : Nat → Nat → Bool) (N : List Str) (sc : Scope) : Nat → Ev.St → List Stmt → Bool
  | 0, _, _ => false
  | n + 1, st, l => match l with
    | [] => (match st with
      | .skip => true
      | _ => false)
    | [s] => chkS G sub N sc n st s
    | s :: s2 :: rest => (match st with
      | .seq a b => chkS G sub N sc n a s && chkSs G sub N sc n b (s2 :: rest)
      | _ => false)
end
/-- what a def's context has -/
structure SOk (X : Cx) (G : Gi) (C : Orc) (sub : Nat → Nat → Bool) (W : WX) (N : List Str) (sc : Scope) : Prop where
  x : XOk X G C W N sc
  st : X.stack = X.env :: X.outer
  fr : X.env.frame = some X.env.locals
  po : PassesOwn (model X.prog X.w) X.A X.env X.xe
  lo : LocAt X sc
  cl : ∀ (c : Nat) (x : Str) (ns : List Str), G.cls[c]? = some (x, ns) → ClAt X x ns
  sb : SubAt X G sub
section
variable {X : Cx} {G : Gi} {C : Orc} {sub : Nat → Nat → Bool} {W : WX} {N : List Str} {sc : Scope} {n : Nat}
theorem SOk.tr (o : SOk X G C sub W N sc) {W' : WX} {pn : List (Addr × Obj)} {xe : Value → Shared → Prop} (tk : Takes (X.tr pn xe) W') (po : PassesOwn (model X.prog X.w) X.A X.env xe) : SOk (X.tr pn xe) G C sub W' N sc where
  x := {
    calm := o.x.calm
    nn := o.x.nn
    nd := o.x.nd
    scp := o.x.scp
    kf := o.x.kf
    un := o.x.un
    tk := tk
    fns := fun i x ps h => ⟨(o.x.fns i x ps h).ex, (o.x.fns i x ps h).len⟩
    fre := o.x.fre
    bis := o.x.bis
    con := o.x.con }
  st := o.st
  fr := o.fr
  po := po
  lo := o.lo
  cl := fun c x ns h => ⟨(o.cl c x ns h).mg, (o.cl c x ns h).make⟩
  sb := ⟨o.sb.is⟩
theorem stB_ok {i : Nat} {y : Str} (h : stB N sc i y = true) : N[i]? = some y ∧ (sc.names.lookup y = some .local ∨ sc.names.lookup y = some .cell) := by
  unfold stB at h
  simpa using h
theorem locB_ok {i : Nat} {y : Str} (h : locB N sc i y = true) : N[i]? = some y ∧ sc.names.lookup y = some .local := by
  unfold locB at h
  simpa using h
structure SndS (G : Gi) (sub : Nat → Nat → Bool) (N : List Str) (sc : Scope) (n : Nat) : Prop where
  s : ∀ {X : Cx} {C : Orc} {W : WX}, SOk X G C sub W N sc → ∀ (st : Ev.St) (s : Stmt), chkS G sub N sc n st s = true → PS X s (liftS G X.K C sub W st)
  l : ∀ {X : Cx} {C : Orc} {W : WX}, SOk X G C sub W N sc → ∀ (st : Ev.St) (l : List Stmt), chkSs G sub N sc n st l = true → PSs X l (liftS G X.K C sub W st)
theorem snd_ss (ih : SndS G sub N sc n) (o : SOk X G C sub W N sc) (st : Ev.St) (l : List Stmt) (h : chkSs G sub N sc (n + 1) st l = true) : PSs X l (liftS G X.K C sub W st) := by
  unfold chkSs at h
  split at h
  · split at h
    · exact sl_nil
    · cases h
  · exact sl_one (ih.s o _ _ h)
  · split at h
    · obtain ⟨h1, h2⟩ := Bool.and_eq_true_iff.mp h
      exact sl_cons (ih.s o _ _ h1) (ih.l o _ _ h2)
    · cases h
theorem snd_s (ih : SndS G sub N sc n) (o : SOk X G C sub W N sc) (st : Ev.St) (s : Stmt) (h : chkS G sub N sc (n + 1) st s = true) : PS X s (liftS G X.K C sub W st) := by
  have E := snd G N n
  have kf : X.env.scope.kind = .function := by rw [o.x.scp]; exact o.x.kf
  unfold chkS at h
  cases st with
  | skip =>
    dsimp only at h
    split at h
    · exact ss_pass
    · cases h
  | seq _ _ => cases h
  | set i e =>
    dsimp only at h
    split at h
    · rename_i y p elt tg iter ifs scope p2 p3
      split at h
      · rename_i ee t it xs own
        have sw : ∀ r, swB sc y p (.ListComp elt [⟨tg, iter, ifs, 0⟩] scope p2) = r → swapsWith (.ListComp elt [⟨tg, iter, ifs, 0⟩] scope p2) (some (.Name y p)) p3.line X.env = pure r := fun r hr => by
          rw [sw_list o.x.scp o.x.kf, hr]
        split at h
        · rename_i hsw
          simp only [Bool.and_eq_true] at h
          obtain ⟨h1, h2, h3⟩ := h
          obtain ⟨l1, l2⟩ := locB_ok h1
          have cc := E.c o.x _ _ _ _ _ _ _ _ _ h2
          have l3 : X.env.scope.names.lookup y = some .local := by rw [o.x.scp]; exact l2
          rcases E.v o.x _ _ _ h3 with ⟨v1, v2⟩ | ⟨j, v1, v2, v3⟩
          · have := ss_setLc (sub := sub) cc v2 v1 l1 l3 (sw _ hsw)
            rw [nmP_snd] at this
            exact this
          · subst v1
            have := ss_setLcV (sub := sub) cc v2 v3 l1 l3 (sw _ hsw)
            rw [nmP_snd] at this
            exact this
        · rename_i hsw
          obtain ⟨h1, h2⟩ := Bool.and_eq_true_iff.mp h
          obtain ⟨l1, l2⟩ := stB_ok h1
          exact ss_set o.x.nn o.x.nd o.lo l1 l2 (E.e o.x _ _ h2) (sw _ (by simpa using hsw))
      · cases h
    · simp only [Bool.and_eq_true] at h
      obtain ⟨h1, h2, h3⟩ := h
      obtain ⟨l1, l2⟩ := stB_ok h1
      exact ss_set o.x.nn o.x.nd o.lo l1 l2 (E.e o.x _ _ h3) (sw_not h2)
    · cases h
  | tset l e =>
    dsimp only at h
    split at h
    · obtain ⟨h1, h2⟩ := Bool.and_eq_true_iff.mp h
      exact ss_tsetC o.x.calm o.x.nn o.x.nd o.lo h1 (E.e o.x _ _ h2)
    · simp only [Bool.and_eq_true] at h
      obtain ⟨h1, ⟨h2, h3⟩, h4⟩ := h
      exact ss_tset o.x.calm o.x.nn o.x.nd o.lo h1 h2 h3 (E.e o.x _ _ h4)
    · cases h
  | par l xs =>
    dsimp only at h
    split at h
    · obtain ⟨h1, h2⟩ := Bool.and_eq_true_iff.mp h
      have A := E.es o.x _ _ h1
      split at h2
      · rename_i hw
        obtain ⟨h3, h4⟩ := Bool.and_eq_true_iff.mp h2
        exact ss_parN o.x.calm o.x.nn o.x.nd o.lo kf h3 (of_decide_eq_true h4) (by rw [o.x.scp]; exact hw) A
      · rename_i hw
        split at h2
        · simp only [Bool.and_eq_true, decide_eq_true_eq] at h2
          obtain ⟨⟨rfl, h3⟩, h4, h5⟩ := h2
          obtain ⟨a1, a2⟩ := locB_ok h4
          obtain ⟨b1, b2⟩ := locB_ok h5
          exact ss_par2 o.x.calm o.x.nn o.x.nd kf a1 b1 h3 (by rw [o.x.scp]; exact a2) (by rw [o.x.scp]; exact b2) (by rw [o.x.scp]; exact hw) A
        · simp only [Bool.and_eq_true, decide_eq_true_eq] at h2
          obtain ⟨⟨rfl, h3, h3', h3''⟩, h4, h5, h6⟩ := h2
          obtain ⟨a1, a2⟩ := locB_ok h4
          obtain ⟨b1, b2⟩ := locB_ok h5
          obtain ⟨c1, c2⟩ := locB_ok h6
          exact ss_par3 o.x.calm o.x.nn o.x.nd kf a1 b1 c1 h3 h3' h3'' (by rw [o.x.scp]; exact a2) (by rw [o.x.scp]; exact b2) (by rw [o.x.scp]; exact c2) (by rw [o.x.scp]; exact hw) A
        · cases h2
      · cases h2
    · cases h
  | iset a i e =>
    dsimp only at h
    split at h
    · simp only [Bool.and_eq_true] at h
      obtain ⟨⟨⟨h1, h2⟩, h3⟩, h4, h5, h6⟩ := h
      exact ss_iset (by have := o.x.un; omega) h1 h2 h3 (E.e o.x _ _ h4) (E.e o.x _ _ h5) (E.e o.x _ _ h6)
    · cases h
  | expr e =>
    dsimp only at h
    split at h
    · obtain ⟨h1, h2⟩ := Bool.and_eq_true_iff.mp h
      exact ss_expr h1 (E.e o.x _ _ h2)
    · cases h
  | ret e =>
    dsimp only at h
    split at h
    · exact ss_ret (E.e o.x _ _ h)
    · cases h
  | retN =>
    dsimp only at h
    split at h
    · exact ss_retN
    · cases h
  | ite c s1 s2 =>
    dsimp only at h
    split at h
    · simp only [Bool.and_eq_true] at h
      obtain ⟨h1, h2, h3⟩ := h
      exact ss_ite (E.t o.x _ _ h1) (ih.l o _ _ h2) (ih.l o _ _ h3)
    · cases h
  | loop t it s1 =>
    dsimp only at h
    split at h
    · simp only [Bool.and_eq_true] at h
      obtain ⟨⟨h1, h2⟩, h3, h4⟩ := h
      exact ss_for o.po o.x.calm o.x.nn o.x.nd o.lo h1 (E.i o.x _ _ _ h3) (folded_not h2) (ih.l o _ _ h4)
    · cases h
  | brk =>
    dsimp only at h
    split at h
    · exact ss_brk
    · cases h
  | cnt =>
    dsimp only at h
    split at h
    · exact ss_cnt
    · cases h
  | raise c xs =>
    dsimp only at h
    split at h
    · simp only [Bool.and_eq_true, decide_eq_true_eq] at h
      obtain ⟨⟨h1, h2⟩, h3⟩ := h
      obtain ⟨g1, g2⟩ := o.x.gl h1
      rw [isNil_eq h2]
      exact ss_raise0 o.x.calm o.x.tk (o.cl _ _ _ h3) h3 g1 g2
    · simp only [Bool.and_eq_true] at h
      obtain ⟨⟨h1, h2⟩, ⟨h3, h4⟩, h5⟩ := h
      obtain ⟨g1, g2⟩ := o.x.gl h1
      split at h2
      · rename_i y ns hc
        simp only [Bool.and_eq_true, decide_eq_true_eq] at h2
        obtain ⟨⟨rfl, h6⟩, h7, h8⟩ := h2
        exact ss_raise o.x.calm o.x.tk (o.cl _ _ _ hc) h6 hc g1 g2 h7 h8 h3 h4 (E.es o.x _ _ h5)
      · cases h2
    · cases h
  | tri s1 hs =>
    dsimp only at h
    split at h
    · obtain ⟨h1, h2⟩ := Bool.and_eq_true_iff.mp h
      exact ss_try o.st o.fr o.x.nn o.x.nd o.x.scp o.x.tk o.cl o.sb h2 fun W' pn xe tk po => ih.l (o.tr tk po) _ _ h1
    · cases h
end
theorem sndS (G : Gi) (sub : Nat → Nat → Bool) (N : List Str) (sc : Scope) : ∀ n, SndS G sub N sc n
  | 0 => ⟨fun _ st s h => (by cases h), fun _ st l h => (by cases h)⟩
  | n + 1 =>
    have ih := sndS G sub N sc n
    ⟨fun o st s h => snd_s ih o st s h, fun o st l h => snd_ss ih o st l h⟩
end Ev
end
section
set_option Elab.async false
set_option linter.all false
set_option maxRecDepth 100000
set_option maxHeartbeats 4000000
/-! Ev: the defs of a module, each by its checked body. -/
namespace Ev
open PySem PySem.Spec PyProof.Rows L2
/-- a def: as the text has it, its parameters, its names, ours -/
structure Df where
  d : He.DefD
  ps : List Str
  N : List Str
  fn : Fn
def fnScB (N ps : List Str) (sc : Scope) : Bool :=
  (match sc.kind with
    | .function => true
    | _ => false) && ((!sc.isCoroutine && !sc.isGenerator) && ((decide N.Nodup && decide (N.take ps.length = ps)) && ((ps.all fun x => decide (sc.names.lookup x = some .local ∨ sc.names.lookup x = some .cell)) && (sc.names.all fun y => match y.2 with
      | .free => false
      | _ => true))))
theorem fnScB_ok {N ps : List Str} {sc : Scope} (h : fnScB N ps sc = true) : FnScope N ps sc := by
  unfold fnScB at h
  simp only [Bool.and_eq_true, decide_eq_true_eq, Bool.not_eq_true', List.all_eq_true] at h
  obtain ⟨h1, ⟨h2, h3⟩, ⟨h4, h5⟩, h6, h7⟩ := h
  refine ⟨?_, h2, h3, h4, h5, h6, fun y hy e => ?_⟩
  · split at h1
    · assumption
    · cases h1
  · have := h7 y hy
    rw [e] at this
    cases this
def dfB (G : Gi) (sub : Nat → Nat → Bool) (x : Df) : Bool := fnScB x.N x.ps x.d.scope && ((decide (x.fn.ps = x.ps.length) && decide (x.fn.sl = x.N.length)) && chkSs G sub x.N x.d.scope 100 x.fn.body x.d.body)
/-- an error class, as the module has it -/
structure ClM (P : Program) (w : World) (K : PySem.W.Frag) (mg : Str → Option Value) (base : Heap) (x : Str) (ns : List Str) : Prop where
  at_ : mg x = some (.ref (He.ga K x))
  make : (ns = [] ∧ PySem.W.excIn K (He.ga K x) He.veBase "ValueError.__new__" = true ∧ PySem.W.keepIn K (.ref (He.ga K x)) = true ∧ PySem.W.subIn K (.ref (He.ga K x)) (.type "BaseException") = some true ∧ PySem.W.typeIn K (.ref (He.ga K x)) = some (.type "type")) ∨
    (ns ≠ [] ∧ OexC K (He.ga K x) ∧ XfC K (He.ga K x) ∧ (∀ n ∈ ns, PySem.W.findIn K (.ref (He.ga K x)) n = some none) ∧ ns.Nodup ∧
      ∃ fI fd, PySem.W.findIn K (.ref (He.ga K x)) "__init__" = some (some (.ref fI)) ∧ PySem.W.typeIn K (.ref fI) = some (.type "function") ∧ Binds K fd ("self" :: ns) [] ∧
        FnOk P w K mg base (L2.CX P w) 1 fI fd ("self" :: ns) (spInit K (He.ga K x) ns))
/-- a module -/
structure Mo (P : Program) (w : World) (K : PySem.W.Frag) (mg : Str → Option Value) (base : Heap) (G : Gi) (sub : Nat → Nat → Bool) (L : List Df) : Prop where
  gf : G.fns = L.map fun d => (d.d.name, d.ps)
  fns : ∀ (i : Nat) (df : Df), L[i]? = some df → mg df.d.name = some (.ref (He.ga K df.d.name)) ∧ dfB G sub df = true ∧ ∃ fd, FunD K df.d.name df.d.qual df.d.params df.d.body df.d.scope [] [] (He.ga K df.d.name) fd ∧ Binds K fd df.ps [] ∧
    ∀ (n : Nat) (ks : List Str) (pm : List Nat), (i, n, ks, pm) ∈ G.kws → KBinds K fd df.ps ks (kwG .none n ks.length pm) (kwG .non n ks.length pm)
  fre : ∀ x ∈ G.fre, mg x = none
  bis : ∀ b ∈ G.bis, BiAt mg b
  con : ∀ (x : Str) (d : D), G.con.lookup x = some d → ∃ v u, mg x = some u ∧ RelV v u ∧ ∀ H as, Rep K H as d v
  cl : ∀ (c : Nat) (x : Str) (ns : List Str), G.cls[c]? = some (x, ns) → ClM P w K mg base x ns
  sb : ∀ (c k : Nat) (x y : Str) (ns ms : List Str), G.cls[c]? = some (x, ns) → G.cls[k]? = some (y, ms) → PySem.W.exmOne K (.ref (He.ga K x)) (.ref (He.ga K y)) = some (sub c k)
theorem run_len {sub : Nat → Nat → Bool} {T : List Fn} : ∀ {n f : Nat} {ds : List D} {S : Sto} {Q : Po} {E : Xo}, run sub T n f ds S Q E → ∃ fn, T[f]? = some fn ∧ ds.length = fn.ps
  | 0, _, _, _, _, _, h => h.elim
  | _ + 1, _, _, _, _, _, ⟨fn, h1, h2, _⟩ => ⟨fn, h1, h2⟩
theorem begin_rel {K : PySem.W.Frag} {H : Hp} {as : List Addr} {fn : Fn} {N : List Str} (hN : fn.sl = N.length) {ds : List D} {vs : List V} (r : Reps K H as ds vs) : RelE K H as (begin_ fn ds) (L2.start N vs) := by
  unfold begin_ L2.start
  rw [hN, r.length]
  refine ⟨by simp [r.length], fun i d e => ?_⟩
  by_cases hi : i < ds.length
  · rw [List.getElem?_append_left (by simpa using hi), List.getElem?_map] at e
    cases q : ds[i]? with
    | none => rw [q] at e; cases e
    | some d' =>
      rw [q] at e
      have e1 : d' = d := by simpa using e
      subst e1
      obtain ⟨v, hv, rv⟩ := r.get q
      refine ⟨v, ?_, rv⟩
      rw [List.getElem?_append_left (by rw [List.length_map, ← r.length]; exact hi), List.getElem?_map, hv]
      rfl
  · rw [List.getElem?_append_right (by simpa using hi), List.getElem?_replicate] at e
    split at e <;> cases e
section
variable {P : Program} {w : World} {K : PySem.W.Frag} {mg : Str → Option Value} {base : Heap} {G : Gi} {sub : Nat → Nat → Bool} {L : List Df}
theorem Mo.clAt (m : Mo P w K mg base G sub L) {X : Cx} (hP : X.prog = P) (hw : X.w = w) (hK : X.K = K) (hm : X.mg = mg) (hb : X.base = base) (hr : Room 2 X.A) (c : Nat) (x : Str) (ns : List Str) (h : G.cls[c]? = some (x, ns)) : ClAt X x ns := by
  subst hP hw hK hm hb
  obtain ⟨h1, h2⟩ := m.cl c x ns h
  refine ⟨h1, ?_⟩
  rcases h2 with ⟨a1, a2, a3, a4, a5⟩ | ⟨a1, a2, a3, a4, a5, fI, fd, b1, b2, b3, b4⟩
  · exact .inl ⟨a1, a2, a3, raises_own a4 a5⟩
  · exact .inr ⟨a1, a2, a3, a4, a5, fI, fd, 1, b1, b2, hr, b3, b4⟩
theorem Mo.fnAt (m : Mo P w K mg base G sub L) {n k : Nat} (ih : ∀ (i : Nat) (df : Df) (fd : FuncData), L[i]? = some df → FunD K df.d.name df.d.qual df.d.params df.d.body df.d.scope [] [] (He.ga K df.d.name) fd → FnOk P w K mg base (L2.CX P w) k (He.ga K df.d.name) fd df.ps (spOf G K (run sub (L.map (·.fn)) n) i df.ps.length))
    {X : Cx} (hP : X.prog = P) (hw : X.w = w) (hK : X.K = K) (hm : X.mg = mg) (hb : X.base = base) (hr : Room k X.A) (i : Nat) (x : Str) (ps : List Str) (h : G.fns[i]? = some (x, ps)) : FnAt X G (run sub (L.map (·.fn)) n) i x ps := by
  subst hP hw hK hm hb
  rw [m.gf, List.getElem?_map] at h
  cases q : L[i]? with
  | none => rw [q] at h; cases h
  | some df =>
    rw [q] at h
    have e : (df.d.name, df.ps) = (x, ps) := by simpa using h
    injection e with e1 e2
    subst e1
    subst e2
    obtain ⟨g1, g2, fd, F, b1, b2⟩ := m.fns i df q
    refine ⟨⟨_, fd, k, g1, F.kp, b1, hr, ih i df fd q F, b2⟩, fun ds S Q E hc => ?_⟩
    obtain ⟨fn, h1, h2⟩ := run_len hc
    rw [List.getElem?_map, q] at h1
    have e : df.fn = fn := by simpa using h1
    subst e
    unfold dfB at g2
    simp only [Bool.and_eq_true, decide_eq_true_eq] at g2
    rw [h2, g2.2.1.1]
theorem Mo.table (m : Mo P w K mg base G sub L) : ∀ (n : Nat) (i : Nat) (df : Df) (fd : FuncData), L[i]? = some df → FunD K df.d.name df.d.qual df.d.params df.d.body df.d.scope [] [] (He.ga K df.d.name) fd →
    FnOk P w K mg base (L2.CX P w) (n + 3) (He.ga K df.d.name) fd df.ps (spOf G K (run sub (L.map (·.fn)) n) i df.ps.length)
  | 0, i, df, fd, h, F => ⟨fun vs H Q E ⟨_, _, _, _, _, _, _, _, z, _⟩ => z.elim, fun _ _ _ _ _ _ _ _ _ _ _ _ _ ⟨_, _, _, _, _, _, _, _, z, _⟩ => z.elim⟩
  | n + 1, i, df, fd, h, F => by
    have ih := Mo.table m n
    obtain ⟨_, hB, _⟩ := m.fns i df h
    unfold dfB at hB
    simp only [Bool.and_eq_true, decide_eq_true_eq] at hB
    obtain ⟨hs, ⟨hp, hl⟩, hc⟩ := hB
    have S := fnScB_ok hs
    refine F.ok (k := n + 3) S (fun vs H Q E q => q.choose_spec.choose_spec.choose_spec.choose_spec.choose_spec.1) fun cdv A outer s H vs Q E hr hsp => ?_
    obtain ⟨as, St, ds, Qp, Ep, hvl, sim, r, hrun, iq, ie⟩ := hsp
    obtain ⟨fn, h1, h2, hw⟩ := hrun
    rw [List.getElem?_map, h] at h1
    have e : df.fn = fn := by simpa using h1
    subst e
    have so : SOk (cxOf (L2.CX P w) P w K mg base df.N df.d.qual df.d.scope (He.ga K df.d.name) cdv A outer s H E) G (run sub (L.map (·.fn)) n) sub (fun cls d _ H => E cls d H) df.N df.d.scope := {
      x := {
        calm := rfl
        nn := rfl
        nd := S.nd
        scp := rfl
        kf := S.kind
        un := by
          have := hr.un
          show (A.deeper _).units + 65 < cLine
          omega
        tk := takes_of rfl rfl rfl rfl
        fns := fun i x ps hx => m.fnAt ih rfl rfl rfl rfl rfl hr i x ps hx
        fre := m.fre
        bis := m.bis
        con := m.con }
      st := rfl
      fr := rfl
      po := passes_of rfl
      lo := fun x hx => ⟨hx, .inl rfl⟩
      cl := fun c x ns hx => m.clAt rfl rfl rfl rfl rfl (hr.mono (by omega)) c x ns hx
      sb := ⟨m.sb⟩ }
    refine ⟨_, (sndS G sub df.N df.d.scope 100).l so _ _ hc, as, begin_ df.fn ds, St, _, sim, begin_rel hl r, hw, ?_⟩
    exact ⟨fun env' S' as' σ' H' x s' _ q => iq _ _ _ _ _ x s' .non q, iq, fun _ _ _ _ _ _ _ _ q => q.elim, fun _ _ _ _ _ _ _ _ q => q.elim, fun σ' => ie⟩
end
end Ev
end
section
set_option Elab.async false
set_option linter.all false
set_option maxRecDepth 100000
set_option maxHeartbeats 4000000
/-! Ev: a module behind its top, by facts. -/
namespace Ev
open PySem PySem.Spec PyProof.Rows L2
/-- a class with fields -/
structure Ic where
  x : Str
  ns : List Str
  d : He.DefD
def icB (i : Ic) : Bool := (fnScB ("self" :: i.ns) ("self" :: i.ns) i.d.scope && (initOk i.ns i.d.body && decide i.ns.Nodup)) && ((("self" : Str) :: i.ns).all fun n => decide (i.d.scope.names.lookup n = some .local) && (!(n == ("__debug__" : Str)) && !(n == ("__classdict__" : Str))))
def oexB (K : PySem.W.Frag) (C : Addr) : Bool := (match K.lookup C with
  | some ⟨.type "type", _, .cls cd, sl⟩ => (match cd.mro, sl.toList with
    | .ref C1 :: bm, [_, _, _, _, some (.builtin n), _] => (decide (C1 = C) && decide (n = "ValueError.__new__")) && ((!cd.hasDel && cd.hasDict) && PySem.HandSPX.refsVE bm)
    | _, _ => false)
  | _ => false) && (decide (PySem.W.findIn K (.ref C) "__setattr__" = some (some (.builtin "object.__setattr__"))) && (decide (PySem.W.subIn K (.ref C) (.type "BaseException") = some true) && (decide (PySem.W.typeIn K (.ref C) = some (.type "type")) && PySem.W.keepIn K (.ref C))))
theorem oexB_ok {K : PySem.W.Frag} {C : Addr} (h : oexB K C = true) : OexC K C := by
  unfold oexB at h
  simp only [Bool.and_eq_true, decide_eq_true_eq] at h
  obtain ⟨h0, h1, h2, h3, h4⟩ := h
  refine ⟨?_, h1, h2, h3, h4⟩
  split at h0
  · rename_i dd cd sl ho
    split at h0
    · rename_i C1 bm k0 k1 k2 k3 n k5 hm hs
      simp only [Bool.and_eq_true, decide_eq_true_eq, Bool.not_eq_true'] at h0
      obtain ⟨⟨e1, e2⟩, ⟨e3, e4⟩, e5⟩ := h0
      obtain ⟨nm, bs, mro, ns, qn, hd, sn, sub, ab, col, del⟩ := cd
      dsimp only at hm e3 e4
      subst hm e1 e2 e3 e4
      have hsl : sl = #[k0, k1, k2, k3, some (.builtin "ValueError.__new__"), k5] := by
        obtain ⟨l⟩ := sl
        simp only at hs
        rw [hs]
      subst hsl
      exact ⟨nm, qn, ns, bs, bm, sn, sub, ab, col, dd, k0, k1, k2, k3, k5, ho, e5⟩
    · cases h0
  · cases h0
/-- what is asked of the error classes -/
def clB (K : PySem.W.Frag) (c : Str × List Str) : Bool := (He.Fa.glo c.1).ok K && (match c.2 with
  | [] => (He.Fa.exc c.1).ok K
  | ns => (oexB K (He.ga K c.1) && xfB K (He.ga K c.1)) && ((ns.all fun n => decide (PySem.W.findIn K (.ref (He.ga K c.1)) n = some none)) &&
    (decide (PySem.W.findIn K (.ref (He.ga K c.1)) "__init__" = some (some (.ref (He.fAd K (c.1, some "__init__"))))) && decide (PySem.W.typeIn K (.ref (He.fAd K (c.1, some "__init__"))) = some (.type "function")))))
def sbB (K : PySem.W.Frag) (cls : List (Str × List Str)) (sub : Nat → Nat → Bool) : Bool := (List.range cls.length).all fun c => (List.range cls.length).all fun k => (match cls[c]?, cls[k]? with
  | some (x, _), some (y, _) => decide (PySem.W.exmOne K (.ref (He.ga K x)) (.ref (He.ga K y)) = some (sub c k))
  | _, _ => true)
def conK (K : PySem.W.Frag) (x : Str) : D → Bool
  | .int i => (He.Fa.int x i).ok K
  | .str z => (He.Fa.str x z).ok K
  | .tup ds => (match intsD ds with
    | some ns => (He.Fa.glo x).ok K && He.tupB K x (ns.map He.Dv.int)
    | none => false)
  | _ => false
def mathB (K : PySem.W.Frag) (b : Bi) : Bool := match b with
  | .gcd => decide (PySem.W.nsIn K mainGlobals "gcd" = some (some (.builtin "math.gcd")))
  | .isqrt => decide (PySem.W.nsIn K mainGlobals "isqrt" = some (some (.builtin "math.isqrt")))
  | b => (He.Fa.free (biName b)).ok K
def exB (G : Gi) (sub : Nat → Nat → Bool) (K : PySem.W.Frag) : Bool := (G.cls.all (clB K) && sbB K G.cls sub) && ((G.con.all fun c => conK K c.1 c.2) && ((G.fre.all fun x => (He.Fa.free x).ok K) && G.bis.all (mathB K)))
def faOf (L : List Df) : List He.Fa := L.map fun d => .glo d.d.name
def fnL (L : List Df) (I : List Ic) : List He.DefD := L.map (·.d) ++ I.map (·.d)
/-- the defs' shape, checked -/
def shB (G : Gi) (sub : Nat → Nat → Bool) (L : List Df) (I : List Ic) : Bool := (L.all fun d => dfB G sub d && (decide (d.d.at_ = (d.d.name, none)) && (d.d.dfl.isEmpty && d.d.kwd.isEmpty))) &&
  ((I.all fun i => icB i && (decide (i.d.at_ = (i.x, some ("__init__" : Str))) && (i.d.dfl.isEmpty && i.d.kwd.isEmpty))) && (G.cls.all fun c => c.2.isEmpty || I.any fun i => decide (i.x = c.1) && decide (i.ns = c.2)))
/-- how calls bind -/
def BindF (d : He.DefD) (ps : List Str) : Prop := ∀ (kV doc pm : Value) (an : Option Addr) (cdv ct : Value) (us : List Value), us.length = ps.length → bindArgs (PySem.W.fnOf d.name d.qual d.params d.body d.scope .none kV doc pm an cdv ct) ⟨us, []⟩ = pure (ps.zip us)
def KwF (d : He.DefD) (ps : List Str) (n : Nat) (ks : List Str) (pm : List Nat) : Prop := ∀ (kV doc pv : Value) (an : Option Addr) (cdv ct : Value) (us ws : List Value), us.length = n → ws.length = ks.length →
  bindArgs (PySem.W.fnOf d.name d.qual d.params d.body d.scope .none kV doc pv an cdv ct) ⟨us, ks.zip ws⟩ = pure (ps.zip (pm.map fun j => (us ++ ws).getD j .none))
theorem Vals.getD : ∀ {vs : List V} {us : List Value} (j : Nat), Vals vs us → RelV (vs.getD j .non) (us.getD j .none)
  | _, _, _, .nil => rfl
  | _, _, 0, .cons h _ => h
  | _, _, j + 1, .cons _ r => by
    have := Vals.getD j r
    simpa using this
theorem Vals.kwm {vs : List V} {us : List Value} (r : Vals vs us) : ∀ pm : List Nat, Vals (pm.map fun j => vs.getD j .non) (pm.map fun j => us.getD j .none)
  | [] => .nil
  | j :: l => .cons (Vals.getD j r) (Vals.kwm r l)
theorem kbinds_of {K : PySem.W.Frag} {d : He.DefD} {f : Addr} {fd : FuncData} {ps ks : List Str} {n : Nat} {pm : List Nat} (F : FunD K d.name d.qual d.params d.body d.scope [] [] f fd) (hne : ps ≠ []) (h : KwF d ps n ks pm) : KBinds K fd ps ks (kwG .none n ks.length pm) (kwG .non n ks.length pm) where
  to := fun s us ws _ hl => by
    obtain ⟨oc, od, dV, kV, doc, pv, an, cdv, ct, osl, rfl, lk, hcd, hD, hK⟩ := F.ex
    have hdv : dV = .none := by
      rcases hD with ⟨_, e⟩ | ⟨e, _⟩
      · exact e
      · exact absurd rfl e
    subst hdv
    unfold kwG at hl ⊢
    split at hl
    · rename_i hc
      rw [if_pos hc]
      exact .of_eq (h kV doc pv an cdv ct us ws hc.1 hc.2)
    · exact absurd (List.eq_nil_of_length_eq_zero hl.symm) hne
  rel := fun {vs us zs ws} r q => by
    unfold kwG
    rw [r.length, q.length]
    split
    · exact Vals.kwm (r.append q) pm
    · exact .nil
theorem mo_of {P : Program} {w : World} {K : PySem.W.Frag} {h : Heap} {mg : Str → Option Value} {base : Heap} {G : Gi} {sub : Nat → Nat → Bool} {L : List Df} {I : List Ic} (X : K.In h) (Gn : h.Ns mainGlobals mg) (c : He.SaysX (faOf L) (fnL L I) [] [] (exB G sub) w h K)
    (gf : G.fns = L.map fun d => (d.d.name, d.ps)) (sh : shB G sub L I = true) (hb : ∀ (i : Nat) (df : Df), L[i]? = some df → BindF df.d df.ps ∧ ∀ (n : Nat) (ks : List Str) (pm : List Nat), (i, n, ks, pm) ∈ G.kws → df.ps ≠ [] ∧ KwF df.d df.ps n ks pm)
    (hi : ∀ i ∈ I, BindF i.d ("self" :: i.ns)) : Mo P w K mg base G sub L := by
  unfold shB at sh
  simp only [Bool.and_eq_true, List.all_eq_true, decide_eq_true_eq, List.isEmpty_iff] at sh
  obtain ⟨s1, s2, s3⟩ := sh
  have ex := c.more
  unfold exB at ex
  simp only [Bool.and_eq_true, List.all_eq_true] at ex
  obtain ⟨⟨x1, x2⟩, x3, x4, x5⟩ := ex
  have cd := c.t.d
  have funD : ∀ d : He.DefD, d ∈ fnL L I → d.dfl = [] → d.kwd = [] → ∃ fd, FunD K d.name d.qual d.params d.body d.scope [] [] (He.fAd K d.at_) fd := fun d hd h1 h2 => by
    obtain ⟨fd, F⟩ := cd.defs hd
    have e1 : d.dvs K = [] := by show d.dfl.map _ = []; rw [h1]; rfl
    have e2 : d.kws K = [] := by show d.kwd.map _ = []; rw [h2]; rfl
    rw [e1, e2] at F
    exact ⟨fd, F⟩
  refine { gf := gf, fns := fun i df hdf => ?_, fre := fun x hx => He.free_ok X Gn (x4 x hx), bis := fun b hb' => ?_, con := fun x d hx => ?_, cl := fun k x ns hk => ?_, sb := fun a k x y ns ms ha hk => ?_ }
  · have hm := List.mem_of_getElem? hdf
    obtain ⟨a1, a2, a3, a4⟩ := s1 df hm
    obtain ⟨fd, F⟩ := funD df.d (List.mem_append_left _ (List.mem_map.mpr ⟨df, hm, rfl⟩)) a3 a4
    rw [a2] at F
    have F : FunD K df.d.name df.d.qual df.d.params df.d.body df.d.scope [] [] (He.ga K df.d.name) fd := F
    obtain ⟨b1, b2⟩ := hb i df hdf
    exact ⟨He.glo_ok X Gn (cd.facts (f := .glo df.d.name) (List.mem_map.mpr ⟨df, hm, rfl⟩)), a1, fd, F, F.bindsN b1, fun n ks pm hk => kbinds_of F (b2 n ks pm hk).1 (b2 n ks pm hk).2⟩
  · have := x5 b hb'
    cases b with
    | gcd => exact PySem.W.mg_of X Gn (of_decide_eq_true this)
    | isqrt => exact PySem.W.mg_of X Gn (of_decide_eq_true this)
    | _ => exact He.free_ok X Gn this
  · have hx' : (x, d) ∈ G.con := PySem.mem_of_lookup hx
    have q := x3 _ hx'
    cases d with
    | int i =>
      obtain ⟨t, ht⟩ := He.int_ok X Gn q
      exact ⟨.int i, _, ht, ⟨t, rfl⟩, fun _ _ => .int i⟩
    | str z =>
      obtain ⟨t, ht⟩ := He.str_ok X Gn q
      exact ⟨.str z, _, ht, ⟨t, rfl⟩, fun _ _ => .str z⟩
    | tup ds =>
      have q : (match intsD ds with
        | some ns => (He.Fa.glo x).ok K && He.tupB K x (ns.map He.Dv.int)
        | none => false) = true := q
      split at q
      · rename_i ns hns
        obtain ⟨q1, q2⟩ := Bool.and_eq_true_iff.mp q
        refine ⟨.ref (He.ga K x), _, He.glo_ok X Gn q1, rfl, fun H as => .tup (He.tupB_ok q2 H) ?_⟩
        have key : ∀ (ds : List D) (ns : List Int), intsD ds = some ns → Reps K H as ds ((ns.map He.Dv.int).map (He.Dv.v K)) := by
          intro ds
          induction ds with
          | nil => intro ns e; cases e; exact .nil
          | cons a l ih =>
            intro ns e
            cases a with
            | int i =>
              have e : (intsD l).map (i :: ·) = some ns := e
              cases q : intsD l with
              | none => rw [q] at e; cases e
              | some ms =>
                rw [q] at e
                cases e
                exact .cons (.int i) (ih ms q)
            | _ => cases e
        exact key ds ns hns
      · cases q
    | _ => cases q
  · have hm := List.mem_of_getElem? hk
    have q := x1 _ hm
    unfold clB at q
    obtain ⟨q0, q⟩ := Bool.and_eq_true_iff.mp q
    refine ⟨He.glo_ok X Gn q0, ?_⟩
    cases ns with
    | nil =>
      obtain ⟨e1, e2, e3, e4⟩ := He.exc_ok q
      exact .inl ⟨rfl, e1, e2, e3, e4⟩
    | cons n0 ns =>
      have q : ((oexB K (He.ga K x) && xfB K (He.ga K x)) && (((n0 :: ns).all fun n => decide (PySem.W.findIn K (.ref (He.ga K x)) n = some none)) &&
        (decide (PySem.W.findIn K (.ref (He.ga K x)) "__init__" = some (some (.ref (He.fAd K (x, some "__init__"))))) && decide (PySem.W.typeIn K (.ref (He.fAd K (x, some "__init__"))) = some (.type "function"))))) = true := q
      simp only [Bool.and_eq_true, decide_eq_true_eq, List.all_eq_true] at q
      obtain ⟨⟨e1, e2⟩, e3, e4, e5⟩ := q
      have z := s3 _ hm
      have z : ((n0 :: ns).isEmpty || I.any fun i => decide (i.x = x) && decide (i.ns = n0 :: ns)) = true := z
      simp only [List.isEmpty_cons, Bool.false_or, List.any_eq_true, Bool.and_eq_true, decide_eq_true_eq] at z
      obtain ⟨ic, hic, z1, z2⟩ := z
      obtain ⟨b1, b2, b3, b4⟩ := s2 ic hic
      unfold icB at b1
      simp only [Bool.and_eq_true, decide_eq_true_eq, List.all_eq_true, Bool.not_eq_true'] at b1
      obtain ⟨⟨i1, i2, i3⟩, i4⟩ := b1
      obtain ⟨fd, F⟩ := funD ic.d (List.mem_append_right _ (List.mem_map.mpr ⟨ic, hic, rfl⟩)) b3 b4
      rw [b2] at F
      subst z1
      rw [z2] at i1 i2 i3 i4
      have hbi := hi ic hic
      rw [z2] at hbi
      exact .inr ⟨by simp, oexB_ok e1, xfB_ok e2, e3, i3, _, fd, e4, e5, F.bindsN hbi, init_ok F (fnScB_ok i1) i4 i2⟩
  · unfold sbB at x2
    simp only [List.all_eq_true] at x2
    have h1 := (List.getElem?_eq_some_iff.mp ha).1
    have h2 := (List.getElem?_eq_some_iff.mp hk).1
    have q := x2 a (List.mem_range.mpr h1) k (List.mem_range.mpr h2)
    rw [ha, hk] at q
    exact of_decide_eq_true q
end Ev
end
section
set_option Elab.async false
set_option linter.all false
set_option maxRecDepth 100000
set_option maxHeartbeats 4000000
/-! Ev: the law's end. -/
namespace Ev
open PySem PySem.Spec PyProof.Rows L2
theorem fn_cx0 {P : Program} {w : World} {K : PySem.W.Frag} {mg : Str → Option Value} {base : Heap} {k : Nat} {f : Addr} {fd : FuncData} {ps : List Str} {sp : Sp} (F : FnOk P w K mg base (L2.CX P w) k f fd ps sp) :
    FnOk P w K mg base L2.CX0 k f fd ps (fun vs H Q _ => sp vs H Q (fun _ _ _ => False)) :=
  ⟨fun vs H Q E h => F.len vs H Q _ h, fun A outer s H args us vs Q E hr e0 hb r h => codeAny_mono (F.run A outer s H args us vs Q _ hr e0 hb r h) fun rs s' q => by
    cases rs with
    | ok fl => cases fl <;> exact q
    | error e =>
      obtain ⟨_, _, _, _, _, _, _, _, _, _, _, _, z⟩ := q
      exact z.elim⟩
theorem fz_rep {K : PySem.W.Frag} {H : Hp} {a : Addr} {ns : List Int} (ho : Only H) (h : SqL K H a (ns.map V.int)) : Rep K H [] (.fz (ns.map D.int)) (.ref a) := by
  have rs : ∀ ns : List Int, Reps K H [] (ns.map D.int) (ns.map V.int) := fun ns => by
    induction ns with
    | nil => exact .nil
    | cons i l ih => exact .cons (.int i) ih
  refine .fz ?_ (rs ns)
  rcases h with (h | h) | h
  · rcases ho a with z | ⟨o, xs, z⟩
    · rw [z] at h; cases h
    · rw [z] at h; cases h
  · exact .inl h
  · exact .inr h
theorem sim_nil {K : PySem.W.Frag} {H : Hp} : Sim K H [] [] := ⟨rfl, fun i o e => by simp at e, fun i j a o u e => by simp at e⟩
/-- the law's def keeps its promise -/
theorem law_keeps {P : Program} {w : World} {K : PySem.W.Frag} {h : Heap} {mg : Str → Option Value} {f : Addr} {G : Gi} {sub : Nat → Nat → Bool} {L : List Df} {I : List Ic} {n m li : Nat} {df : Df} (X : K.In h) (Gn : h.Ns mainGlobals mg) (c : He.SaysX (faOf L) (fnL L I) [] [] (exB G sub) w h K)
    (gf : G.fns = L.map fun d => (d.d.name, d.ps)) (sh : shB G sub L I = true) (hb : ∀ (i : Nat) (df : Df), L[i]? = some df → BindF df.d df.ps ∧ ∀ (n : Nat) (ks : List Str) (pm : List Nat), (i, n, ks, pm) ∈ G.kws → df.ps ≠ [] ∧ KwF df.d df.ps n ks pm)
    (hi : ∀ i ∈ I, BindF i.d ("self" :: i.ns)) (hl : L[li]? = some df) (hp : df.ps = [("script" : Str)]) (hm : mg df.d.name = some (.ref f))
    (H : ∀ ns : List Int, ns.length ≤ n → run sub (L.map (·.fn)) m li [.fz (ns.map D.int)] [] (fun d _ => d = .bl true) noX) :
    ∃ (fd : FuncData) (sp : Sp), (∀ (s : Shared) (u : Value), BindsTo s fd ⟨[u], []⟩ [("script", u)]) ∧ (∀ (H : Hp) (a : Addr) (ns : List Int), ns.length ≤ n → Only H → SqL K H a (ns.map V.int) → sp [.ref a] H (fun v _ => v = .bl true) fun _ _ _ => False) ∧
      ∀ base : Heap, K.In base → base.Ns mainGlobals mg → FnOk P w K mg base L2.CX0 (m + 3) f fd ["script"] sp := by
  have M := fun base : Heap => mo_of (P := P) (base := base) X Gn c gf sh hb hi
  obtain ⟨g1, g2, fd, F, b1, b2⟩ := (M h).fns li df hl
  rw [g1] at hm
  cases hm
  have bd := (hb li df hl).1
  refine ⟨fd, fun vs H Q _ => spOf G K (run sub (L.map (·.fn)) m) li df.ps.length vs H Q (fun _ _ _ => False), fun s u => ?_, fun Hh a ns hns ho hS => ?_, fun base _ _ => ?_⟩
  · have := FunD.bindsA F bd s [u] (by rw [hp]; rfl)
    rw [hp] at this
    exact this
  · refine ⟨[], [], [.fz (ns.map D.int)], fun d _ => d = .bl true, noX, by rw [hp]; rfl, sim_nil, .cons (fz_rep ho hS) .nil, H ns hns, fun d S' as' v H' _ _ r e => ?_, noX_imp⟩
    subst e
    cases r
    rfl
  · have z := fn_cx0 ((M base).table m li df fd hl F)
    rw [hp] at z ⊢
    exact z
/-! ### what a printed text gives -/
abbrev pr (x : Str) (ns : List Str) : Str × List Str := (x, ns)
abbrev pc (x : Str) (d : D) : Str × D := (x, d)
abbrev pk (i n : Nat) (ks : List Str) (pm : List Nat) : Nat × Nat × List Str × List Nat := (i, n, ks, pm)
def AllP {α : Type} (P : α → Prop) : List α → Prop
  | [] => True
  | x :: xs => P x ∧ AllP P xs
theorem AllP.mem {α : Type} {P : α → Prop} : ∀ {l : List α} {x : α}, AllP P l → x ∈ l → P x
  | [], _, _, h => by cases h
  | _ :: _, _, ⟨h, r⟩, hx => by
    rcases List.mem_cons.mp hx with e | hx
    · rw [e]; exact h
    · exact AllP.mem r hx
def inCls (s : Stmt) (i : Nat) : Stmt := match s with
  | .ClassDef (body := b) .. => b.getD i (.Pass ⟨0, 0, 0, 0⟩)
  | s => s
def sdB (G : Gi) (sub : Nat → Nat → Bool) (d : Df) : Bool := dfB G sub d && (decide (d.d.at_ = (d.d.name, none)) && (d.d.dfl.isEmpty && d.d.kwd.isEmpty))
def siB (G : Gi) (I : List Ic) : Bool := (I.all fun i => icB i && (decide (i.d.at_ = (i.x, some ("__init__" : Str))) && (i.d.dfl.isEmpty && i.d.kwd.isEmpty))) && (G.cls.all fun c => c.2.isEmpty || I.any fun i => decide (i.x = c.1) && decide (i.ns = c.2))
theorem sh_of {G : Gi} {sub : Nat → Nat → Bool} {L : List Df} {I : List Ic} (h : AllP (fun d => sdB G sub d = true) L) (h2 : siB G I = true) : shB G sub L I = true := by
  unfold shB
  rw [Bool.and_eq_true]
  exact ⟨List.all_eq_true.mpr fun d hd => h.mem hd, h2⟩
theorem hb_of {G : Gi} {L : List Df} (h : AllP (fun d => BindF d.d d.ps) L) (h2 : AllP (fun k => ∃ d, L[k.1]? = some d ∧ d.ps ≠ [] ∧ KwF d.d d.ps k.2.1 k.2.2.1 k.2.2.2) G.kws) (i : Nat) (df : Df) (hi : L[i]? = some df) :
    BindF df.d df.ps ∧ ∀ (n : Nat) (ks : List Str) (pm : List Nat), (i, n, ks, pm) ∈ G.kws → df.ps ≠ [] ∧ KwF df.d df.ps n ks pm := by
  refine ⟨h.mem (List.mem_of_getElem? hi), fun n ks pm hk => ?_⟩
  obtain ⟨d, h3, h4⟩ := h2.mem hk
  have h3 : L[i]? = some d := h3
  rw [hi] at h3
  cases h3
  exact h4
theorem hi_of {I : List Ic} (h : AllP (fun i => BindF i.d ("self" :: i.ns)) I) (i : Ic) (hi : i ∈ I) : BindF i.d ("self" :: i.ns) := h.mem hi
end Ev
end
section
set_option Elab.async false
set_option linter.all false
set_option maxRecDepth 100000
set_option maxHeartbeats 400000
/-! Ev: equations to step by. -/
namespace Ev
open PySem
section
variable {S : Sto} {Q : Po} {i j : Int} {a b : List D} {x y : D} {n m : Nat} {k : Bool → Prop}
theorem o_add : opSem .Add (.int i) (.int j) S Q = Q (.int (i + j)) S := rfl
theorem o_sub : opSem .Sub (.int i) (.int j) S Q = Q (.int (i - j)) S := rfl
theorem o_mul : opSem .Mult (.int i) (.int j) S Q = (MulOk i j ∧ Q (.int (i * j)) S) := rfl
theorem o_div : opSem .FloorDiv (.int i) (.int j) S Q = (DivOk i j ∧ Q (.int (i.fdiv j)) S) := rfl
theorem o_mod : opSem .Mod (.int i) (.int j) S Q = (j ≠ 0 ∧ Q (.int (i.fmod j)) S) := rfl
theorem o_pow : opSem .Pow (.int i) (.int j) S Q = (PowOk i j ∧ Q (.int (i ^ j.toNat)) S) := rfl
theorem o_tup : opSem .Add (.tup a) (.tup b) S Q = (a.length + b.length ≤ most ∧ Q (.tup (a ++ b)) S) := rfl
theorem o_lst : opSem .Add (.ref n) (.ref m) S Q = ∃ a, lstAt S n = some a ∧ ∃ b, lstAt S m = some b ∧ a.length + b.length ≤ most ∧ Q (.ref S.length) (S ++ [.lst (a ++ b)]) := propext ⟨fun ⟨a, b, h1, h2, h3⟩ => ⟨a, h1, b, h2, h3⟩, fun ⟨a, h1, b, h2, h3⟩ => ⟨a, b, h1, h2, h3⟩⟩
theorem o_rep : opSem .Mult (.ref n) (.int i) S Q = ∃ a, lstAt S n = some a ∧ 0 ≤ i ∧ i ≤ 1000 ∧ a.length ≤ 1000 ∧ Q (.ref S.length) (S ++ [.lst (List.replicate i.toNat a).flatten]) := rfl
theorem c_eq : cmpSem .Eq x y S k = eqSem x y S k := rfl
theorem c_ne : cmpSem .NotEq x y S k = eqSem x y S fun b => k (!b) := rfl
theorem c_lt : cmpSem .Lt (.int i) (.int j) S k = k (decide (i < j)) := propext ⟨fun ⟨_, _, e, f, h⟩ => (by cases e; cases f; exact h), fun h => ⟨i, j, rfl, rfl, h⟩⟩
theorem c_le : cmpSem .LtE (.int i) (.int j) S k = k (decide (i ≤ j)) := propext ⟨fun ⟨_, _, e, f, h⟩ => (by cases e; cases f; exact h), fun h => ⟨i, j, rfl, rfl, h⟩⟩
theorem c_gt : cmpSem .Gt (.int i) (.int j) S k = k (decide (j < i)) := propext ⟨fun ⟨_, _, e, f, h⟩ => (by cases e; cases f; exact h), fun h => ⟨i, j, rfl, rfl, h⟩⟩
theorem c_ge : cmpSem .GtE (.int i) (.int j) S k = k (decide (j ≤ i)) := propext ⟨fun ⟨_, _, e, f, h⟩ => (by cases e; cases f; exact h), fun h => ⟨i, j, rfl, rfl, h⟩⟩
theorem c_isn : cmpSem .Is x .non S k = k (isNon x) := rfl
theorem c_notn : cmpSem .IsNot x .non S k = k (!isNon x) := rfl
theorem c_isb {c d : Bool} : cmpSem .Is (.bl c) (.bl d) S k = k (decide (c = d)) := propext ⟨fun ⟨_, e, h⟩ => (by cases e; exact h), fun h => ⟨c, rfl, h⟩⟩
theorem c_in : cmpSem .In x y S k = inSem x y S k := rfl
theorem c_nin : cmpSem .NotIn x y S k = inSem x y S fun b => k (!b) := rfl
/-- equality of plain things -/
theorem q_int : eqSem (.int i) (.int j) S k = k (decide (i = j)) := propext ⟨fun ⟨t, u, h1, h2, _, _, h⟩ => (by
    cases h1; cases h2
    have e : PyData.eqv (.int i) (.int j) = decide (i = j) := by
      unfold PyData.eqv
      rfl
    rw [e] at h
    exact h), fun h => ⟨_, _, .int i, .int j, rfl, rfl, (by
    have e : PyData.eqv (.int i) (.int j) = decide (i = j) := by
      unfold PyData.eqv
      rfl
    rw [e]
    exact h)⟩⟩
theorem q_bl {a b : Bool} : eqSem (.bl a) (.bl b) S k = k (decide (a = b)) := propext ⟨fun ⟨t, u, h1, h2, _, _, h⟩ => (by
    cases h1; cases h2
    have e : PyData.eqv (.bool a) (.bool b) = decide (a = b) := by
      cases a <;> cases b <;> rfl
    rw [e] at h
    exact h), fun h => ⟨_, _, .bl a, .bl b, rfl, rfl, (by
    have e : PyData.eqv (.bool a) (.bool b) = decide (a = b) := by
      cases a <;> cases b <;> rfl
    rw [e]
    exact h)⟩⟩
theorem i_isn : isNon .non = true := rfl
theorem i_isi : isNon (.int i) = false := rfl
theorem i_isb {b : Bool} : isNon (.bl b) = false := rfl
theorem i_iss {z : Str} : isNon (.str z) = false := rfl
theorem i_ist : isNon (.tup a) = false := rfl
theorem i_isr : isNon (.ref n) = false := rfl
theorem t_non : tyOf S .non = some .non := rfl
theorem t_int : tyOf S (.int i) = some .int := rfl
theorem t_bl {b : Bool} : tyOf S (.bl b) = some .bool := rfl
theorem t_str {z : Str} : tyOf S (.str z) = some .str := rfl
theorem t_tup : tyOf S (.tup a) = some .tup := rfl
theorem t_fz : tyOf S (.fz a) = some .lst := rfl
theorem t_lst (h : lstAt S n = some a) : tyOf S (.ref n) = some .lst := by
  unfold lstAt at h
  show (match S[n]? with
    | some (.lst _) => some Ty.lst
    | some (.dct _) => some .dct
    | some (.fdc _) => some .dct
    | none => none) = some .lst
  cases q : S[n]? with
  | none => rw [q] at h; cases h
  | some o => rw [q] at h; cases o <;> first | rfl | cases h
theorem u_ii : subTy .int .int = true := rfl
theorem u_ib : subTy .int .bool = false := rfl
theorem u_bi : subTy .bool .int = true := rfl
theorem u_bb : subTy .bool .bool = true := rfl
theorem u_any {t : Ty} : [t].any (subTy (.int)) = subTy .int t := by simp
/-- built-ins -/
theorem b_abs : biSem .abs [.int i] S Q = Q (.int (if i < 0 then -i else i)) S := rfl
theorem b_lent : biSem .len [.tup a] S Q = Q (.int (a.length : Nat)) S := rfl
theorem b_lenf : biSem .len [.fz a] S Q = Q (.int (a.length : Nat)) S := rfl
theorem b_lens {z : Str} : biSem .len [.str z] S Q = (z.length ≤ most ∧ Q (.int (z.length : Nat)) S) := rfl
theorem b_lenr : biSem .len [.ref n] S Q = ((∃ xs, lstAt S n = some xs ∧ Q (.int (xs.length : Nat)) S) ∨ (∃ kvs, dctAt S n = some kvs ∧ Q (.int (kvs.length : Nat)) S)) := rfl
theorem b_list : biSem .list [x] S Q = ∃ xs, seqOf S x = some xs ∧ Q (.ref S.length) (S ++ [.lst xs]) := rfl
theorem b_tuple : biSem .tuple [x] S Q = ∃ xs, seqOf S x = some xs ∧ Q (.tup xs) S := rfl
theorem b_int : biSem .int [.int i] S Q = Q (.int i) S := rfl
theorem b_intb {b : Bool} : biSem .int [.bl b] S Q = Q (.int (if b then 1 else 0)) S := rfl
theorem b_sum : biSem .sum [.ref n] S Q = ∃ xs, lstAt S n = some xs ∧ ∃ ns, intsD xs = some ns ∧ Q (.int ns.sum) S := propext ⟨fun ⟨a, b, h1, h2, h3⟩ => ⟨a, h1, b, h2, h3⟩, fun ⟨a, h1, b, h2, h3⟩ => ⟨a, b, h1, h2, h3⟩⟩
theorem b_min2 : biSem .min [.int i, .int j] S Q = Q (.int (if j < i then j else i)) S := rfl
theorem b_max2 : biSem .max [.int i, .int j] S Q = Q (.int (if j > i then j else i)) S := rfl
theorem b_all : biSem .all [.ref n] S Q = ∃ xs, lstAt S n = some xs ∧ ∃ bs, boolsD xs = some bs ∧ Q (.bl (bs.all id)) S := propext ⟨fun ⟨a, b, h1, h2, h3⟩ => ⟨a, h1, b, h2, h3⟩, fun ⟨a, h1, b, h2, h3⟩ => ⟨a, b, h1, h2, h3⟩⟩
theorem b_any : biSem .any [.ref n] S Q = ∃ xs, lstAt S n = some xs ∧ ∃ bs, boolsD xs = some bs ∧ Q (.bl (bs.any id)) S := propext ⟨fun ⟨a, b, h1, h2, h3⟩ => ⟨a, h1, b, h2, h3⟩, fun ⟨a, h1, b, h2, h3⟩ => ⟨a, b, h1, h2, h3⟩⟩
theorem b_gcd : biSem .gcd [.int i, .int j] S Q = Q (.int ((Nat.gcd i.natAbs j.natAbs : Nat) : Int)) S := rfl
theorem b_isqrt : biSem .isqrt [.int i] S Q = ∃ r : Nat, 0 ≤ i ∧ i.toNat.log2 ≤ 13000 ∧ r * r ≤ i.toNat ∧ i.toNat < (r + 1) * (r + 1) ∧ Q (.int (r : Int)) S := rfl
theorem b_dict : biSem .dict [.ref n] S Q = ∃ xs, lstAt S n = some xs ∧ ∃ kvs, pairsOf xs = some kvs ∧ Q (.ref S.length) (S ++ [.dct (mergeD [] kvs)]) := propext ⟨fun ⟨a, b, h1, h2, h3⟩ => ⟨a, h1, b, h2, h3⟩, fun ⟨a, h1, b, h2, h3⟩ => ⟨a, b, h1, h2, h3⟩⟩
/-- methods -/
theorem m_app : meSem .append (.ref n) [y] S Q = ∃ xs, lstAt S n = some xs ∧ xs.length < most ∧ Q .non (S.set n (.lst (xs ++ [y]))) := rfl
theorem m_ext : meSem .extend (.ref n) [.ref m] S Q = (n ≠ m ∧ ∃ xs, lstAt S n = some xs ∧ ∃ ys, lstAt S m = some ys ∧ xs.length + ys.length ≤ most ∧ Q .non (S.set n (.lst (xs ++ ys)))) := propext ⟨fun ⟨a, b, h0, h1, h2, h3⟩ => ⟨h0, a, h1, b, h2, h3⟩, fun ⟨h0, a, h1, b, h2, h3⟩ => ⟨a, b, h0, h1, h2, h3⟩⟩
theorem m_popi : meSem .pop (.ref n) [.int i] S Q = ∃ xs, lstAt S n = some xs ∧ ∃ j, place xs.length i = some j ∧ ∃ y, xs[j]? = some y ∧ Q y (S.set n (.lst (xs.eraseIdx j))) := propext ⟨fun ⟨a, b, c, h1, h2, h3⟩ => ⟨a, h1, b, h2, c, h3⟩, fun ⟨a, h1, b, h2, c, h3⟩ => ⟨a, b, c, h1, h2, h3⟩⟩
theorem m_pop : meSem .pop (.ref n) [] S Q = ∃ xs y, lstAt S n = some (xs ++ [y]) ∧ Q y (S.set n (.lst xs)) := rfl
/-- subscripts -/
theorem x_tup : ixSem (.tup a) (.int i) S Q = ∃ j, place a.length i = some j ∧ ∃ v, a[j]? = some v ∧ Q v S := propext ⟨fun ⟨_, j, v, e, h1, h⟩ => (by cases e; exact ⟨j, h1, v, h⟩), fun ⟨j, h1, v, h⟩ => ⟨i, j, v, rfl, h1, h⟩⟩
theorem x_fz : ixSem (.fz a) (.int i) S Q = ∃ j, place a.length i = some j ∧ ∃ v, a[j]? = some v ∧ Q v S := propext ⟨fun ⟨_, j, v, e, h1, h⟩ => (by cases e; exact ⟨j, h1, v, h⟩), fun ⟨j, h1, v, h⟩ => ⟨i, j, v, rfl, h1, h⟩⟩
theorem x_lst (h : lstAt S n = some a) : ixSem (.ref n) (.int i) S Q = ∃ j, place a.length i = some j ∧ ∃ v, a[j]? = some v ∧ Q v S := by
  have hd : dctAt S n = none := by
    unfold lstAt at h
    unfold dctAt
    cases q : S[n]? with
    | none => rfl
    | some o => rw [q] at h; cases o <;> first | rfl | cases h
  refine propext ⟨fun h' => ?_, fun ⟨j, h1, v, h'⟩ => .inl ⟨a, i, j, v, h, rfl, h1, h'⟩⟩
  rcases h' with ⟨xs, k, j, v, e, e2, h1, h'⟩ | ⟨_, _, _, e, _⟩
  · rw [h] at e
    cases e
    cases e2
    exact ⟨j, h1, v, h'⟩
  · rw [hd] at e
    cases e
theorem p_lit {n : Nat} {k : Nat} (h : k < n) : place n (k : Int) = some k := by
  unfold place
  rw [if_pos (by omega), if_pos (by omega)]
  simp
end
theorem pl1_0 : place 1 0 = some 0 := rfl
theorem pn1 : place 1 (-1) = some 0 := rfl
theorem pl2_0 : place 2 0 = some 0 := rfl
theorem pl2_1 : place 2 1 = some 1 := rfl
theorem pn2 : place 2 (-1) = some 1 := rfl
theorem pl3_0 : place 3 0 = some 0 := rfl
theorem pl3_1 : place 3 1 = some 1 := rfl
theorem pl3_2 : place 3 2 = some 2 := rfl
theorem pn3 : place 3 (-1) = some 2 := rfl
theorem pl4_0 : place 4 0 = some 0 := rfl
theorem pl4_1 : place 4 1 = some 1 := rfl
theorem pl4_2 : place 4 2 = some 2 := rfl
theorem pl4_3 : place 4 3 = some 3 := rfl
theorem pn4 : place 4 (-1) = some 3 := rfl
theorem pl5_0 : place 5 0 = some 0 := rfl
theorem pl5_1 : place 5 1 = some 1 := rfl
theorem pl5_2 : place 5 2 = some 2 := rfl
theorem pl5_3 : place 5 3 = some 3 := rfl
theorem pl5_4 : place 5 4 = some 4 := rfl
theorem pn5 : place 5 (-1) = some 4 := rfl
theorem pl6_0 : place 6 0 = some 0 := rfl
theorem pl6_1 : place 6 1 = some 1 := rfl
theorem pl6_2 : place 6 2 = some 2 := rfl
theorem pl6_3 : place 6 3 = some 3 := rfl
theorem pl6_4 : place 6 4 = some 4 := rfl
theorem pl6_5 : place 6 5 = some 5 := rfl
theorem pn6 : place 6 (-1) = some 5 := rfl
theorem pl7_0 : place 7 0 = some 0 := rfl
theorem pl7_1 : place 7 1 = some 1 := rfl
theorem pl7_2 : place 7 2 = some 2 := rfl
theorem pl7_3 : place 7 3 = some 3 := rfl
theorem pl7_4 : place 7 4 = some 4 := rfl
theorem pl7_5 : place 7 5 = some 5 := rfl
theorem pl7_6 : place 7 6 = some 6 := rfl
theorem pn7 : place 7 (-1) = some 6 := rfl
theorem pl8_0 : place 8 0 = some 0 := rfl
theorem pl8_1 : place 8 1 = some 1 := rfl
theorem pl8_2 : place 8 2 = some 2 := rfl
theorem pl8_3 : place 8 3 = some 3 := rfl
theorem pl8_4 : place 8 4 = some 4 := rfl
theorem pl8_5 : place 8 5 = some 5 := rfl
theorem pl8_6 : place 8 6 = some 6 := rfl
theorem pl8_7 : place 8 7 = some 7 := rfl
theorem pn8 : place 8 (-1) = some 7 := rfl
theorem pl9_0 : place 9 0 = some 0 := rfl
theorem pl9_1 : place 9 1 = some 1 := rfl
theorem pl9_2 : place 9 2 = some 2 := rfl
theorem pl9_3 : place 9 3 = some 3 := rfl
theorem pl9_4 : place 9 4 = some 4 := rfl
theorem pl9_5 : place 9 5 = some 5 := rfl
theorem pl9_6 : place 9 6 = some 6 := rfl
theorem pl9_7 : place 9 7 = some 7 := rfl
theorem pl9_8 : place 9 8 = some 8 := rfl
theorem pn9 : place 9 (-1) = some 8 := rfl
/-- the items one by one, where each gives one thing and nothing else happens -/
theorem gather_map {ok : Sto → Prop} {f : D → Sto → (Option D → Sto → Prop) → Prop} {S : Sto} {Q : Pl} (F : D → D) (hok : ok S) : ∀ (xs acc : List D), (∀ x ∈ xs, ∀ k : Option D → Sto → Prop, k (some (F x)) S → f x S k) → acc.length + xs.length ≤ most → Q (acc ++ xs.map F) S → gather ok f xs acc S Q
  | [], acc, _, _, q => ⟨hok, by simpa using q⟩
  | x :: xs, acc, h, hl, q => ⟨hok, h x List.mem_cons_self _ ⟨by rw [List.length_cons] at hl; omega, gather_map F hok xs (acc ++ [F x]) (fun y hy => h y (List.mem_cons_of_mem _ hy)) (by rw [List.length_append, List.length_cons, List.length_nil]; rw [List.length_cons] at hl; omega) (by rw [List.append_assoc]; simpa using q)⟩⟩
theorem lst_new {S : Sto} {xs : List D} : lstAt (S ++ [.lst xs]) S.length = some xs := by
  unfold lstAt
  rw [List.getElem?_append_right (Nat.le_refl _)]
  simp
theorem lst_old {S T : Sto} {n : Nat} {xs : List D} (h : lstAt S n = some xs) : lstAt (S ++ T) n = some xs := by
  unfold lstAt at h ⊢
  cases q : S[n]? with
  | none => rw [q] at h; cases h
  | some o =>
    rw [List.getElem?_append_left (List.getElem?_eq_some_iff.mp q).1, q]
    rw [q] at h
    exact h
/-! ### texts -/
theorem sOf {a b : String} : (Str.ofString a = Str.ofString b) = (a = b) := by
  refine propext ⟨fun h => ?_, fun h => by rw [h]⟩
  rw [Str.ofString_eq_toList, Str.ofString_eq_toList] at h
  have h1 : (a.toList.map Char.toNat) = (b.toList.map Char.toNat) := by
    have := congrArg (fun z : Str => z.cps.toList) h
    simpa using this
  have inj : ∀ (l m : List Char), l.map Char.toNat = m.map Char.toNat → l = m := by
    intro l
    induction l with
    | nil => intro m h; cases m with
      | nil => rfl
      | cons _ _ => cases h
    | cons c l ih => intro m h; cases m with
      | nil => cases h
      | cons d m =>
        simp only [List.map_cons, List.cons.injEq] at h
        rw [ih m h.2, Char.toNat_inj.mp h.1]
  exact String.toList_inj.mp (inj _ _ h1)
theorem sOk (a : String) : PyData.strOk (Str.ofString a) = true := by
  rw [Str.ofString_eq_toList]
  unfold PyData.strOk
  rw [Array.all_eq_true']
  intro c hc
  have hc : c ∈ a.toList.map Char.toNat := by simpa using hc
  obtain ⟨d, _, rfl⟩ := List.mem_map.mp hc
  have := d.valid
  have h : d.toNat < 0x110000 := by
    rcases this with h | h
    · have : d.val.toNat < 0xd800 := h
      show d.val.toNat < _
      omega
    · exact h.2
  exact decide_eq_true h
theorem shaped_str {x : Str} (h : PyData.strOk x = true) : SeqAt.shaped (.str x) = true := by
  unfold SeqAt.shaped PyData.canLay0 PyData.depth
  rw [h]
  rfl
theorem eqv_str (x y : Str) : PyData.eqv (.str x) (.str y) = decide (x = y) := by
  unfold PyData.eqv
  by_cases h : x = y
  · subst h
    simp
  · simp [h]
theorem q_str {x y : Str} {S : Sto} {k : Bool → Prop} (h1 : PyData.strOk x = true) (h2 : PyData.strOk y = true) : eqSem (.str x) (.str y) S k = k (decide (x = y)) := propext ⟨fun ⟨t, u, g1, g2, _, _, h⟩ => (by
    cases g1; cases g2
    rw [eqv_str] at h
    exact h), fun h => ⟨_, _, .str x, .str y, shaped_str h1, shaped_str h2, (by
    rw [eqv_str]
    exact h)⟩⟩
theorem q_lit {a b : String} {S : Sto} {k : Bool → Prop} : eqSem (.str (Str.ofString a)) (.str (Str.ofString b)) S k = k (decide (a = b)) := by
  rw [q_str (sOk a) (sOk b)]
  congr 1
  simp only [sOf]
theorem q_pair {a b c d : Int} {S : Sto} {k : Bool → Prop} : eqSem (.tup [.int a, .int b]) (.tup [.int c, .int d]) S k = k (decide (a = c) && decide (b = d)) := by
  have e : PyData.eqv (.tuple [.int a, .int b]) (.tuple [.int c, .int d]) = (decide (a = c) && decide (b = d)) := by
    have h : ∀ i j : Int, PyData.eqv (.int i) (.int j) = decide (i = j) := fun i j => by
      unfold PyData.eqv
      rfl
    simp only [PyData.eqv, PyData.eqvAll, Bool.and_true]
    rfl
  refine propext ⟨fun ⟨t, u, g1, g2, _, _, h⟩ => ?_, fun h => ⟨.tuple [.int a, .int b], .tuple [.int c, .int d], .tup (.cons (.int _) (.cons (.int _) .nil)), .tup (.cons (.int _) (.cons (.int _) .nil)), rfl, rfl, by rw [e]; exact h⟩⟩
  cases g1 with | tup g1 =>
  cases g1 with | cons a1 g1 =>
  cases g1 with | cons a2 g1 =>
  cases g1
  cases a1
  cases a2
  cases g2 with | tup g2 =>
  cases g2 with | cons a1 g2 =>
  cases g2 with | cons a2 g2 =>
  cases g2
  cases a1
  cases a2
  rw [e] at h
  exact h
/-! ### roots of whole numbers -/
def isq : Nat → Nat
  | 0 => 0
  | n + 1 => if (isq n + 1) * (isq n + 1) ≤ n + 1 then isq n + 1 else isq n
theorem isq_spec : ∀ n, isq n * isq n ≤ n ∧ n < (isq n + 1) * (isq n + 1)
  | 0 => ⟨Nat.le_refl _, by decide⟩
  | n + 1 => by
    obtain ⟨h1, h2⟩ := isq_spec n
    unfold isq
    split
    · rename_i h
      refine ⟨h, ?_⟩
      have : (isq n + 1) * (isq n + 1) < (isq n + 1 + 1) * (isq n + 1 + 1) := Nat.mul_lt_mul'' (Nat.lt_succ_self _) (Nat.lt_succ_self _)
      omega
    · rename_i h
      exact ⟨by omega, by omega⟩
theorem isq_uniq {n r : Nat} (h1 : r * r ≤ n) (h2 : n < (r + 1) * (r + 1)) : r = isq n := by
  obtain ⟨h3, h4⟩ := isq_spec n
  have lt : ∀ {a b : Nat}, a * a < (b + 1) * (b + 1) → a ≤ b := fun {a b} h => by
    refine Nat.le_of_not_lt fun z => ?_
    have := Nat.mul_le_mul (show b + 1 ≤ a from z) (show b + 1 ≤ a from z)
    omega
  exact Nat.le_antisymm (lt (Nat.lt_of_le_of_lt h1 h4)) (lt (Nat.lt_of_le_of_lt h3 h2))
theorem isq_sq (r : Nat) : isq (r * r) = r := (isq_uniq (Nat.le_refl _) (Nat.mul_lt_mul'' (Nat.lt_succ_self _) (Nat.lt_succ_self _))).symm
theorem b_isq {i : Int} {S : Sto} {Q : Po} (h0 : 0 ≤ i) (h : i.toNat.log2 ≤ 13000) : biSem .isqrt [.int i] S Q = Q (.int (isq i.toNat : Nat)) S :=
  propext ⟨fun ⟨r, _, _, h1, h2, q⟩ => (by rw [← isq_uniq h1 h2]; exact q), fun q => ⟨isq i.toNat, h0, h, (isq_spec _).1, (isq_spec _).2, q⟩⟩
end Ev
end
section
set_option Elab.async false
set_option linter.all false
set_option maxRecDepth 100000
set_option maxHeartbeats 400000
/-! Ev: fractions as data. -/
namespace Ev
/-- a fraction as the program has it -/
def FD (x : Rat) : D := .tup [.int x.num, .int (x.den : Int)]
/-- its sizes -/
def Sz (k : Nat) (x : Rat) : Prop := x.num.natAbs < 2 ^ k ∧ x.den < 2 ^ k
theorem log_le {n k : Nat} (h : n < 2 ^ k) : n.log2 ≤ k := by
  by_cases h0 : n = 0
  · subst h0
    simp
  · exact Nat.le_of_lt ((Nat.log2_lt h0).mpr h)
theorem mul_ok {i j : Int} {a b : Nat} (h1 : i.natAbs < 2 ^ a) (h2 : j.natAbs < 2 ^ b) (h : a + b < 1000000) : MulOk i j := by
  have := log_le h1
  have := log_le h2
  show _ + _ < _
  omega
theorem div_ok {i j : Int} {k : Nat} (h0 : j ≠ 0) (h1 : j.natAbs < 2 ^ k) (h : k < 9000) : DivOk i j := ⟨h0, Nat.lt_of_le_of_lt (log_le h1) h⟩
theorem gcd_lt {a b : Int} {k : Nat} (h0 : b ≠ 0) (h : b.natAbs < 2 ^ k) : Nat.gcd a.natAbs b.natAbs < 2 ^ k := Nat.lt_of_le_of_lt (Nat.gcd_le_right _ (by omega)) h
theorem gcd_ne {a b : Int} (h0 : b ≠ 0) : Nat.gcd a.natAbs b.natAbs ≠ 0 := fun h => h0 (by have := Nat.eq_zero_of_gcd_eq_zero_right h; omega)
theorem fd_pos {a b : Int} (h : 0 < b) : D.tup [.int (a.fdiv (Nat.gcd a.natAbs b.natAbs : Nat)), .int (b.fdiv (Nat.gcd a.natAbs b.natAbs : Nat))] = FD (Rat.divInt a b) := by
  unfold FD
  have hs : b.sign = 1 := Int.sign_eq_one_of_pos h
  have hg : (Int.gcd b a) = Nat.gcd a.natAbs b.natAbs := by rw [Int.gcd_comm]; rfl
  rw [Rat.num_divInt, Rat.den_divInt, hs, if_neg (by omega), hg, Int.one_mul, Int.fdiv_eq_ediv_of_nonneg _ (by omega), Int.fdiv_eq_ediv_of_nonneg _ (by omega)]
  congr 4
  rw [Int.natCast_ediv]
  congr 1
  omega
theorem fd_neg {a b : Int} (h : b < 0) : D.tup [.int (a.fdiv (0 - (Nat.gcd a.natAbs b.natAbs : Nat))), .int (b.fdiv (0 - (Nat.gcd a.natAbs b.natAbs : Nat)))] = FD (Rat.divInt a b) := by
  have key : ∀ c : Int, ((Nat.gcd a.natAbs b.natAbs : Nat) : Int) ∣ c → c.fdiv (0 - (Nat.gcd a.natAbs b.natAbs : Nat)) = -c / (Nat.gcd a.natAbs b.natAbs : Nat) := fun c hc => by
    rw [Int.zero_sub, Int.fdiv_eq_ediv_of_dvd (by rw [Int.neg_dvd]; exact hc), Int.ediv_neg, Int.neg_ediv_of_dvd hc]
  have d1 : ((Nat.gcd a.natAbs b.natAbs : Nat) : Int) ∣ a := Int.ofNat_dvd_left.mpr (Nat.gcd_dvd_left _ _)
  have d2 : ((Nat.gcd a.natAbs b.natAbs : Nat) : Int) ∣ b := Int.ofNat_dvd_left.mpr (Nat.gcd_dvd_right _ _)
  rw [key a d1, key b d2]
  unfold FD
  have hs : b.sign = -1 := Int.sign_eq_neg_one_of_neg h
  have hg : (Int.gcd b a) = Nat.gcd a.natAbs b.natAbs := by rw [Int.gcd_comm]; rfl
  rw [Rat.num_divInt, Rat.den_divInt, hs, if_neg (by omega), hg, Int.neg_one_mul]
  congr 4
  rw [Int.natCast_ediv]
  congr 1
  omega
theorem den_ne (x : Rat) : (x.den : Int) ≠ 0 := by
  have := x.den_nz
  omega
theorem den_pos (x : Rat) : (0 : Int) < x.den := by
  have := x.den_nz
  omega
theorem add_eq (x y : Rat) : Rat.divInt (x.num * y.den + y.num * x.den) (x.den * y.den) = x + y := by
  rw [Rat.add_def', ← Rat.divInt_ofNat, Int.natCast_mul]
theorem mul_eq (x y : Rat) : Rat.divInt (x.num * y.num) (x.den * y.den) = x * y := by
  rw [Rat.mul_def', ← Rat.divInt_ofNat, Int.natCast_mul]
theorem div_eq (x y : Rat) : Rat.divInt (x.num * y.den) (x.den * y.num) = x / y := by
  rw [Rat.div_def, Rat.inv_def]
  conv => rhs; lhs; rw [← Rat.num_divInt_den x]
  rw [Rat.divInt_mul_divInt]
theorem lt_eq (x y : Rat) : (x.num * y.den < y.num * x.den) ↔ x < y := (Rat.lt_iff x y).symm
theorem neg_eq (x : Rat) : D.tup [.int (0 - x.num), .int (x.den : Int)] = FD (-x) := by
  unfold FD
  rw [Rat.neg_num, Rat.neg_den, Int.zero_sub]
/-! ### sizes -/
theorem Sz.mono {a b : Nat} {x : Rat} (h : Sz a x) (hab : a ≤ b) : Sz b x := by
  have := Nat.pow_le_pow_right (n := 2) (by decide) hab
  exact ⟨Nat.lt_of_lt_of_le h.1 this, Nat.lt_of_lt_of_le h.2 this⟩
theorem sz_divInt {a b : Int} {k : Nat} (h1 : a.natAbs < 2 ^ k) (h2 : b.natAbs < 2 ^ k) (h0 : b ≠ 0) : Sz k (Rat.divInt a b) := by
  have hp : 0 < 2 ^ k := Nat.pow_pos (by decide)
  refine ⟨?_, ?_⟩
  · rw [Rat.num_divInt]
    refine Nat.lt_of_le_of_lt (Int.natAbs_ediv_le_natAbs _ _) ?_
    rw [Int.natAbs_mul, Int.natAbs_sign_of_ne_zero h0, Nat.one_mul]
    exact h1
  · rw [Rat.den_divInt, if_neg h0]
    exact Nat.lt_of_le_of_lt (Nat.div_le_self _ _) h2
theorem mul_lt {i j : Int} {a b : Nat} (h1 : i.natAbs < 2 ^ a) (h2 : j.natAbs < 2 ^ b) : (i * j).natAbs < 2 ^ (a + b) := by
  rw [Int.natAbs_mul, Nat.pow_add]
  exact Nat.mul_lt_mul'' h1 h2
theorem add_lt {i j : Int} {a : Nat} (h1 : i.natAbs < 2 ^ a) (h2 : j.natAbs < 2 ^ a) : (i + j).natAbs < 2 ^ (a + 1) := by
  have := Int.natAbs_add_le i j
  rw [Nat.pow_succ]
  omega
theorem Sz.num {k : Nat} {x : Rat} (h : Sz k x) : x.num.natAbs < 2 ^ k := h.1
theorem Sz.den {k : Nat} {x : Rat} (h : Sz k x) : ((x.den : Nat) : Int).natAbs < 2 ^ k := h.2
theorem lt_up {n a b : Nat} (h : n < 2 ^ a) (hab : a ≤ b) : n < 2 ^ b := Nat.lt_of_lt_of_le h (Nat.pow_le_pow_right (by decide) hab)
theorem sz_neg {a : Nat} {x : Rat} (h : Sz a x) : Sz a (-x) := ⟨by rw [Rat.neg_num, Int.natAbs_neg]; exact h.1, h.2⟩
theorem sz_mul {a b : Nat} {x y : Rat} (h1 : Sz a x) (h2 : Sz b y) : Sz (a + b) (x * y) := by
  rw [← mul_eq]
  exact sz_divInt (mul_lt h1.num h2.num) (mul_lt h1.den h2.den) (Int.mul_ne_zero (den_ne x) (den_ne y))
theorem sz_add {a b : Nat} {x y : Rat} (h1 : Sz a x) (h2 : Sz b y) : Sz (a + b + 1) (x + y) := by
  rw [← add_eq]
  refine sz_divInt (add_lt (mul_lt h1.num h2.den) (lt_up (mul_lt h2.num h1.den) (by omega))) (lt_up (mul_lt h1.den h2.den) (by omega)) (Int.mul_ne_zero (den_ne x) (den_ne y))
theorem sz_sub {a b : Nat} {x y : Rat} (h1 : Sz a x) (h2 : Sz b y) : Sz (a + b + 1) (x - y) := by
  rw [Rat.sub_eq_add_neg]
  exact sz_add h1 (sz_neg h2)
theorem num_ne {x : Rat} (h : x ≠ 0) : x.num ≠ 0 := fun z => h (Rat.num_eq_zero.mp z)
theorem sz_div {a b : Nat} {x y : Rat} (h1 : Sz a x) (h2 : Sz b y) (h0 : y ≠ 0) : Sz (a + b) (x / y) := by
  rw [← div_eq]
  exact sz_divInt (mul_lt h1.num h2.den) (mul_lt h1.den h2.num) (Int.mul_ne_zero (den_ne x) (num_ne h0))
end Ev
end
section
set_option Elab.async false
set_option linter.all false
set_option maxRecDepth 100000
set_option maxHeartbeats 400000
/-! Ev: loops, stores that grow, the box of drawn numbers. -/
namespace Ev
open PySem
/-- the store has grown by new things alone -/
def Gr (S S' : Sto) : Prop := ∃ T, S' = S ++ T
theorem Gr.refl {S : Sto} : Gr S S := ⟨[], by simp⟩
theorem Gr.one {S : Sto} {o : Ob} : Gr S (S ++ [o]) := ⟨[o], rfl⟩
theorem Gr.trans {S S' S2 : Sto} (a : Gr S S') (b : Gr S' S2) : Gr S S2 := by
  obtain ⟨T, rfl⟩ := a
  obtain ⟨T2, rfl⟩ := b
  exact ⟨T ++ T2, by simp⟩
theorem Gr.lst {S S' : Sto} {n : Nat} {xs : List D} (g : Gr S S') (h : lstAt S n = some xs) : lstAt S' n = some xs := by
  obtain ⟨T, rfl⟩ := g
  exact lst_old h
theorem lst_lt {S : Sto} {n : Nat} {xs : List D} (h : lstAt S n = some xs) : n < S.length := by
  unfold lstAt at h
  cases q : S[n]? with
  | none => rw [q] at h; cases h
  | some o => exact (List.getElem?_eq_some_iff.mp q).1
theorem lst_set {S : Sto} {n : Nat} {xs : List D} (h : n < S.length) : lstAt (S.set n (.lst xs)) n = some xs := by
  unfold lstAt
  rw [List.getElem?_set_self h]
theorem lst_set_ne {S : Sto} {n m : Nat} {o : Ob} (h : n ≠ m) : lstAt (S.set n o) m = lstAt S m := by
  unfold lstAt
  rw [List.getElem?_set_ne h]
theorem st_lst {S : Sto} {n : Nat} {a : List D} {i : Int} {v : D} {k : Sto → Prop} (h : lstAt S n = some a) : setSem (.ref n) (.int i) v S k = ∃ p, place a.length i = some p ∧ k (S.set n (.lst (a.set p v))) := by
  have hd : ∀ kvs, S[n]? ≠ some (.dct kvs) := fun kvs q => by
    unfold lstAt at h
    rw [q] at h
    cases h
  refine propext ⟨fun h' => ?_, fun ⟨p, h1, h2⟩ => .inl ⟨a, i, p, h, rfl, h1, h2⟩⟩
  rcases h' with ⟨xs, j, p, e, e2, h1, h2⟩ | ⟨kvs, _, e, _⟩
  · rw [h] at e
    cases e
    cases e2
    exact ⟨p, h1, h2⟩
  · exact absurd e (hd kvs)
/-! ### items, one by one -/
theorem gather_R {ok : Sto → Prop} {f : D → Sto → (Option D → Sto → Prop) → Prop} {Q : Pl} {R : Sto → Prop} (F : D → Option D) : ∀ (xs acc : List D) (S : Sto), R S → (∀ S1, R S1 → ok S1) →
    (∀ x ∈ xs, ∀ S1, R S1 → ∀ k : Option D → Sto → Prop, (∀ S2, R S2 → k (F x) S2) → f x S1 k) → acc.length + xs.length ≤ most → (∀ S1, R S1 → Q (acc ++ xs.filterMap F) S1) → gather ok f xs acc S Q
  | [], acc, S, hS, hok, _, _, q => ⟨hok S hS, by simpa using q S hS⟩
  | x :: xs, acc, S, hS, hok, h, hl, q => by
    rw [List.length_cons] at hl
    refine ⟨hok S hS, h x List.mem_cons_self S hS _ fun S2 h2 => ?_⟩
    cases e : F x with
    | none => exact gather_R F xs acc S2 h2 hok (fun y hy => h y (List.mem_cons_of_mem _ hy)) (by omega) (fun S1 h1 => by have := q S1 h1; rw [List.filterMap_cons, e] at this; exact this)
    | some y =>
      refine ⟨by omega, gather_R F xs (acc ++ [y]) S2 h2 hok (fun y hy => h y (List.mem_cons_of_mem _ hy)) (by rw [List.length_append, List.length_cons, List.length_nil]; omega) (fun S1 h1 => ?_)⟩
      have := q S1 h1
      rw [List.filterMap_cons, e] at this
      rw [List.append_assoc]
      exact this
/-- a for: what holds at each turn -/
theorem walk_I {ok : Sto → Prop} {g : D → Env → Sto → (Env → Prop) → Prop} {body : Env → Sto → Kn → Prop} {K : Kn} (I : List D → Env → Sto → Prop) (hok : ∀ xs env S, I xs env S → ok S)
    (hs : ∀ x xs env S, I (x :: xs) env S → ∀ N : Env → Sto → Prop, (∀ env' S', I xs env' S' → N env' S') → g x env S fun env1 => body env1 S { K with nx := N, ct := N, bk := K.nx }) (hd : ∀ env S, I [] env S → K.nx env S) :
    ∀ (xs : List D) (env : Env) (S : Sto), I xs env S → walk ok g body xs env S K
  | [], env, S, h => ⟨hok _ _ _ h, hd env S h⟩
  | x :: xs, env, S, h => ⟨hok _ _ _ h, hs x xs env S h _ fun env' S' h' => walk_I I hok hs hd xs env' S' h'⟩
/-! ### the box -/
structure Box (S : Sto) (n : Nat) (k : Nat) : Prop where
  ex : ∃ (g : Int) (b : Bool) (m c : Int), lstAt S n = some [.int g, .bl b, .int m, .int c] ∧ 0 ≤ g ∧ 0 ≤ m ∧ m < 2147483648 ∧ 0 ≤ c ∧ c ≤ k
theorem Box.mono {S : Sto} {n k l : Nat} (b : Box S n k) (h : k ≤ l) : Box S n l := by
  obtain ⟨g, x, m, c, h1, h2, h3, h4, h5, h6⟩ := b.ex
  exact ⟨g, x, m, c, h1, h2, h3, h4, h5, by omega⟩
theorem Box.gr {S S' : Sto} {n k : Nat} (g : Gr S S') (b : Box S n k) : Box S' n k := by
  obtain ⟨gg, x, m, c, h1, h⟩ := b.ex
  exact ⟨gg, x, m, c, g.lst h1, h⟩
/-- all else of the store stays, new things come -/
structure Fr (n : Nat) (S S' : Sto) : Prop where
  le : S.length ≤ S'.length
  at_ : ∀ i, i ≠ n → i < S.length → S'[i]? = S[i]?
theorem Fr.refl {n : Nat} {S : Sto} : Fr n S S := ⟨Nat.le_refl _, fun _ _ _ => rfl⟩
theorem Fr.trans {n : Nat} {S S' S2 : Sto} (a : Fr n S S') (b : Fr n S' S2) : Fr n S S2 := ⟨Nat.le_trans a.le b.le, fun i h1 h2 => (b.at_ i h1 (Nat.lt_of_lt_of_le h2 a.le)).trans (a.at_ i h1 h2)⟩
theorem Gr.fr {n : Nat} {S S' : Sto} (g : Gr S S') : Fr n S S' := by
  obtain ⟨T, rfl⟩ := g
  exact ⟨by simp, fun i _ h => List.getElem?_append_left h⟩
theorem Fr.set {n : Nat} {S : Sto} {o : Ob} : Fr n S (S.set n o) := ⟨by simp, fun i h _ => List.getElem?_set_ne (Ne.symm h)⟩
theorem Fr.lst {n m : Nat} {S S' : Sto} {xs : List D} (f : Fr n S S') (hm : m ≠ n) (h : lstAt S m = some xs) : lstAt S' m = some xs := by
  have hl := lst_lt h
  unfold lstAt at h ⊢
  rw [f.at_ m hm hl]
  exact h
theorem s_fz {S : Sto} {a : List D} {lo hi : Option Int} {Q : Po} : slSem (.fz a) lo hi S Q = Q (.ref S.length) (S ++ [.lst (cut a lo hi)]) := rfl
theorem s_tup {S : Sto} {a : List D} {lo hi : Option Int} {Q : Po} : slSem (.tup a) lo hi S Q = Q (.tup (cut a lo hi)) S := rfl
theorem s_str {S : Sto} {z : Str} {lo hi : Option Int} {Q : Po} : slSem (.str z) lo hi S Q = (z.length ≤ most ∧ Q (.str ⟨(cut z.cps.toList lo hi).toArray⟩) S) := rfl
theorem s_lst {S : Sto} {n : Nat} {a : List D} {lo hi : Option Int} {Q : Po} (h : lstAt S n = some a) : slSem (.ref n) lo hi S Q = Q (.ref S.length) (S ++ [.lst (cut a lo hi)]) :=
  propext ⟨fun ⟨xs, e, q⟩ => (by rw [h] at e; cases e; exact q), fun q => ⟨a, h, q⟩⟩
theorem ints_map : ∀ l : List Int, intsD (l.map D.int) = some l
  | [] => rfl
  | i :: l => by
    show (intsD (l.map D.int)).map (i :: ·) = _
    rw [ints_map l]
    rfl
theorem ints_cut (l : List Int) (lo hi : Option Int) : intsD (cut (l.map D.int) lo hi) = some (cut l lo hi) := by
  have : cut (l.map D.int) lo hi = (cut l lo hi).map D.int := by
    unfold cut
    rw [List.length_map, ← List.map_drop, ← List.map_take]
  rw [this, ints_map]
theorem place_ok {n : Nat} {d : Int} (h0 : 0 ≤ d) (h1 : d < n) : place n d = some d.toNat := by
  unfold place
  rw [if_pos h0, if_pos h1]
theorem b_lenl {S : Sto} {n : Nat} {a : List D} {Q : Po} (h : lstAt S n = some a) : biSem .len [.ref n] S Q = Q (.int (a.length : Nat)) S := by
  have hd : dctAt S n = none := by
    unfold lstAt at h
    unfold dctAt
    cases q : S[n]? with
    | none => rfl
    | some o => rw [q] at h; cases o <;> first | rfl | cases h
  refine propext ⟨fun h' => ?_, fun q => .inl ⟨a, h, q⟩⟩
  rcases h' with ⟨xs, e, q⟩ | ⟨_, e, _⟩
  · rw [h] at e
    cases e
    exact q
  · rw [hd] at e
    cases e
theorem perm_erase {α : Type} {xs : List α} {j : Nat} (h : j < xs.length) : (xs[j] :: xs.eraseIdx j).Perm xs := by
  induction xs generalizing j with
  | nil => simp at h
  | cons x xs ih =>
    cases j with
    | zero => simp
    | succ j =>
      have h' : j < xs.length := by simpa using h
      rw [List.eraseIdx_cons_succ, List.getElem_cons_succ]
      exact (List.Perm.swap x _ _).trans ((ih h').cons x)
/-! ### the same data -/
mutual
/-- two data alike through and through, of kinds alike (no dicts), none of it the box -/
inductive Sm (b : Nat) (S : Sto) : Nat → D → D → Prop
  | non {k : Nat} : Sm b S k .non .non
  | bl {k : Nat} (x : Bool) : Sm b S k (.bl x) (.bl x)
  | int {k : Nat} (i : Int) : Sm b S k (.int i) (.int i)
  | str {k : Nat} {z : Str} : PyData.strOk z = true → z.length ≤ 1000 → Sm b S k (.str z) (.str z)
  | tup {k : Nat} {xs ys : List D} : xs.length ≤ 100000 → Sms b S k xs ys → Sm b S (k + 1) (.tup xs) (.tup ys)
  | lst {k n m : Nat} {xs ys : List D} : n ≠ b → m ≠ b → lstAt S n = some xs → lstAt S m = some ys → xs.length ≤ 100000 → Sms b S k xs ys → Sm b S (k + 1) (.ref n) (.ref m)
inductive Sms (b : Nat) (S : Sto) : Nat → List D → List D → Prop
  | nil {k : Nat} : Sms b S k [] []
  | cons {k : Nat} {x y : D} {xs ys : List D} : Sm b S k x y → Sms b S k xs ys → Sms b S k (x :: xs) (y :: ys)
end
mutual
theorem Sm.fr {b : Nat} {S S' : Sto} (f : Fr b S S') : ∀ {k : Nat} {x y : D}, Sm b S k x y → Sm b S' k x y
  | _, _, _, .non => .non
  | _, _, _, .bl x => .bl x
  | _, _, _, .int i => .int i
  | _, _, _, .str h h2 => .str h h2
  | _, _, _, .tup hl h => .tup hl (Sms.fr f h)
  | _, _, _, .lst h1 h2 h3 h4 hl h => .lst h1 h2 (f.lst h1 h3) (f.lst h2 h4) hl (Sms.fr f h)
theorem Sms.fr {b : Nat} {S S' : Sto} (f : Fr b S S') : ∀ {k : Nat} {x y : List D}, Sms b S k x y → Sms b S' k x y
  | _, _, _, .nil => .nil
  | _, _, _, .cons h r => .cons (Sm.fr f h) (Sms.fr f r)
end
theorem Sms.len {b : Nat} {S : Sto} : ∀ {k : Nat} {x y : List D}, Sms b S k x y → x.length = y.length
  | _, _, _, .nil => rfl
  | _, _, _, .cons _ r => congrArg (· + 1) (Sms.len r)
theorem Sms.get {b : Nat} {S : Sto} : ∀ {k : Nat} {x y : List D} {i : Nat} (h1 : i < x.length) (h2 : i < y.length), Sms b S k x y → Sm b S k x[i] y[i]
  | _, _, _, 0, _, _, .cons h _ => h
  | _, _, _, i + 1, h1, h2, .cons _ r => Sms.get (i := i) (by simpa using h1) (by simpa using h2) r
mutual
theorem Sm.up {b : Nat} {S : Sto} : ∀ {k l : Nat} {x y : D}, k ≤ l → Sm b S k x y → Sm b S l x y
  | _, _, _, _, _, .non => .non
  | _, _, _, _, _, .bl x => .bl x
  | _, _, _, _, _, .int i => .int i
  | _, _, _, _, _, .str h h2 => .str h h2
  | _, 0, _, _, h, .tup hl r => absurd h (by omega)
  | _, l + 1, _, _, h, .tup hl r => .tup hl (Sms.up (by omega) r)
  | _, 0, _, _, h, .lst _ _ _ _ _ r => absurd h (by omega)
  | _, l + 1, _, _, h, .lst h1 h2 h3 h4 hl r => .lst h1 h2 h3 h4 hl (Sms.up (by omega) r)
theorem Sms.up {b : Nat} {S : Sto} : ∀ {k l : Nat} {x y : List D}, k ≤ l → Sms b S k x y → Sms b S l x y
  | _, _, _, _, _, .nil => .nil
  | _, _, _, _, h, .cons r q => .cons (Sm.up h r) (Sms.up h q)
end
theorem sm_fd {b : Nat} {S : Sto} {k : Nat} {x : Rat} : Sm b S (k + 1) (FD x) (FD x) := .tup (by show 2 ≤ 100000; decide) (.cons (.int _) (.cons (.int _) .nil))
theorem sm_lit {b : Nat} {S : Sto} {k : Nat} {a : String} (h : (Str.ofString a).length ≤ 1000) : Sm b S k (.str (Str.ofString a)) (.str (Str.ofString a)) := .str (sOk a) h
/-- a list of ints that is none -/
theorem q_nil {S : Sto} {n m : Nat} {k : Bool → Prop} (h1 : lstAt S n = some []) (h2 : lstAt S m = some []) (h : k true) : eqSem (.ref n) (.ref m) S k :=
  ⟨.list [], .list [], .lst h1 .nil, .lst h2 .nil, rfl, rfl, (by
    have e : PyData.eqv (.list []) (.list []) = true := by simp only [PyData.eqv, PyData.eqvAll]
    rw [e]
    exact h)⟩
end Ev
end
section
set_option Elab.async false
set_option linter.all false
set_option maxRecDepth 100000
set_option maxHeartbeats 0
namespace EvL
open PySem PySem.Spec L2
def top (i : Nat) : Stmt := PySem.Challenge.pw_evenlayers_k01_fractions.main.body.getD i (.Pass ⟨0, 0, 0, 0⟩)
/-- is_integer(value) 0:value -/
def is_integer_1 : Ev.St := (.ret (.and (.isi (.var 0) [.int]) (.nt (.isi (.var 0) [.bool]))))
def f_is_integer : Ev.Fn := ⟨1, 1,
  is_integer_1⟩
abbrev i_is_integer : Nat := 0
def x_is_integer : Ev.Df := ⟨⟨("is_integer", none), "is_integer", "is_integer", defArgs (top 5), defBody (top 5), defScope (top 5), [], []⟩, ["value"], ["value"], f_is_integer⟩
/-- is_tuple_of(value, size) 0:value 1:size -/
def is_tuple_of_1 : Ev.St := (.ret (.and (.isi (.var 0) [.tup]) (.cmp .Eq (.bi .len (.cons (.var 0) .nil)) (.var 1))))
def f_is_tuple_of : Ev.Fn := ⟨2, 2,
  is_tuple_of_1⟩
abbrev i_is_tuple_of : Nat := 1
def x_is_tuple_of : Ev.Df := ⟨⟨("is_tuple_of", none), "is_tuple_of", "is_tuple_of", defArgs (top 6), defBody (top 6), defScope (top 6), [], []⟩, ["value", "size"], ["value", "size"], f_is_tuple_of⟩
/-- is_fraction(value) 0:value 1:item -/
def is_fraction_1 : Ev.St := (.ite (.or (.nt (.call 1 (.cons (.var 0) (.cons (.int 2) .nil)))) (.nt (.bi .all (.cons (.comp (.call 0 (.cons (.var 1) .nil)) (.nm 1) (.val (.var 0)) .nil [1]) .nil))))
  (.ret (.bl false))
  .skip)
def is_fraction_2 : Ev.St := (.ret (.and (.cmp .Gt (.ix (.var 0) (.int 1)) (.int 0)) (.cmp .Eq (.bi .gcd (.cons (.ix (.var 0) (.int 0)) (.cons (.ix (.var 0) (.int 1)) .nil))) (.int 1))))
def f_is_fraction : Ev.Fn := ⟨1, 2,
  (.seq is_fraction_1 is_fraction_2)⟩
abbrev i_is_fraction : Nat := 2
def x_is_fraction : Ev.Df := ⟨⟨("is_fraction", none), "is_fraction", "is_fraction", defArgs (top 9), defBody (top 9), defScope (top 9), [], []⟩, ["value"], ["value", "item"], f_is_fraction⟩
/-- reduced(top, bottom) 0:top 1:bottom 2:common -/
def reduced_1 : Ev.St := (.set 2 (.ife (.cmp .Gt (.var 1) (.int 0)) (.bi .gcd (.cons (.var 0) (.cons (.var 1) .nil))) (.bin .Sub (.int 0) (.bi .gcd (.cons (.var 0) (.cons (.var 1) .nil))))))
def reduced_2 : Ev.St := (.ret (.tup (.cons (.bin .FloorDiv (.var 0) (.var 2)) (.cons (.bin .FloorDiv (.var 1) (.var 2)) .nil))))
def f_reduced : Ev.Fn := ⟨2, 3,
  (.seq reduced_1 reduced_2)⟩
abbrev i_reduced : Nat := 3
def x_reduced : Ev.Df := ⟨⟨("reduced", none), "reduced", "reduced", defArgs (top 10), defBody (top 10), defScope (top 10), [], []⟩, ["top", "bottom"], ["top", "bottom", "common"], f_reduced⟩
/-- added(one, other) 0:one 1:other -/
def added_1 : Ev.St := (.ret (.call 3 (.cons (.bin .Add (.bin .Mult (.ix (.var 0) (.int 0)) (.ix (.var 1) (.int 1))) (.bin .Mult (.ix (.var 1) (.int 0)) (.ix (.var 0) (.int 1)))) (.cons (.bin .Mult (.ix (.var 0) (.int 1)) (.ix (.var 1) (.int 1))) .nil))))
def f_added : Ev.Fn := ⟨2, 2,
  added_1⟩
abbrev i_added : Nat := 4
def x_added : Ev.Df := ⟨⟨("added", none), "added", "added", defArgs (top 11), defBody (top 11), defScope (top 11), [], []⟩, ["one", "other"], ["one", "other"], f_added⟩
/-- opposite(number) 0:number -/
def opposite_1 : Ev.St := (.ret (.tup (.cons (.bin .Sub (.int 0) (.ix (.var 0) (.int 0))) (.cons (.ix (.var 0) (.int 1)) .nil))))
def f_opposite : Ev.Fn := ⟨1, 1,
  opposite_1⟩
abbrev i_opposite : Nat := 5
def x_opposite : Ev.Df := ⟨⟨("opposite", none), "opposite", "opposite", defArgs (top 12), defBody (top 12), defScope (top 12), [], []⟩, ["number"], ["number"], f_opposite⟩
/-- lessened(one, other) 0:one 1:other -/
def lessened_1 : Ev.St := (.ret (.call 4 (.cons (.var 0) (.cons (.call 5 (.cons (.var 1) .nil)) .nil))))
def f_lessened : Ev.Fn := ⟨2, 2,
  lessened_1⟩
abbrev i_lessened : Nat := 6
def x_lessened : Ev.Df := ⟨⟨("lessened", none), "lessened", "lessened", defArgs (top 13), defBody (top 13), defScope (top 13), [], []⟩, ["one", "other"], ["one", "other"], f_lessened⟩
/-- product(one, other) 0:one 1:other -/
def product_1 : Ev.St := (.ret (.call 3 (.cons (.bin .Mult (.ix (.var 0) (.int 0)) (.ix (.var 1) (.int 0))) (.cons (.bin .Mult (.ix (.var 0) (.int 1)) (.ix (.var 1) (.int 1))) .nil))))
def f_product : Ev.Fn := ⟨2, 2,
  product_1⟩
abbrev i_product : Nat := 7
def x_product : Ev.Df := ⟨⟨("product", none), "product", "product", defArgs (top 14), defBody (top 14), defScope (top 14), [], []⟩, ["one", "other"], ["one", "other"], f_product⟩
/-- quotient(one, other) 0:one 1:other -/
def quotient_1 : Ev.St := (.ret (.call 3 (.cons (.bin .Mult (.ix (.var 0) (.int 0)) (.ix (.var 1) (.int 1))) (.cons (.bin .Mult (.ix (.var 0) (.int 1)) (.ix (.var 1) (.int 0))) .nil))))
def f_quotient : Ev.Fn := ⟨2, 2,
  quotient_1⟩
abbrev i_quotient : Nat := 8
def x_quotient : Ev.Df := ⟨⟨("quotient", none), "quotient", "quotient", defArgs (top 15), defBody (top 15), defScope (top 15), [], []⟩, ["one", "other"], ["one", "other"], f_quotient⟩
/-- is_less(one, other) 0:one 1:other -/
def is_less_1 : Ev.St := (.ret (.cmp .Lt (.bin .Mult (.ix (.var 0) (.int 0)) (.ix (.var 1) (.int 1))) (.bin .Mult (.ix (.var 1) (.int 0)) (.ix (.var 0) (.int 1)))))
def f_is_less : Ev.Fn := ⟨2, 2,
  is_less_1⟩
abbrev i_is_less : Nat := 9
def x_is_less : Ev.Df := ⟨⟨("is_less", none), "is_less", "is_less", defArgs (top 16), defBody (top 16), defScope (top 16), [], []⟩, ["one", "other"], ["one", "other"], f_is_less⟩
/-- root_of(number) 0:number 1:top 2:bottom -/
def root_of_1 : Ev.St := (.ite (.cmp .Lt (.ix (.var 0) (.int 0)) (.int 0))
  (.ret .non)
  .skip)
def root_of_2 : Ev.St := (.par [1, 2] (.cons (.bi .isqrt (.cons (.ix (.var 0) (.int 0)) .nil)) (.cons (.bi .isqrt (.cons (.ix (.var 0) (.int 1)) .nil)) .nil)))
def root_of_3 : Ev.St := (.ret (.ife (.and (.cmp .Eq (.bin .Mult (.var 1) (.var 1)) (.ix (.var 0) (.int 0))) (.cmp .Eq (.bin .Mult (.var 2) (.var 2)) (.ix (.var 0) (.int 1)))) (.tup (.cons (.var 1) (.cons (.var 2) .nil))) .non))
def f_root_of : Ev.Fn := ⟨1, 3,
  (.seq root_of_1 (.seq root_of_2 root_of_3))⟩
abbrev i_root_of : Nat := 10
def x_root_of : Ev.Df := ⟨⟨("root_of", none), "root_of", "root_of", defArgs (top 17), defBody (top 17), defScope (top 17), [], []⟩, ["number"], ["number", "top", "bottom"], f_root_of⟩
/-- check_fraction(number) 0:number -/
def check_fraction_1 : Ev.St := (.ite (.nt (.call 2 (.cons (.var 0) .nil)))
  (.raise 1 (.cons (.var 0) .nil))
  .skip)
def f_check_fraction : Ev.Fn := ⟨1, 1,
  check_fraction_1⟩
abbrev i_check_fraction : Nat := 11
def x_check_fraction : Ev.Df := ⟨⟨("check_fraction", none), "check_fraction", "check_fraction", defArgs (top 18), defBody (top 18), defScope (top 18), [], []⟩, ["number"], ["number"], f_check_fraction⟩
/-- check_two(one, other) 0:one 1:other -/
def check_two_1 : Ev.St := (.expr (.call 11 (.cons (.var 0) .nil)))
def check_two_2 : Ev.St := (.expr (.call 11 (.cons (.var 1) .nil)))
def f_check_two : Ev.Fn := ⟨2, 2,
  (.seq check_two_1 check_two_2)⟩
abbrev i_check_two : Nat := 12
def x_check_two : Ev.Df := ⟨⟨("check_two", none), "check_two", "check_two", defArgs (top 19), defBody (top 19), defScope (top 19), [], []⟩, ["one", "other"], ["one", "other"], f_check_two⟩
/-- fraction(top, bottom) 0:top 1:bottom -/
def fraction_1 : Ev.St := (.ite (.nt (.call 0 (.cons (.var 0) .nil)))
  (.raise 1 (.cons (.var 0) .nil))
  .skip)
def fraction_2 : Ev.St := (.ite (.or (.nt (.call 0 (.cons (.var 1) .nil))) (.cmp .Eq (.var 1) (.int 0)))
  (.raise 1 (.cons (.var 1) .nil))
  .skip)
def fraction_3 : Ev.St := (.ret (.call 3 (.cons (.var 0) (.cons (.var 1) .nil))))
def f_fraction : Ev.Fn := ⟨2, 2,
  (.seq fraction_1 (.seq fraction_2 fraction_3))⟩
abbrev i_fraction : Nat := 13
def x_fraction : Ev.Df := ⟨⟨("fraction", none), "fraction", "fraction", defArgs (top 20), defBody (top 20), defScope (top 20), [], []⟩, ["top", "bottom"], ["top", "bottom"], f_fraction⟩
/-- plus(one, other) 0:one 1:other -/
def plus_1 : Ev.St := (.expr (.call 12 (.cons (.var 0) (.cons (.var 1) .nil))))
def plus_2 : Ev.St := (.ret (.call 4 (.cons (.var 0) (.cons (.var 1) .nil))))
def f_plus : Ev.Fn := ⟨2, 2,
  (.seq plus_1 plus_2)⟩
abbrev i_plus : Nat := 14
def x_plus : Ev.Df := ⟨⟨("plus", none), "plus", "plus", defArgs (top 21), defBody (top 21), defScope (top 21), [], []⟩, ["one", "other"], ["one", "other"], f_plus⟩
/-- minus(one, other) 0:one 1:other -/
def minus_1 : Ev.St := (.expr (.call 12 (.cons (.var 0) (.cons (.var 1) .nil))))
def minus_2 : Ev.St := (.ret (.call 6 (.cons (.var 0) (.cons (.var 1) .nil))))
def f_minus : Ev.Fn := ⟨2, 2,
  (.seq minus_1 minus_2)⟩
abbrev i_minus : Nat := 15
def x_minus : Ev.Df := ⟨⟨("minus", none), "minus", "minus", defArgs (top 22), defBody (top 22), defScope (top 22), [], []⟩, ["one", "other"], ["one", "other"], f_minus⟩
/-- times(one, other) 0:one 1:other -/
def times_1 : Ev.St := (.expr (.call 12 (.cons (.var 0) (.cons (.var 1) .nil))))
def times_2 : Ev.St := (.ret (.call 7 (.cons (.var 0) (.cons (.var 1) .nil))))
def f_times : Ev.Fn := ⟨2, 2,
  (.seq times_1 times_2)⟩
abbrev i_times : Nat := 16
def x_times : Ev.Df := ⟨⟨("times", none), "times", "times", defArgs (top 23), defBody (top 23), defScope (top 23), [], []⟩, ["one", "other"], ["one", "other"], f_times⟩
/-- over(one, other) 0:one 1:other -/
def over_1 : Ev.St := (.expr (.call 12 (.cons (.var 0) (.cons (.var 1) .nil))))
def over_2 : Ev.St := (.ite (.cmp .Eq (.var 1) (.glo "ZERO" (.tup [.int 0, .int 1])))
  (.raise 1 (.cons (.var 1) .nil))
  .skip)
def over_3 : Ev.St := (.ret (.call 8 (.cons (.var 0) (.cons (.var 1) .nil))))
def f_over : Ev.Fn := ⟨2, 2,
  (.seq over_1 (.seq over_2 over_3))⟩
abbrev i_over : Nat := 17
def x_over : Ev.Df := ⟨⟨("over", none), "over", "over", defArgs (top 24), defBody (top 24), defScope (top 24), [], []⟩, ["one", "other"], ["one", "other"], f_over⟩
/-- less(one, other) 0:one 1:other -/
def less_1 : Ev.St := (.expr (.call 12 (.cons (.var 0) (.cons (.var 1) .nil))))
def less_2 : Ev.St := (.ret (.call 9 (.cons (.var 0) (.cons (.var 1) .nil))))
def f_less : Ev.Fn := ⟨2, 2,
  (.seq less_1 less_2)⟩
abbrev i_less : Nat := 18
def x_less : Ev.Df := ⟨⟨("less", none), "less", "less", defArgs (top 25), defBody (top 25), defScope (top 25), [], []⟩, ["one", "other"], ["one", "other"], f_less⟩
/-- root(number) 0:number -/
def root_1 : Ev.St := (.expr (.call 11 (.cons (.var 0) .nil)))
def root_2 : Ev.St := (.ret (.call 10 (.cons (.var 0) .nil)))
def f_root : Ev.Fn := ⟨1, 1,
  (.seq root_1 root_2)⟩
abbrev i_root : Nat := 19
def x_root : Ev.Df := ⟨⟨("root", none), "root", "root", defArgs (top 26), defBody (top 26), defScope (top 26), [], []⟩, ["number"], ["number"], f_root⟩
/-- _law_cell(script, k) 0:script 1:k -/
def _law_cell_1 : Ev.St := (.ret (.ife (.cmp .Lt (.var 1) (.bi .len (.cons (.var 0) .nil))) (.ix (.var 0) (.var 1)) (.bin .Add (.bin .Mult (.int 7255) (.var 1)) (.bin .Mod (.bi .int (.cons (.bi .sum (.cons (.slc (.var 0) .no (.at (.int 1))) .nil)) .nil)) (.int 1000037)))))
def f__law_cell : Ev.Fn := ⟨2, 2,
  _law_cell_1⟩
abbrev i__law_cell : Nat := 20
def x__law_cell : Ev.Df := ⟨⟨("_law_cell", none), "_law_cell", "_law_cell", defArgs (top 28), defBody (top 28), defScope (top 28), [], []⟩, ["script", "k"], ["script", "k"], f__law_cell⟩
/-- _law_box(great) 0:great -/
def _law_box_1 : Ev.St := (.ret (.lst (.cons (.bi .abs (.cons (.var 0) .nil)) (.cons (.cmp .GtE (.bi .abs (.cons (.var 0) .nil)) (.bin .Pow (.int 10) (.int 18))) (.cons (.bin .Mod (.bi .int (.cons (.bi .abs (.cons (.var 0) .nil)) .nil)) (.int 2147483629)) (.cons (.int 0) .nil))))))
def f__law_box : Ev.Fn := ⟨1, 1,
  _law_box_1⟩
abbrev i__law_box : Nat := 21
def x__law_box : Ev.Df := ⟨⟨("_law_box", none), "_law_box", "_law_box", defArgs (top 29), defBody (top 29), defScope (top 29), [], []⟩, ["great"], ["great"], f__law_box⟩
/-- _law_take(box, many) 0:box 1:many 2:digit 3:mixed -/
def _law_take_1t_1 : Ev.St := (.set 2 (.bin .Mod (.bi .int (.cons (.ix (.var 0) (.int 0)) .nil)) (.var 1)))
def _law_take_1t_2 : Ev.St := (.iset (.var 0) (.int 0) (.bin .FloorDiv (.bi .int (.cons (.ix (.var 0) (.int 0)) .nil)) (.var 1)))
def _law_take_1t_3 : Ev.St := (.ret (.var 2))
def _law_take_1 : Ev.St := (.ite (.and (.ix (.var 0) (.int 1)) (.cmp .Gt (.ix (.var 0) (.int 0)) (.int 0)))
  (.seq _law_take_1t_1 (.seq _law_take_1t_2 _law_take_1t_3))
  .skip)
def _law_take_2 : Ev.St := (.iset (.var 0) (.int 3) (.bin .Add (.ix (.var 0) (.int 3)) (.int 1)))
def _law_take_3 : Ev.St := (.set 3 (.bin .Mod (.bi .int (.cons (.bin .Pow (.bin .Add (.bin .Add (.ix (.var 0) (.int 2)) (.bin .Mult (.int 15492415) (.ix (.var 0) (.int 3)))) (.int 179424749)) (.int 5)) .nil)) (.int 2147483647)))
def _law_take_4 : Ev.St := (.ret (.bin .Mod (.bi .int (.cons (.bin .FloorDiv (.bin .Mod (.bi .int (.cons (.bin .Pow (.bin .Add (.bin .Mult (.var 3) (.int 48271)) (.bin .Mult (.int 104961) (.ix (.var 0) (.int 3)))) (.int 3)) .nil)) (.int 2147483587)) (.int 64)) .nil)) (.var 1)))
def f__law_take : Ev.Fn := ⟨2, 4,
  (.seq _law_take_1 (.seq _law_take_2 (.seq _law_take_3 _law_take_4)))⟩
abbrev i__law_take : Nat := 22
def x__law_take : Ev.Df := ⟨⟨("_law_take", none), "_law_take", "_law_take", defArgs (top 30), defBody (top 30), defScope (top 30), [], []⟩, ["box", "many"], ["box", "many", "digit", "mixed"], f__law_take⟩
/-- _law_pick(box, items) 0:box 1:items -/
def _law_pick_1 : Ev.St := (.ret (.ix (.var 1) (.call 22 (.cons (.var 0) (.cons (.bi .len (.cons (.var 1) .nil)) .nil)))))
def f__law_pick : Ev.Fn := ⟨2, 2,
  _law_pick_1⟩
abbrev i__law_pick : Nat := 23
def x__law_pick : Ev.Df := ⟨⟨("_law_pick", none), "_law_pick", "_law_pick", defArgs (top 31), defBody (top 31), defScope (top 31), [], []⟩, ["box", "items"], ["box", "items"], f__law_pick⟩
/-- _law_mixed(box, items) 0:box 1:items 2:left 3:found 4:turn -/
def _law_mixed_1 : Ev.St := (.par [2, 3] (.cons (.bi .list (.cons (.var 1) .nil)) (.cons (.lst .nil) .nil)))
def _law_mixed_2b_1 : Ev.St := (.expr (.meth .append (.var 3) (.cons (.meth .pop (.var 2) (.cons (.call 22 (.cons (.var 0) (.cons (.bi .len (.cons (.var 2) .nil)) .nil))) .nil)) .nil)))
def _law_mixed_2 : Ev.St := (.loop (.nm 4) (.rng (.cons (.bi .len (.cons (.var 2) .nil)) .nil))
  _law_mixed_2b_1)
def _law_mixed_3 : Ev.St := (.ret (.var 3))
def f__law_mixed : Ev.Fn := ⟨2, 5,
  (.seq _law_mixed_1 (.seq _law_mixed_2 _law_mixed_3))⟩
abbrev i__law_mixed : Nat := 24
def x__law_mixed : Ev.Df := ⟨⟨("_law_mixed", none), "_law_mixed", "_law_mixed", defArgs (top 32), defBody (top 32), defScope (top 32), [], []⟩, ["box", "items"], ["box", "items", "left", "found", "turn"], f__law_mixed⟩
/-- _law_same(told, due) 0:told 1:due 2:k 3:key -/
def _law_same_1 : Ev.St := (.ite (.or (.cmp .Is (.var 1) .non) (.isi (.var 1) [.bool]))
  (.ret (.ife (.cmp .Is (.var 1) .non) (.cmp .Is (.var 0) .non) (.and (.isi (.var 0) [.bool]) (.cmp .Eq (.cmp .Is (.var 0) (.bl true)) (.cmp .Is (.var 1) (.bl true))))))
  .skip)
def _law_same_2 : Ev.St := (.ite (.isi (.var 1) [.int])
  (.ret (.and (.isi (.var 0) [.int]) (.and (.nt (.isi (.var 0) [.bool])) (.cmp .Eq (.bin .Sub (.bi .int (.cons (.var 0) .nil)) (.var 1)) (.int 0)))))
  .skip)
def _law_same_3 : Ev.St := (.ite (.isi (.var 1) [.str])
  (.ret (.and (.isi (.var 0) [.str]) (.and (.cmp .Eq (.bi .len (.cons (.var 0) .nil)) (.bi .len (.cons (.var 1) .nil))) (.cmp .Eq (.comp (.var 2) (.nm 2) (.rng (.cons (.bi .len (.cons (.var 1) .nil)) .nil)) (.cons (.cmp .NotEq (.slc (.var 0) (.at (.var 2)) (.at (.bin .Add (.var 2) (.int 1)))) (.ix (.var 1) (.var 2))) .nil) [2]) (.lst .nil)))))
  .skip)
def _law_same_4 : Ev.St := (.ite (.isi (.var 1) [.dct])
  (.ret (.and (.isi (.var 0) [.dct]) (.and (.cmp .Eq (.bi .len (.cons (.var 0) .nil)) (.bi .len (.cons (.var 1) .nil))) (.cmp .Eq (.comp (.var 3) (.nm 3) (.val (.var 1)) (.cons (.or (.cmp .NotIn (.var 3) (.var 0)) (.nt (.call 25 (.cons (.ix (.var 0) (.var 3)) (.cons (.ix (.var 1) (.var 3)) .nil))))) .nil) [3]) (.lst .nil)))))
  .skip)
def _law_same_5 : Ev.St := (.ite (.or (.nt (.isi (.var 0) [.lst, .tup])) (.or (.cmp .NotEq (.isi (.var 0) [.lst]) (.isi (.var 1) [.lst])) (.cmp .NotEq (.bi .len (.cons (.var 0) .nil)) (.bi .len (.cons (.var 1) .nil)))))
  (.ret (.bl false))
  .skip)
def _law_same_6 : Ev.St := (.ret (.cmp .Eq (.comp (.var 2) (.nm 2) (.rng (.cons (.bi .len (.cons (.var 1) .nil)) .nil)) (.cons (.nt (.call 25 (.cons (.ix (.var 0) (.var 2)) (.cons (.ix (.var 1) (.var 2)) .nil)))) .nil) [2]) (.lst .nil)))
def f__law_same : Ev.Fn := ⟨2, 4,
  (.seq _law_same_1 (.seq _law_same_2 (.seq _law_same_3 (.seq _law_same_4 (.seq _law_same_5 _law_same_6)))))⟩
abbrev i__law_same : Nat := 25
def x__law_same : Ev.Df := ⟨⟨("_law_same", none), "_law_same", "_law_same", defArgs (top 33), defBody (top 33), defScope (top 33), [], []⟩, ["told", "due"], ["told", "due", "k", "key"], f__law_same⟩
/-- _law_copy(value) 0:value 1:one 2:key -/
def _law_copy_1 : Ev.St := (.ite (.isi (.var 0) [.lst])
  (.ret (.comp (.call 26 (.cons (.var 1) .nil)) (.nm 1) (.val (.var 0)) .nil [1]))
  .skip)
def _law_copy_2 : Ev.St := (.ite (.isi (.var 0) [.tup])
  (.ret (.bi .tuple (.cons (.comp (.call 26 (.cons (.var 1) .nil)) (.nm 1) (.val (.var 0)) .nil [1]) .nil)))
  .skip)
def _law_copy_3 : Ev.St := (.ret (.ife (.isi (.var 0) [.dct]) (.bi .dict (.cons (.comp (.tup (.cons (.var 2) (.cons (.call 26 (.cons (.ix (.var 0) (.var 2)) .nil)) .nil))) (.nm 2) (.val (.var 0)) .nil [2]) .nil)) (.var 0)))
def f__law_copy : Ev.Fn := ⟨1, 3,
  (.seq _law_copy_1 (.seq _law_copy_2 _law_copy_3))⟩
abbrev i__law_copy : Nat := 26
def x__law_copy : Ev.Df := ⟨⟨("_law_copy", none), "_law_copy", "_law_copy", defArgs (top 34), defBody (top 34), defScope (top 34), [], []⟩, ["value"], ["value", "one", "key"], f__law_copy⟩
/-- _law_very(given, value) 0:given 1:value -/
def _law_very_1t_1 : Ev.St := (.iset (.var 1) (.str "more") (.int 1))
def _law_very_1t_2 : Ev.St := (.ret (.and (.isi (.var 0) [.dct]) (.and (.cmp .In (.str "more") (.var 0)) (.cmp .Eq (.bi .len (.cons (.var 0) .nil)) (.bi .len (.cons (.var 1) .nil))))))
def _law_very_1 : Ev.St := (.ite (.isi (.var 1) [.dct])
  (.seq _law_very_1t_1 _law_very_1t_2)
  .skip)
def _law_very_2 : Ev.St := (.ite (.nt (.call 25 (.cons (.var 0) (.cons (.var 1) .nil))))
  (.ret (.bl false))
  .skip)
def _law_very_3t_1 : Ev.St := (.expr (.meth .append (.var 1) (.cons (.str "more") .nil)))
def _law_very_3 : Ev.St := (.ite (.isi (.var 1) [.lst])
  _law_very_3t_1
  .skip)
def _law_very_4 : Ev.St := (.ret (.call 25 (.cons (.var 0) (.cons (.var 1) .nil))))
def f__law_very : Ev.Fn := ⟨2, 2,
  (.seq _law_very_1 (.seq _law_very_2 (.seq _law_very_3 _law_very_4)))⟩
abbrev i__law_very : Nat := 27
def x__law_very : Ev.Df := ⟨⟨("_law_very", none), "_law_very", "_law_very", defArgs (top 35), defBody (top 35), defScope (top 35), [], []⟩, ["given", "value"], ["given", "value"], f__law_very⟩
/-- _law_is_int(value) 0:value -/
def _law_is_int_1 : Ev.St := (.ret (.and (.isi (.var 0) [.int]) (.nt (.isi (.var 0) [.bool]))))
def f__law_is_int : Ev.Fn := ⟨1, 1,
  _law_is_int_1⟩
abbrev i__law_is_int : Nat := 28
def x__law_is_int : Ev.Df := ⟨⟨("_law_is_int", none), "_law_is_int", "_law_is_int", defArgs (top 36), defBody (top 36), defScope (top 36), [], []⟩, ["value"], ["value"], f__law_is_int⟩
/-- _law_divisor(one, other) 0:one 1:other 2:turn -/
def _law_divisor_1 : Ev.St := (.par [0, 1] (.cons (.bi .abs (.cons (.var 0) .nil)) (.cons (.bi .abs (.cons (.var 1) .nil)) .nil)))
def _law_divisor_2b_1 : Ev.St := (.ite (.cmp .Eq (.var 1) (.int 0))
  .brk
  .skip)
def _law_divisor_2b_2 : Ev.St := (.par [0, 1] (.cons (.var 1) (.cons (.bin .Mod (.bi .int (.cons (.var 0) .nil)) (.var 1)) .nil)))
def _law_divisor_2 : Ev.St := (.loop (.nm 2) (.rng (.cons (.int 20000) .nil))
  (.seq _law_divisor_2b_1 _law_divisor_2b_2))
def _law_divisor_3 : Ev.St := (.ret (.var 0))
def f__law_divisor : Ev.Fn := ⟨2, 3,
  (.seq _law_divisor_1 (.seq _law_divisor_2 _law_divisor_3))⟩
abbrev i__law_divisor : Nat := 29
def x__law_divisor : Ev.Df := ⟨⟨("_law_divisor", none), "_law_divisor", "_law_divisor", defArgs (top 37), defBody (top 37), defScope (top 37), [], []⟩, ["one", "other"], ["one", "other", "turn"], f__law_divisor⟩
/-- _law_fr(top, bottom) 0:top 1:bottom 2:common 3:sign -/
def _law_fr_1 : Ev.St := (.set 2 (.call 29 (.cons (.var 0) (.cons (.var 1) .nil))))
def _law_fr_2 : Ev.St := (.set 3 (.ife (.cmp .Gt (.var 1) (.int 0)) (.int 1) (.neg (.int 1))))
def _law_fr_3 : Ev.St := (.ret (.tup (.cons (.bin .FloorDiv (.bin .Mult (.var 3) (.var 0)) (.var 2)) (.cons (.bin .FloorDiv (.bin .Mult (.var 3) (.var 1)) (.var 2)) .nil))))
def f__law_fr : Ev.Fn := ⟨2, 4,
  (.seq _law_fr_1 (.seq _law_fr_2 _law_fr_3))⟩
abbrev i__law_fr : Nat := 30
def x__law_fr : Ev.Df := ⟨⟨("_law_fr", none), "_law_fr", "_law_fr", defArgs (top 38), defBody (top 38), defScope (top 38), [], []⟩, ["top", "bottom"], ["top", "bottom", "common", "sign"], f__law_fr⟩
/-- _law_add(a, b) 0:a 1:b -/
def _law_add_1 : Ev.St := (.ret (.call 30 (.cons (.bin .Add (.bin .Mult (.ix (.var 0) (.int 0)) (.ix (.var 1) (.int 1))) (.bin .Mult (.ix (.var 1) (.int 0)) (.ix (.var 0) (.int 1)))) (.cons (.bin .Mult (.ix (.var 0) (.int 1)) (.ix (.var 1) (.int 1))) .nil))))
def f__law_add : Ev.Fn := ⟨2, 2,
  _law_add_1⟩
abbrev i__law_add : Nat := 31
def x__law_add : Ev.Df := ⟨⟨("_law_add", none), "_law_add", "_law_add", defArgs (top 39), defBody (top 39), defScope (top 39), [], []⟩, ["a", "b"], ["a", "b"], f__law_add⟩
/-- _law_neg(a) 0:a -/
def _law_neg_1 : Ev.St := (.ret (.tup (.cons (.bin .Sub (.int 0) (.ix (.var 0) (.int 0))) (.cons (.ix (.var 0) (.int 1)) .nil))))
def f__law_neg : Ev.Fn := ⟨1, 1,
  _law_neg_1⟩
abbrev i__law_neg : Nat := 32
def x__law_neg : Ev.Df := ⟨⟨("_law_neg", none), "_law_neg", "_law_neg", defArgs (top 40), defBody (top 40), defScope (top 40), [], []⟩, ["a"], ["a"], f__law_neg⟩
/-- _law_mul(a, b) 0:a 1:b -/
def _law_mul_1 : Ev.St := (.ret (.call 30 (.cons (.bin .Mult (.ix (.var 0) (.int 0)) (.ix (.var 1) (.int 0))) (.cons (.bin .Mult (.ix (.var 0) (.int 1)) (.ix (.var 1) (.int 1))) .nil))))
def f__law_mul : Ev.Fn := ⟨2, 2,
  _law_mul_1⟩
abbrev i__law_mul : Nat := 33
def x__law_mul : Ev.Df := ⟨⟨("_law_mul", none), "_law_mul", "_law_mul", defArgs (top 41), defBody (top 41), defScope (top 41), [], []⟩, ["a", "b"], ["a", "b"], f__law_mul⟩
/-- _law_div(a, b) 0:a 1:b -/
def _law_div_1 : Ev.St := (.ret (.call 30 (.cons (.bin .Mult (.ix (.var 0) (.int 0)) (.ix (.var 1) (.int 1))) (.cons (.bin .Mult (.ix (.var 0) (.int 1)) (.ix (.var 1) (.int 0))) .nil))))
def f__law_div : Ev.Fn := ⟨2, 2,
  _law_div_1⟩
abbrev i__law_div : Nat := 34
def x__law_div : Ev.Df := ⟨⟨("_law_div", none), "_law_div", "_law_div", defArgs (top 42), defBody (top 42), defScope (top 42), [], []⟩, ["a", "b"], ["a", "b"], f__law_div⟩
/-- _law_less(a, b) 0:a 1:b -/
def _law_less_1 : Ev.St := (.ret (.cmp .Lt (.bin .Mult (.ix (.var 0) (.int 0)) (.ix (.var 1) (.int 1))) (.bin .Mult (.ix (.var 1) (.int 0)) (.ix (.var 0) (.int 1)))))
def f__law_less : Ev.Fn := ⟨2, 2,
  _law_less_1⟩
abbrev i__law_less : Nat := 35
def x__law_less : Ev.Df := ⟨⟨("_law_less", none), "_law_less", "_law_less", defArgs (top 43), defBody (top 43), defScope (top 43), [], []⟩, ["a", "b"], ["a", "b"], f__law_less⟩
/-- _law_root(number) 0:number 1:low 2:high 3:turn 4:middle -/
def _law_root_1 : Ev.St := (.par [1, 2] (.cons (.int 0) (.cons (.int 1) .nil)))
def _law_root_2b_1 : Ev.St := (.ite (.cmp .Gt (.bin .Mult (.var 2) (.var 2)) (.var 0))
  .brk
  .skip)
def _law_root_2b_2 : Ev.St := (.set 2 (.bin .Mult (.int 2) (.var 2)))
def _law_root_2 : Ev.St := (.loop (.nm 3) (.rng (.cons (.int 40000) .nil))
  (.seq _law_root_2b_1 _law_root_2b_2))
def _law_root_3b_1 : Ev.St := (.ite (.cmp .Lt (.bin .Sub (.var 2) (.var 1)) (.int 2))
  .brk
  .skip)
def _law_root_3b_2 : Ev.St := (.set 4 (.bin .FloorDiv (.bin .Add (.var 1) (.var 2)) (.int 2)))
def _law_root_3b_3 : Ev.St := (.tset [1, 2] (.ife (.cmp .LtE (.bin .Mult (.var 4) (.var 4)) (.var 0)) (.tup (.cons (.var 4) (.cons (.var 2) .nil))) (.tup (.cons (.var 1) (.cons (.var 4) .nil)))))
def _law_root_3 : Ev.St := (.loop (.nm 3) (.rng (.cons (.int 40000) .nil))
  (.seq _law_root_3b_1 (.seq _law_root_3b_2 _law_root_3b_3)))
def _law_root_4 : Ev.St := (.ret (.ife (.cmp .Eq (.bin .Mult (.var 1) (.var 1)) (.var 0)) (.var 1) .non))
def f__law_root : Ev.Fn := ⟨1, 5,
  (.seq _law_root_1 (.seq _law_root_2 (.seq _law_root_3 _law_root_4)))⟩
abbrev i__law_root : Nat := 36
def x__law_root : Ev.Df := ⟨⟨("_law_root", none), "_law_root", "_law_root", defArgs (top 44), defBody (top 44), defScope (top 44), [], []⟩, ["number"], ["number", "low", "high", "turn", "middle"], f__law_root⟩
/-- _law_sqrt(a) 0:a -/
def _law_sqrt_1 : Ev.St := (.ite (.or (.cmp .Lt (.ix (.var 0) (.int 0)) (.int 0)) (.or (.cmp .Is (.call 36 (.cons (.ix (.var 0) (.int 0)) .nil)) .non) (.cmp .Is (.call 36 (.cons (.ix (.var 0) (.int 1)) .nil)) .non)))
  (.ret .non)
  .skip)
def _law_sqrt_2 : Ev.St := (.ret (.tup (.cons (.call 36 (.cons (.ix (.var 0) (.int 0)) .nil)) (.cons (.call 36 (.cons (.ix (.var 0) (.int 1)) .nil)) .nil))))
def f__law_sqrt : Ev.Fn := ⟨1, 1,
  (.seq _law_sqrt_1 _law_sqrt_2)⟩
abbrev i__law_sqrt : Nat := 37
def x__law_sqrt : Ev.Df := ⟨⟨("_law_sqrt", none), "_law_sqrt", "_law_sqrt", defArgs (top 45), defBody (top 45), defScope (top 45), [], []⟩, ["a"], ["a"], f__law_sqrt⟩
/-- _law_is_fraction(value) 0:value -/
def _law_is_fraction_1 : Ev.St := (.ite (.or (.nt (.isi (.var 0) [.tup])) (.or (.cmp .NotEq (.bi .len (.cons (.var 0) .nil)) (.int 2)) (.or (.nt (.call 28 (.cons (.ix (.var 0) (.int 0)) .nil))) (.nt (.call 28 (.cons (.ix (.var 0) (.int 1)) .nil))))))
  (.ret (.bl false))
  .skip)
def _law_is_fraction_2 : Ev.St := (.ret (.and (.cmp .Gt (.ix (.var 0) (.int 1)) (.int 0)) (.cmp .Eq (.call 29 (.cons (.ix (.var 0) (.int 0)) (.cons (.ix (.var 0) (.int 1)) .nil))) (.int 1))))
def f__law_is_fraction : Ev.Fn := ⟨1, 1,
  (.seq _law_is_fraction_1 _law_is_fraction_2)⟩
abbrev i__law_is_fraction : Nat := 38
def x__law_is_fraction : Ev.Df := ⟨⟨("_law_is_fraction", none), "_law_is_fraction", "_law_is_fraction", defArgs (top 46), defBody (top 46), defScope (top 46), [], []⟩, ["value"], ["value"], f__law_is_fraction⟩
/-- _law_bad_fraction(box) 0:box -/
def _law_bad_fraction_1 : Ev.St := (.ret (.call 26 (.cons (.call 23 (.cons (.var 0) (.cons (.lst (.cons .non (.cons (.int 1) (.cons (.tup (.cons (.int 2) (.cons (.int 4) .nil))) (.cons (.tup (.cons (.int 1) (.cons (.int 0) .nil))) (.cons (.tup (.cons (.int 1) (.cons (.neg (.int 2)) .nil))) (.cons (.lst (.cons (.int 1) (.cons (.int 2) .nil))) (.cons (.tup (.cons (.bl true) (.cons (.int 2) .nil))) (.cons (.tup (.cons (.int 1) (.cons (.int 2) (.cons (.int 3) .nil)))) (.cons (.tup (.cons (.int 1) .nil)) (.cons (.str "1/2") (.cons (.dict [] .nil) (.cons (.tup (.cons (.int 1) (.cons (.bl true) .nil))) (.cons (.tup (.cons (.str "1") (.cons (.int 2) .nil))) (.cons (.tup (.cons (.tup (.cons (.int 1) (.cons (.int 2) .nil))) (.cons (.int 1) .nil))) (.cons (.tup (.cons (.int 0) (.cons (.int 2) .nil))) .nil)))))))))))))))) .nil))) .nil)))
def f__law_bad_fraction : Ev.Fn := ⟨1, 1,
  _law_bad_fraction_1⟩
abbrev i__law_bad_fraction : Nat := 39
def x__law_bad_fraction : Ev.Df := ⟨⟨("_law_bad_fraction", none), "_law_bad_fraction", "_law_bad_fraction", defArgs (top 47), defBody (top 47), defScope (top 47), [], []⟩, ["box"], ["box"], f__law_bad_fraction⟩
/-- _law_met(word, args, named) 0:word 1:args 2:named 3:error -/
def _law_met_1b_1 : Ev.St := (.ite (.cmp .Eq (.var 0) (.str "fraction"))
  (.ret (.lst (.cons (.str "told") (.cons (.ife (.var 2) (.callk 13 .nil ["bottom", "top"] (.cons (.ix (.var 1) (.int 1)) (.cons (.ix (.var 1) (.int 0)) .nil)) [1, 0]) (.call 13 (.cons (.ix (.var 1) (.int 0)) (.cons (.ix (.var 1) (.int 1)) .nil)))) .nil))))
  .skip)
def _law_met_1b_2 : Ev.St := (.ite (.cmp .Eq (.var 0) (.str "plus"))
  (.ret (.lst (.cons (.str "told") (.cons (.ife (.var 2) (.callk 14 .nil ["other", "one"] (.cons (.ix (.var 1) (.int 1)) (.cons (.ix (.var 1) (.int 0)) .nil)) [1, 0]) (.call 14 (.cons (.ix (.var 1) (.int 0)) (.cons (.ix (.var 1) (.int 1)) .nil)))) .nil))))
  .skip)
def _law_met_1b_3 : Ev.St := (.ite (.cmp .Eq (.var 0) (.str "minus"))
  (.ret (.lst (.cons (.str "told") (.cons (.ife (.var 2) (.callk 15 .nil ["other", "one"] (.cons (.ix (.var 1) (.int 1)) (.cons (.ix (.var 1) (.int 0)) .nil)) [1, 0]) (.call 15 (.cons (.ix (.var 1) (.int 0)) (.cons (.ix (.var 1) (.int 1)) .nil)))) .nil))))
  .skip)
def _law_met_1b_4 : Ev.St := (.ite (.cmp .Eq (.var 0) (.str "times"))
  (.ret (.lst (.cons (.str "told") (.cons (.ife (.var 2) (.callk 16 .nil ["other", "one"] (.cons (.ix (.var 1) (.int 1)) (.cons (.ix (.var 1) (.int 0)) .nil)) [1, 0]) (.call 16 (.cons (.ix (.var 1) (.int 0)) (.cons (.ix (.var 1) (.int 1)) .nil)))) .nil))))
  .skip)
def _law_met_1b_5 : Ev.St := (.ite (.cmp .Eq (.var 0) (.str "over"))
  (.ret (.lst (.cons (.str "told") (.cons (.ife (.var 2) (.callk 17 .nil ["other", "one"] (.cons (.ix (.var 1) (.int 1)) (.cons (.ix (.var 1) (.int 0)) .nil)) [1, 0]) (.call 17 (.cons (.ix (.var 1) (.int 0)) (.cons (.ix (.var 1) (.int 1)) .nil)))) .nil))))
  .skip)
def _law_met_1b_6 : Ev.St := (.ite (.cmp .Eq (.var 0) (.str "less"))
  (.ret (.lst (.cons (.str "told") (.cons (.ife (.var 2) (.callk 18 .nil ["other", "one"] (.cons (.ix (.var 1) (.int 1)) (.cons (.ix (.var 1) (.int 0)) .nil)) [1, 0]) (.call 18 (.cons (.ix (.var 1) (.int 0)) (.cons (.ix (.var 1) (.int 1)) .nil)))) .nil))))
  .skip)
def _law_met_1b_7 : Ev.St := (.ret (.lst (.cons (.str "told") (.cons (.ife (.var 2) (.callk 19 .nil ["number"] (.cons (.ix (.var 1) (.int 0)) .nil) [0]) (.call 19 (.cons (.ix (.var 1) (.int 0)) .nil))) .nil))))
def _law_met_1 : Ev.St := (.tri (.seq _law_met_1b_1 (.seq _law_met_1b_2 (.seq _law_met_1b_3 (.seq _law_met_1b_4 (.seq _law_met_1b_5 (.seq _law_met_1b_6 _law_met_1b_7))))))
  [(1, some 3, (.lst [(.str "number"), (.fld 0)]))])
def f__law_met : Ev.Fn := ⟨3, 4,
  _law_met_1⟩
abbrev i__law_met : Nat := 40
def x__law_met : Ev.Df := ⟨⟨("_law_met", none), "_law_met", "_law_met", defArgs (top 48), defBody (top 48), defScope (top 48), [], []⟩, ["word", "args", "named"], ["word", "args", "named", "error"], f__law_met⟩
/-- _law_integer(box) 0:box 1:way 2:great -/
def _law_integer_1 : Ev.St := (.set 1 (.call 22 (.cons (.var 0) (.cons (.int 6) .nil))))
def _law_integer_2 : Ev.St := (.ite (.cmp .Lt (.var 1) (.int 4))
  (.ret (.bin .Sub (.call 22 (.cons (.var 0) (.cons (.ix (.lst (.cons (.int 7) (.cons (.int 7) (.cons (.int 61) (.cons (.int 2001) .nil))))) (.var 1)) .nil))) (.ix (.lst (.cons (.int 3) (.cons (.int 0) (.cons (.int 30) (.cons (.int 1000) .nil))))) (.var 1))))
  .skip)
def _law_integer_3 : Ev.St := (.set 2 (.bin .Sub (.bin .Sub (.ix (.lst (.cons (.bin .Pow (.int 10) (.int 9)) (.cons (.bin .Pow (.int 10) (.int 20)) .nil))) (.bin .Sub (.var 1) (.int 4))) (.int 1)) (.call 22 (.cons (.var 0) (.cons (.bin .Pow (.int 10) (.int 6)) .nil)))))
def _law_integer_4 : Ev.St := (.ret (.ife (.cmp .Eq (.call 22 (.cons (.var 0) (.cons (.int 2) .nil))) (.int 0)) (.var 2) (.bin .Sub (.int 0) (.var 2))))
def f__law_integer : Ev.Fn := ⟨1, 3,
  (.seq _law_integer_1 (.seq _law_integer_2 (.seq _law_integer_3 _law_integer_4)))⟩
abbrev i__law_integer : Nat := 41
def x__law_integer : Ev.Df := ⟨⟨("_law_integer", none), "_law_integer", "_law_integer", defArgs (top 49), defBody (top 49), defScope (top 49), [], []⟩, ["box"], ["box", "way", "great"], f__law_integer⟩
/-- _law_some(box) 0:box 1:bottom -/
def _law_some_1 : Ev.St := (.set 1 (.bi .abs (.cons (.call 41 (.cons (.var 0) .nil)) .nil)))
def _law_some_2 : Ev.St := (.ret (.call 30 (.cons (.call 41 (.cons (.var 0) .nil)) (.cons (.ife (.cmp .Gt (.var 1) (.int 0)) (.var 1) (.int 1)) .nil))))
def f__law_some : Ev.Fn := ⟨1, 2,
  (.seq _law_some_1 _law_some_2)⟩
abbrev i__law_some : Nat := 42
def x__law_some : Ev.Df := ⟨⟨("_law_some", none), "_law_some", "_law_some", defArgs (top 50), defBody (top 50), defScope (top 50), [], []⟩, ["box"], ["box", "bottom"], f__law_some⟩
/-- _law_reckoned_right(box, named) 0:box 1:named 2:one 3:other 4:dues 5:word 6:due -/
def _law_reckoned_right_1 : Ev.St := (.par [2, 3] (.cons (.call 42 (.cons (.var 0) .nil)) (.cons (.call 42 (.cons (.var 0) .nil)) .nil)))
def _law_reckoned_right_2 : Ev.St := (.set 3 (.call 23 (.cons (.var 0) (.cons (.lst (.cons (.var 3) (.cons (.var 3) (.cons (.var 2) (.cons (.call 32 (.cons (.var 2) .nil)) (.cons (.tup (.cons (.int 0) (.cons (.int 1) .nil))) .nil)))))) .nil))))
def _law_reckoned_right_3 : Ev.St := (.set 4 (.lst (.cons (.tup (.cons (.str "plus") (.cons (.call 31 (.cons (.var 2) (.cons (.var 3) .nil))) .nil))) (.cons (.tup (.cons (.str "minus") (.cons (.call 31 (.cons (.var 2) (.cons (.call 32 (.cons (.var 3) .nil)) .nil))) .nil))) (.cons (.tup (.cons (.str "times") (.cons (.call 33 (.cons (.var 2) (.cons (.var 3) .nil))) .nil))) (.cons (.tup (.cons (.str "less") (.cons (.call 35 (.cons (.var 2) (.cons (.var 3) .nil))) .nil))) .nil))))))
def _law_reckoned_right_4b_1 : Ev.St := (.ite (.nt (.call 25 (.cons (.lst (.cons (.call 40 (.cons (.var 5) (.cons (.lst (.cons (.var 2) (.cons (.var 3) .nil))) (.cons (.var 1) .nil)))) (.cons (.call 40 (.cons (.var 5) (.cons (.lst (.cons (.var 2) (.cons (.var 3) .nil))) (.cons (.nt (.var 1)) .nil)))) .nil))) (.cons (.bin .Mult (.lst (.cons (.lst (.cons (.str "told") (.cons (.var 6) .nil))) .nil)) (.int 2)) .nil))))
  (.ret (.bl false))
  .skip)
def _law_reckoned_right_4 : Ev.St := (.loop (.tp [5, 6]) (.val (.bin .Add (.var 4) (.ife (.cmp .NotEq (.ix (.var 3) (.int 0)) (.int 0)) (.lst (.cons (.tup (.cons (.str "over") (.cons (.call 34 (.cons (.var 2) (.cons (.var 3) .nil))) .nil))) .nil)) (.lst .nil))))
  _law_reckoned_right_4b_1)
def _law_reckoned_right_5 : Ev.St := (.ret (.or (.cmp .NotEq (.ix (.var 3) (.int 0)) (.int 0)) (.call 25 (.cons (.call 40 (.cons (.str "over") (.cons (.lst (.cons (.var 2) (.cons (.var 3) .nil))) (.cons (.var 1) .nil)))) (.cons (.lst (.cons (.str "number") (.cons (.var 3) .nil))) .nil)))))
def f__law_reckoned_right : Ev.Fn := ⟨2, 7,
  (.seq _law_reckoned_right_1 (.seq _law_reckoned_right_2 (.seq _law_reckoned_right_3 (.seq _law_reckoned_right_4 _law_reckoned_right_5))))⟩
abbrev i__law_reckoned_right : Nat := 43
def x__law_reckoned_right : Ev.Df := ⟨⟨("_law_reckoned_right", none), "_law_reckoned_right", "_law_reckoned_right", defArgs (top 51), defBody (top 51), defScope (top 51), [], []⟩, ["box", "named"], ["box", "named", "one", "other", "dues", "word", "due"], f__law_reckoned_right⟩
/-- _law_made_right(box, named) 0:box 1:named 2:common 3:top 4:bottom 5:due -/
def _law_made_right_1 : Ev.St := (.set 2 (.call 23 (.cons (.var 0) (.cons (.lst (.cons (.int 1) (.cons (.int 2) (.cons (.int 6) (.cons (.int 35) (.cons (.neg (.int 1)) (.cons (.neg (.int 4)) .nil))))))) .nil))))
def _law_made_right_2 : Ev.St := (.par [3, 4] (.cons (.bin .Mult (.call 23 (.cons (.var 0) (.cons (.lst (.cons (.int 0) (.cons (.int 1) (.cons (.neg (.int 3)) (.cons (.int 8) (.cons (.bin .FloorDiv (.call 41 (.cons (.var 0) .nil)) (.int 100)) .nil)))))) .nil))) (.var 2)) (.cons (.bin .Mult (.call 23 (.cons (.var 0) (.cons (.lst (.cons (.int 1) (.cons (.neg (.int 1)) (.cons (.int 5) (.cons (.int 12) (.cons (.neg (.int 7)) .nil)))))) .nil))) (.var 2)) .nil)))
def _law_made_right_3 : Ev.St := (.set 5 (.call 30 (.cons (.var 3) (.cons (.var 4) .nil))))
def _law_made_right_4 : Ev.St := (.ite (.nt (.call 25 (.cons (.lst (.cons (.call 40 (.cons (.str "fraction") (.cons (.lst (.cons (.var 3) (.cons (.var 4) .nil))) (.cons (.var 1) .nil)))) (.cons (.call 40 (.cons (.str "fraction") (.cons (.lst (.cons (.var 4) (.cons (.int 1) .nil))) (.cons (.nt (.var 1)) .nil)))) .nil))) (.cons (.lst (.cons (.lst (.cons (.str "told") (.cons (.var 5) .nil))) (.cons (.lst (.cons (.str "told") (.cons (.tup (.cons (.var 4) (.cons (.int 1) .nil))) .nil))) .nil))) .nil))))
  (.ret (.bl false))
  .skip)
def _law_made_right_5 : Ev.St := (.ret (.call 25 (.cons (.ife (.var 1) (.call 2 (.cons (.var 5) .nil)) (.callk 2 .nil ["value"] (.cons (.var 5) .nil) [0])) (.cons (.bl true) .nil))))
def f__law_made_right : Ev.Fn := ⟨2, 6,
  (.seq _law_made_right_1 (.seq _law_made_right_2 (.seq _law_made_right_3 (.seq _law_made_right_4 _law_made_right_5))))⟩
abbrev i__law_made_right : Nat := 44
def x__law_made_right : Ev.Df := ⟨⟨("_law_made_right", none), "_law_made_right", "_law_made_right", defArgs (top 52), defBody (top 52), defScope (top 52), [], []⟩, ["box", "named"], ["box", "named", "common", "top", "bottom", "due"], f__law_made_right⟩
/-- _law_roots_right(box, named) 0:box 1:named 2:sizes 3:base 4:whole 5:some 6:number 7:due -/
def _law_roots_right_1 : Ev.St := (.set 2 (.lst (.cons (.int 10) (.cons (.int 1000) (.cons (.bin .Pow (.int 10) (.int 9)) .nil)))))
def _law_roots_right_2 : Ev.St := (.set 3 (.call 30 (.cons (.call 22 (.cons (.var 0) (.cons (.call 23 (.cons (.var 0) (.cons (.var 2) .nil))) .nil))) (.cons (.bin .Add (.int 1) (.call 22 (.cons (.var 0) (.cons (.call 23 (.cons (.var 0) (.cons (.var 2) .nil))) .nil)))) .nil))))
def _law_roots_right_3 : Ev.St := (.set 4 (.call 33 (.cons (.var 3) (.cons (.var 3) .nil))))
def _law_roots_right_4 : Ev.St := (.set 5 (.lst (.cons (.tup (.cons (.var 4) (.cons (.var 3) .nil))) (.cons (.tup (.cons (.call 32 (.cons (.var 4) .nil)) (.cons (.ife (.cmp .Gt (.ix (.var 4) (.int 0)) (.int 0)) .non (.tup (.cons (.int 0) (.cons (.int 1) .nil)))) .nil))) (.cons (.tup (.cons (.call 30 (.cons (.bin .Mult (.int 2) (.ix (.var 4) (.int 0))) (.cons (.ix (.var 4) (.int 1)) .nil))) (.cons (.ife (.cmp .Gt (.ix (.var 4) (.int 0)) (.int 0)) .non (.tup (.cons (.int 0) (.cons (.int 1) .nil)))) .nil))) .nil)))))
def _law_roots_right_5 : Ev.St := (.set 5 (.bin .Add (.var 5) (.lst (.cons (.tup (.cons (.call 30 (.cons (.bin .Add (.ix (.var 4) (.int 0)) (.int 1)) (.cons (.ix (.var 4) (.int 1)) .nil))) (.cons (.call 37 (.cons (.call 30 (.cons (.bin .Add (.ix (.var 4) (.int 0)) (.int 1)) (.cons (.ix (.var 4) (.int 1)) .nil))) .nil)) .nil))) (.cons (.tup (.cons (.tup (.cons (.int 4) (.cons (.int 9) .nil))) (.cons (.tup (.cons (.int 2) (.cons (.int 3) .nil))) .nil))) (.cons (.tup (.cons (.tup (.cons (.int 2) (.cons (.int 1) .nil))) (.cons .non .nil))) (.cons (.tup (.cons (.tup (.cons (.int 0) (.cons (.int 1) .nil))) (.cons (.tup (.cons (.int 0) (.cons (.int 1) .nil))) .nil))) (.cons (.tup (.cons (.tup (.cons (.neg (.int 1)) (.cons (.int 4) .nil))) (.cons .non .nil))) (.cons (.tup (.cons (.tup (.cons (.int 1) (.cons (.int 3) .nil))) (.cons .non .nil))) .nil)))))))))
def _law_roots_right_6 : Ev.St := (.set 5 (.bin .Add (.var 5) (.lst (.cons (.tup (.cons (.tup (.cons (.int 8) (.cons (.int 1) .nil))) (.cons .non .nil))) (.cons (.tup (.cons (.tup (.cons (.int 49) (.cons (.int 1) .nil))) (.cons (.tup (.cons (.int 7) (.cons (.int 1) .nil))) .nil))) .nil)))))
def _law_roots_right_7b_1 : Ev.St := (.ite (.nt (.call 25 (.cons (.call 40 (.cons (.str "root") (.cons (.lst (.cons (.var 6) .nil)) (.cons (.var 1) .nil)))) (.cons (.lst (.cons (.str "told") (.cons (.var 7) .nil))) .nil))))
  (.ret (.bl false))
  .skip)
def _law_roots_right_7b_2 : Ev.St := (.set 1 (.nt (.var 1)))
def _law_roots_right_7 : Ev.St := (.loop (.tp [6, 7]) (.val (.slc (.call 24 (.cons (.var 0) (.cons (.var 5) .nil))) .no (.at (.int 6))))
  (.seq _law_roots_right_7b_1 _law_roots_right_7b_2))
def _law_roots_right_8 : Ev.St := (.ret (.bl true))
def f__law_roots_right : Ev.Fn := ⟨2, 8,
  (.seq _law_roots_right_1 (.seq _law_roots_right_2 (.seq _law_roots_right_3 (.seq _law_roots_right_4 (.seq _law_roots_right_5 (.seq _law_roots_right_6 (.seq _law_roots_right_7 _law_roots_right_8)))))))⟩
abbrev i__law_roots_right : Nat := 45
def x__law_roots_right : Ev.Df := ⟨⟨("_law_roots_right", none), "_law_roots_right", "_law_roots_right", defArgs (top 53), defBody (top 53), defScope (top 53), [], []⟩, ["box", "named"], ["box", "named", "sizes", "base", "whole", "some", "number", "due"], f__law_roots_right⟩
/-- _law_judged_right(box, named) 0:box 1:named 2:one 3:some 4:value -/
def _law_judged_right_1 : Ev.St := (.set 2 (.call 30 (.cons (.bin .Sub (.call 22 (.cons (.var 0) (.cons (.int 61) .nil))) (.int 30)) (.cons (.bin .Add (.int 1) (.call 22 (.cons (.var 0) (.cons (.int 12) .nil)))) .nil))))
def _law_judged_right_2 : Ev.St := (.set 3 (.lst (.cons (.var 2) (.cons (.bi .list (.cons (.var 2) .nil)) (.cons (.tup (.cons (.bin .Sub (.int 0) (.ix (.var 2) (.int 0))) (.cons (.bin .Sub (.int 0) (.ix (.var 2) (.int 1))) .nil))) (.cons (.tup (.cons (.bin .Mult (.int 3) (.ix (.var 2) (.int 0))) (.cons (.bin .Mult (.int 3) (.ix (.var 2) (.int 1))) .nil))) (.cons (.tup (.cons (.ix (.var 2) (.int 0)) (.cons (.int 0) .nil))) (.cons (.tup (.cons (.ix (.var 2) (.int 0)) (.cons (.bl true) .nil))) (.cons (.tup (.cons (.bl true) (.cons (.int 1) .nil))) (.cons (.tup (.cons (.bl false) (.cons (.int 1) .nil))) (.cons (.tup (.cons (.int 0) (.cons (.int 1) .nil))) (.cons (.tup (.cons (.int 0) (.cons (.int 2) .nil))) (.cons (.tup (.cons (.int 0) (.cons (.neg (.int 1)) .nil))) (.cons (.tup (.cons (.int 1) .nil)) (.cons (.tup (.cons (.int 1) (.cons (.int 2) (.cons (.int 3) .nil)))) (.cons (.tup (.cons (.neg (.int 5)) (.cons (.int 3) .nil))) .nil))))))))))))))))
def _law_judged_right_3b_1 : Ev.St := (.ite (.nt (.call 25 (.cons (.ife (.var 1) (.callk 2 .nil ["value"] (.cons (.var 4) .nil) [0]) (.call 2 (.cons (.var 4) .nil))) (.cons (.call 38 (.cons (.var 4) .nil)) .nil))))
  (.ret (.bl false))
  .skip)
def _law_judged_right_3b_2 : Ev.St := (.set 1 (.nt (.var 1)))
def _law_judged_right_3 : Ev.St := (.loop (.nm 4) (.val (.bin .Add (.var 3) (.lst (.cons .non (.cons (.bl true) (.cons (.int 5) (.cons (.str "1/2") (.cons (.dict [] .nil) (.cons (.tup .nil) (.cons (.lst (.cons (.var 2) .nil)) (.cons (.tup (.cons (.var 2) (.cons (.int 1) .nil))) (.cons (.tup (.cons (.str "1") (.cons (.int 2) .nil))) (.cons (.tup (.cons .non (.cons (.int 1) .nil))) (.cons (.tup (.cons (.bin .Sub (.bin .Pow (.int 10) (.int 20)) (.int 1)) (.cons (.bin .Sub (.bin .Pow (.int 10) (.int 20)) (.int 2)) .nil))) .nil))))))))))))))
  (.seq _law_judged_right_3b_1 _law_judged_right_3b_2))
def _law_judged_right_4 : Ev.St := (.ret (.bl true))
def f__law_judged_right : Ev.Fn := ⟨2, 5,
  (.seq _law_judged_right_1 (.seq _law_judged_right_2 (.seq _law_judged_right_3 _law_judged_right_4)))⟩
abbrev i__law_judged_right : Nat := 46
def x__law_judged_right : Ev.Df := ⟨⟨("_law_judged_right", none), "_law_judged_right", "_law_judged_right", defArgs (top 54), defBody (top 54), defScope (top 54), [], []⟩, ["box", "named"], ["box", "named", "one", "some", "value"], f__law_judged_right⟩
/-- _law_refused_right(box, named) 0:box 1:named 2:good 3:word 4:bad 5:odd 6:told 7:one 8:wrong 9:args 10:at -/
def _law_refused_right_1 : Ev.St := (.set 2 (.call 42 (.cons (.var 0) .nil)))
def _law_refused_right_2b_1 : Ev.St := (.par [4, 5] (.cons (.call 39 (.cons (.var 0) .nil)) (.cons (.call 39 (.cons (.var 0) .nil)) .nil)))
def _law_refused_right_2b_2 : Ev.St := (.set 6 (.lst (.cons (.call 40 (.cons (.var 3) (.cons (.lst (.cons (.var 4) (.cons (.call 23 (.cons (.var 0) (.cons (.lst (.cons (.var 2) (.cons (.call 26 (.cons (.var 5) .nil)) .nil))) .nil))) .nil))) (.cons (.var 1) .nil)))) (.cons (.call 40 (.cons (.var 3) (.cons (.lst (.cons (.var 2) (.cons (.var 5) .nil))) (.cons (.nt (.var 1)) .nil)))) .nil))))
def _law_refused_right_2b_3 : Ev.St := (.ite (.or (.cmp .NotEq (.comp (.ix (.var 7) (.int 0)) (.nm 7) (.val (.var 6)) .nil [7]) (.lst (.cons (.str "number") (.cons (.str "number") .nil)))) (.or (.nt (.call 27 (.cons (.ix (.ix (.var 6) (.int 0)) (.int 1)) (.cons (.var 4) .nil)))) (.nt (.call 27 (.cons (.ix (.ix (.var 6) (.int 1)) (.int 1)) (.cons (.var 5) .nil))))))
  (.ret (.bl false))
  .skip)
def _law_refused_right_2b_4 : Ev.St := (.set 1 (.nt (.var 1)))
def _law_refused_right_2 : Ev.St := (.loop (.nm 3) (.val (.tup (.cons (.str "plus") (.cons (.str "minus") (.cons (.str "times") (.cons (.str "over") (.cons (.str "less") .nil)))))))
  (.seq _law_refused_right_2b_1 (.seq _law_refused_right_2b_2 (.seq _law_refused_right_2b_3 _law_refused_right_2b_4))))
def _law_refused_right_3 : Ev.St := (.set 4 (.call 39 (.cons (.var 0) .nil)))
def _law_refused_right_4 : Ev.St := (.set 6 (.call 40 (.cons (.str "root") (.cons (.lst (.cons (.var 4) .nil)) (.cons (.var 1) .nil)))))
def _law_refused_right_5 : Ev.St := (.ite (.or (.cmp .NotEq (.ix (.var 6) (.int 0)) (.str "number")) (.nt (.call 27 (.cons (.ix (.var 6) (.int 1)) (.cons (.var 4) .nil)))))
  (.ret (.bl false))
  .skip)
def _law_refused_right_6 : Ev.St := (.set 8 (.lst (.cons .non (.cons (.bl true) (.cons (.str "1") (.cons (.tup (.cons (.int 1) (.cons (.int 2) .nil))) (.cons (.lst (.cons (.int 1) .nil)) (.cons (.dict [] .nil) .nil))))))))
def _law_refused_right_7b_1 : Ev.St := (.set 6 (.call 40 (.cons (.str "fraction") (.cons (.var 9) (.cons (.var 1) .nil)))))
def _law_refused_right_7b_2 : Ev.St := (.ite (.or (.cmp .NotEq (.ix (.var 6) (.int 0)) (.str "number")) (.nt (.call 27 (.cons (.ix (.var 6) (.int 1)) (.cons (.ix (.var 9) (.var 10)) .nil)))))
  (.ret (.bl false))
  .skip)
def _law_refused_right_7 : Ev.St := (.loop (.tp [9, 10]) (.val (.tup (.cons (.tup (.cons (.lst (.cons (.call 26 (.cons (.call 23 (.cons (.var 0) (.cons (.var 8) .nil))) .nil)) (.cons (.call 23 (.cons (.var 0) (.cons (.lst (.cons (.int 2) (.cons (.int 0) (.cons .non .nil)))) .nil))) .nil))) (.cons (.int 0) .nil))) (.cons (.tup (.cons (.lst (.cons (.int 3) (.cons (.call 26 (.cons (.call 23 (.cons (.var 0) (.cons (.bin .Add (.var 8) (.lst (.cons (.int 0) .nil))) .nil))) .nil)) .nil))) (.cons (.int 1) .nil))) .nil))))
  (.seq _law_refused_right_7b_1 _law_refused_right_7b_2))
def _law_refused_right_8 : Ev.St := (.ret (.bl true))
def f__law_refused_right : Ev.Fn := ⟨2, 11,
  (.seq _law_refused_right_1 (.seq _law_refused_right_2 (.seq _law_refused_right_3 (.seq _law_refused_right_4 (.seq _law_refused_right_5 (.seq _law_refused_right_6 (.seq _law_refused_right_7 _law_refused_right_8)))))))⟩
abbrev i__law_refused_right : Nat := 47
def x__law_refused_right : Ev.Df := ⟨⟨("_law_refused_right", none), "_law_refused_right", "_law_refused_right", defArgs (top 55), defBody (top 55), defScope (top 55), [], []⟩, ["box", "named"], ["box", "named", "good", "word", "bad", "odd", "told", "one", "wrong", "args", "at"], f__law_refused_right⟩
/-- law(script) 0:script 1:k 2:box 3:named 4:turn -/
def law_1b_1 : Ev.St := (.set 2 (.call 21 (.cons (.call 20 (.cons (.var 0) (.cons (.var 1) .nil))) .nil)))
def law_1b_2 : Ev.St := (.set 3 (.cmp .Eq (.call 22 (.cons (.var 2) (.cons (.int 2) .nil))) (.int 0)))
def law_1b_3b_1 : Ev.St := (.ite (.or (.nt (.call 43 (.cons (.var 2) (.cons (.var 3) .nil)))) (.or (.nt (.call 44 (.cons (.var 2) (.cons (.nt (.var 3)) .nil)))) (.nt (.call 45 (.cons (.var 2) (.cons (.var 3) .nil))))))
  (.ret (.bl false))
  .skip)
def law_1b_3b_2 : Ev.St := (.set 3 (.nt (.var 3)))
def law_1b_3 : Ev.St := (.loop (.nm 4) (.rng (.cons (.int 6) .nil))
  (.seq law_1b_3b_1 law_1b_3b_2))
def law_1b_4 : Ev.St := (.ite (.or (.nt (.call 46 (.cons (.var 2) (.cons (.var 3) .nil)))) (.nt (.call 47 (.cons (.var 2) (.cons (.nt (.var 3)) .nil)))))
  (.ret (.bl false))
  .skip)
def law_1 : Ev.St := (.loop (.nm 1) (.rng (.cons (.bi .max (.cons (.int 2) (.cons (.bi .min (.cons (.int 4) (.cons (.bi .len (.cons (.var 0) .nil)) .nil))) .nil))) .nil))
  (.seq law_1b_1 (.seq law_1b_2 (.seq law_1b_3 law_1b_4))))
def law_2 : Ev.St := (.ret (.bl true))
def f_law : Ev.Fn := ⟨1, 5,
  (.seq law_1 law_2)⟩
abbrev i_law : Nat := 48
def x_law : Ev.Df := ⟨⟨("law", none), "law", "law", defArgs (top 56), defBody (top 56), defScope (top 56), [], []⟩, ["script"], ["script", "k", "box", "named", "turn"], f_law⟩
def L : List Ev.Df := [x_is_integer, x_is_tuple_of, x_is_fraction, x_reduced, x_added, x_opposite, x_lessened, x_product, x_quotient, x_is_less, x_root_of, x_check_fraction, x_check_two, x_fraction, x_plus, x_minus, x_times, x_over, x_less, x_root, x__law_cell, x__law_box, x__law_take, x__law_pick, x__law_mixed, x__law_same, x__law_copy, x__law_very, x__law_is_int, x__law_divisor, x__law_fr, x__law_add, x__law_neg, x__law_mul, x__law_div, x__law_less, x__law_root, x__law_sqrt, x__law_is_fraction, x__law_bad_fraction, x__law_met, x__law_integer, x__law_some, x__law_reckoned_right, x__law_made_right, x__law_roots_right, x__law_judged_right, x__law_refused_right, x_law]
def TT : List Ev.Fn := L.map (·.fn)
theorem at_is_integer : TT[0]? = some f_is_integer := rfl
theorem at_is_tuple_of : TT[1]? = some f_is_tuple_of := rfl
theorem at_is_fraction : TT[2]? = some f_is_fraction := rfl
theorem at_reduced : TT[3]? = some f_reduced := rfl
theorem at_added : TT[4]? = some f_added := rfl
theorem at_opposite : TT[5]? = some f_opposite := rfl
theorem at_lessened : TT[6]? = some f_lessened := rfl
theorem at_product : TT[7]? = some f_product := rfl
theorem at_quotient : TT[8]? = some f_quotient := rfl
theorem at_is_less : TT[9]? = some f_is_less := rfl
theorem at_root_of : TT[10]? = some f_root_of := rfl
theorem at_check_fraction : TT[11]? = some f_check_fraction := rfl
theorem at_check_two : TT[12]? = some f_check_two := rfl
theorem at_fraction : TT[13]? = some f_fraction := rfl
theorem at_plus : TT[14]? = some f_plus := rfl
theorem at_minus : TT[15]? = some f_minus := rfl
theorem at_times : TT[16]? = some f_times := rfl
theorem at_over : TT[17]? = some f_over := rfl
theorem at_less : TT[18]? = some f_less := rfl
theorem at_root : TT[19]? = some f_root := rfl
theorem at__law_cell : TT[20]? = some f__law_cell := rfl
theorem at__law_box : TT[21]? = some f__law_box := rfl
theorem at__law_take : TT[22]? = some f__law_take := rfl
theorem at__law_pick : TT[23]? = some f__law_pick := rfl
theorem at__law_mixed : TT[24]? = some f__law_mixed := rfl
theorem at__law_same : TT[25]? = some f__law_same := rfl
theorem at__law_copy : TT[26]? = some f__law_copy := rfl
theorem at__law_very : TT[27]? = some f__law_very := rfl
theorem at__law_is_int : TT[28]? = some f__law_is_int := rfl
theorem at__law_divisor : TT[29]? = some f__law_divisor := rfl
theorem at__law_fr : TT[30]? = some f__law_fr := rfl
theorem at__law_add : TT[31]? = some f__law_add := rfl
theorem at__law_neg : TT[32]? = some f__law_neg := rfl
theorem at__law_mul : TT[33]? = some f__law_mul := rfl
theorem at__law_div : TT[34]? = some f__law_div := rfl
theorem at__law_less : TT[35]? = some f__law_less := rfl
theorem at__law_root : TT[36]? = some f__law_root := rfl
theorem at__law_sqrt : TT[37]? = some f__law_sqrt := rfl
theorem at__law_is_fraction : TT[38]? = some f__law_is_fraction := rfl
theorem at__law_bad_fraction : TT[39]? = some f__law_bad_fraction := rfl
theorem at__law_met : TT[40]? = some f__law_met := rfl
theorem at__law_integer : TT[41]? = some f__law_integer := rfl
theorem at__law_some : TT[42]? = some f__law_some := rfl
theorem at__law_reckoned_right : TT[43]? = some f__law_reckoned_right := rfl
theorem at__law_made_right : TT[44]? = some f__law_made_right := rfl
theorem at__law_roots_right : TT[45]? = some f__law_roots_right := rfl
theorem at__law_judged_right : TT[46]? = some f__law_judged_right := rfl
theorem at__law_refused_right : TT[47]? = some f__law_refused_right := rfl
theorem at_law : TT[48]? = some f_law := rfl
def c_InvalidNumber : Ev.Ic := ⟨"InvalidNumber", ["given"], ⟨("InvalidNumber", some "__init__"), "__init__", "InvalidNumber.__init__", defArgs (Ev.inCls (top 3) 0), defBody (Ev.inCls (top 3) 0), defScope (Ev.inCls (top 3) 0), [], []⟩⟩
abbrev e_LayerError : Nat := 0
abbrev e_InvalidNumber : Nat := 1
def I : List Ev.Ic := [c_InvalidNumber]
def sub (c k : Nat) : Bool := (([[true, false], [true, true]] : List (List Bool)).getD c []).getD k false
def G : Ev.Gi where
  fns := [Ev.pr "is_integer" ["value"], Ev.pr "is_tuple_of" ["value", "size"], Ev.pr "is_fraction" ["value"], Ev.pr "reduced" ["top", "bottom"], Ev.pr "added" ["one", "other"], Ev.pr "opposite" ["number"], Ev.pr "lessened" ["one", "other"], Ev.pr "product" ["one", "other"], Ev.pr "quotient" ["one", "other"], Ev.pr "is_less" ["one", "other"], Ev.pr "root_of" ["number"], Ev.pr "check_fraction" ["number"], Ev.pr "check_two" ["one", "other"], Ev.pr "fraction" ["top", "bottom"], Ev.pr "plus" ["one", "other"], Ev.pr "minus" ["one", "other"], Ev.pr "times" ["one", "other"], Ev.pr "over" ["one", "other"], Ev.pr "less" ["one", "other"], Ev.pr "root" ["number"], Ev.pr "_law_cell" ["script", "k"], Ev.pr "_law_box" ["great"], Ev.pr "_law_take" ["box", "many"], Ev.pr "_law_pick" ["box", "items"], Ev.pr "_law_mixed" ["box", "items"], Ev.pr "_law_same" ["told", "due"], Ev.pr "_law_copy" ["value"], Ev.pr "_law_very" ["given", "value"], Ev.pr "_law_is_int" ["value"], Ev.pr "_law_divisor" ["one", "other"], Ev.pr "_law_fr" ["top", "bottom"], Ev.pr "_law_add" ["a", "b"], Ev.pr "_law_neg" ["a"], Ev.pr "_law_mul" ["a", "b"], Ev.pr "_law_div" ["a", "b"], Ev.pr "_law_less" ["a", "b"], Ev.pr "_law_root" ["number"], Ev.pr "_law_sqrt" ["a"], Ev.pr "_law_is_fraction" ["value"], Ev.pr "_law_bad_fraction" ["box"], Ev.pr "_law_met" ["word", "args", "named"], Ev.pr "_law_integer" ["box"], Ev.pr "_law_some" ["box"], Ev.pr "_law_reckoned_right" ["box", "named"], Ev.pr "_law_made_right" ["box", "named"], Ev.pr "_law_roots_right" ["box", "named"], Ev.pr "_law_judged_right" ["box", "named"], Ev.pr "_law_refused_right" ["box", "named"], Ev.pr "law" ["script"]]
  cls := [Ev.pr "LayerError" [], Ev.pr "InvalidNumber" ["given"]]
  con := [Ev.pc "ZERO" (.tup [.int 0, .int 1])]
  bis := [.len, .all, .gcd, .isqrt, .int, .sum, .abs, .list, .tuple, .dict, .max, .min]
  fre := ["isinstance", "int", "bool", "tuple", "range", "str", "dict", "list"]
  kws := [Ev.pk 13 0 ["bottom", "top"] [1, 0], Ev.pk 14 0 ["other", "one"] [1, 0], Ev.pk 15 0 ["other", "one"] [1, 0], Ev.pk 16 0 ["other", "one"] [1, 0], Ev.pk 17 0 ["other", "one"] [1, 0], Ev.pk 18 0 ["other", "one"] [1, 0], Ev.pk 19 0 ["number"] [0], Ev.pk 2 0 ["value"] [0]]
end EvL
end
section
set_option Elab.async false
set_option linter.all false
set_option maxRecDepth 100000
set_option maxHeartbeats 400000
set_option exponentiation.threshold 10000
namespace EvL
open PySem Ev
section
variable {n : Nat} {S : Sto} {Q : Po} {E : Xo}
theorem run_eq {i : Nat} {fn : Fn} {ds : List D} (h : TT[i]? = some fn) (hl : ds.length = fn.ps) : run sub TT (n + 1) i ds S Q E = wpS (run sub TT n) sub fn.body (begin_ fn ds) S ⟨fun _ S1 => Q .non S1, Q, fun _ _ => False, fun _ _ => False, E⟩ :=
  propext ⟨fun ⟨g, h1, _, h3⟩ => (by rw [h] at h1; cases h1; exact h3), fun h3 => ⟨fn, h, hl, h3⟩⟩
/-- a fraction's looks -/
def isInt : D → Bool
  | .int _ => true
  | _ => false
theorem r_is_integer {d : D} {t : Ty} (ht : tyOf S d = some t) : run sub TT (n + 1) i_is_integer [d] S Q E = Q (.bl (isInt d)) S := by
  rw [run_eq at_is_integer rfl]
  simp only [f_is_integer, is_integer_1, ht, wpS, wpE, wpEs, wpP, wpI, wpT, begin_, hxD, hxD.hxL, catch_, putAll, Ev.unpack, tgSem, wipe, o_add, o_sub, o_mul, o_div, o_mod, o_pow, o_tup, o_lst, o_rep, c_eq, c_ne, c_lt, c_le, c_gt, c_ge, c_isn, c_notn, c_isb, c_in, c_nin, q_int, q_bl, not_true_eq_false, not_false_eq_true, Bool.false_or, Bool.true_or, Bool.or_true, Bool.true_and, Bool.false_and, Bool.and_true, Bool.and_false,  id_eq, lst_new, boolsD, intsD, Option.map_some, List.all_cons, List.all_nil, List.map_append,  q_lit, String.reduceEq, decide_true, decide_false, Bool.not_true, Bool.not_false, Bool.true_eq_false, Bool.false_eq_true, eq_self, i_isn, i_isi, i_isb, i_iss, i_ist, i_isr, t_non, t_int, t_bl, t_str, t_tup, t_fz, b_abs, b_lent, b_lenf, b_lens, b_list, b_tuple, b_int, b_intb, b_sum, b_min2, b_max2, b_all, b_any, b_gcd, b_dict, m_app, m_ext, m_popi, m_pop, x_tup, x_fz, List.map_cons, List.map_nil, List.length_cons, List.length_nil, List.replicate, List.append_nil, List.cons_append, List.nil_append, List.getElem?_cons_zero, List.getElem?_cons_succ, List.set_cons_zero, List.set_cons_succ, Option.some.injEq, D.int.injEq, D.bl.injEq, D.str.injEq, D.tup.injEq, D.ref.injEq, exists_eq_left', exists_eq_left, exists_eq_right, true_and, and_true, Nat.reduceSub, Nat.reduceAdd, Nat.zero_add, reduceCtorEq, false_implies, true_implies, decide_eq_true_eq, decide_eq_false_iff_not, forall_const, List.any_cons, List.any_nil, Bool.or_false, subTy, pl1_0, pn1, pl2_0, pl2_1, pn2, pl3_0, pl3_1, pl3_2, pn3, pl4_0, pl4_1, pl4_2, pl4_3, pn4, pl5_0, pl5_1, pl5_2, pl5_3, pl5_4, pn5, pl6_0, pl6_1, pl6_2, pl6_3, pl6_4, pl6_5, pn6, pl7_0, pl7_1, pl7_2, pl7_3, pl7_4, pl7_5, pl7_6, pn7, pl8_0, pl8_1, pl8_2, pl8_3, pl8_4, pl8_5, pl8_6, pl8_7, pn8, pl9_0, pl9_1, pl9_2, pl9_3, pl9_4, pl9_5, pl9_6, pl9_7, pl9_8, pn9]
  cases d with
  | ref m =>
    unfold tyOf at ht
    dsimp only at ht
    split at ht <;> cases ht <;> simp [isInt, subTy]
  | _ => cases ht <;> simp [isInt, subTy]
theorem r_reduced {a b : Int} (hb : b ≠ 0) (hs : b.natAbs < 2 ^ 8999) : run sub TT (n + 1) i_reduced [.int a, .int b] S Q E = Q (FD (Rat.divInt a b)) S := by
  rw [run_eq at_reduced rfl]
  have hg := gcd_lt (a := a) hb hs
  have h0 := gcd_ne (a := a) hb
  have d1 : DivOk a (Nat.gcd a.natAbs b.natAbs : Nat) := div_ok (k := 8999) (by omega) (by omega) (by decide)
  have d2 : DivOk a (0 - (Nat.gcd a.natAbs b.natAbs : Nat)) := div_ok (k := 8999) (by omega) (by omega) (by decide)
  have d3 : DivOk b (Nat.gcd a.natAbs b.natAbs : Nat) := d1
  have d4 : DivOk b (0 - (Nat.gcd a.natAbs b.natAbs : Nat)) := d2
  simp only [f_reduced, reduced_1, reduced_2, wpS, wpE, wpEs, wpP, wpI, wpT, begin_, hxD, hxD.hxL, catch_, putAll, Ev.unpack, tgSem, wipe, o_add, o_sub, o_mul, o_div, o_mod, o_pow, o_tup, o_lst, o_rep, c_eq, c_ne, c_lt, c_le, c_gt, c_ge, c_isn, c_notn, c_isb, c_in, c_nin, q_int, q_bl, not_true_eq_false, not_false_eq_true, Bool.false_or, Bool.true_or, Bool.or_true, Bool.true_and, Bool.false_and, Bool.and_true, Bool.and_false,  id_eq, lst_new, boolsD, intsD, Option.map_some, List.all_cons, List.all_nil, List.map_append,  q_lit, String.reduceEq, decide_true, decide_false, Bool.not_true, Bool.not_false, Bool.true_eq_false, Bool.false_eq_true, eq_self, i_isn, i_isi, i_isb, i_iss, i_ist, i_isr, t_non, t_int, t_bl, t_str, t_tup, t_fz, b_abs, b_lent, b_lenf, b_lens, b_list, b_tuple, b_int, b_intb, b_sum, b_min2, b_max2, b_all, b_any, b_gcd, b_dict, m_app, m_ext, m_popi, m_pop, x_tup, x_fz, List.map_cons, List.map_nil, List.length_cons, List.length_nil, List.replicate, List.append_nil, List.cons_append, List.nil_append, List.getElem?_cons_zero, List.getElem?_cons_succ, List.set_cons_zero, List.set_cons_succ, Option.some.injEq, D.int.injEq, D.bl.injEq, D.str.injEq, D.tup.injEq, D.ref.injEq, exists_eq_left', exists_eq_left, exists_eq_right, true_and, and_true, Nat.reduceSub, Nat.reduceAdd, Nat.zero_add, reduceCtorEq, false_implies, true_implies, decide_eq_true_eq, decide_eq_false_iff_not, forall_const, List.any_cons, List.any_nil, Bool.or_false, subTy, pl1_0, pn1, pl2_0, pl2_1, pn2, pl3_0, pl3_1, pl3_2, pn3, pl4_0, pl4_1, pl4_2, pl4_3, pn4, pl5_0, pl5_1, pl5_2, pl5_3, pl5_4, pn5, pl6_0, pl6_1, pl6_2, pl6_3, pl6_4, pl6_5, pn6, pl7_0, pl7_1, pl7_2, pl7_3, pl7_4, pl7_5, pl7_6, pn7, pl8_0, pl8_1, pl8_2, pl8_3, pl8_4, pl8_5, pl8_6, pl8_7, pn8, pl9_0, pl9_1, pl9_2, pl9_3, pl9_4, pl9_5, pl9_6, pl9_7, pl9_8, pn9, d1, d2, d3, d4]
  by_cases h : 0 < b
  · have : (2 : Nat) ≤ most := by decide
    simp only [h, not_true_eq_false, wpS, wpE, wpEs, wpP, wpI, wpT, begin_, hxD, hxD.hxL, catch_, putAll, Ev.unpack, tgSem, wipe, o_add, o_sub, o_mul, o_div, o_mod, o_pow, o_tup, o_lst, o_rep, c_eq, c_ne, c_lt, c_le, c_gt, c_ge, c_isn, c_notn, c_isb, c_in, c_nin, q_int, q_bl, not_true_eq_false, not_false_eq_true, Bool.false_or, Bool.true_or, Bool.or_true, Bool.true_and, Bool.false_and, Bool.and_true, Bool.and_false,  id_eq, lst_new, boolsD, intsD, Option.map_some, List.all_cons, List.all_nil, List.map_append,  q_lit, String.reduceEq, decide_true, decide_false, Bool.not_true, Bool.not_false, Bool.true_eq_false, Bool.false_eq_true, eq_self, i_isn, i_isi, i_isb, i_iss, i_ist, i_isr, t_non, t_int, t_bl, t_str, t_tup, t_fz, b_abs, b_lent, b_lenf, b_lens, b_list, b_tuple, b_int, b_intb, b_sum, b_min2, b_max2, b_all, b_any, b_gcd, b_dict, m_app, m_ext, m_popi, m_pop, x_tup, x_fz, List.map_cons, List.map_nil, List.length_cons, List.length_nil, List.replicate, List.append_nil, List.cons_append, List.nil_append, List.getElem?_cons_zero, List.getElem?_cons_succ, List.set_cons_zero, List.set_cons_succ, Option.some.injEq, D.int.injEq, D.bl.injEq, D.str.injEq, D.tup.injEq, D.ref.injEq, exists_eq_left', exists_eq_left, exists_eq_right, true_and, and_true, Nat.reduceSub, Nat.reduceAdd, Nat.zero_add, reduceCtorEq, false_implies, true_implies, decide_eq_true_eq, decide_eq_false_iff_not, forall_const, List.any_cons, List.any_nil, Bool.or_false, subTy, pl1_0, pn1, pl2_0, pl2_1, pn2, pl3_0, pl3_1, pl3_2, pn3, pl4_0, pl4_1, pl4_2, pl4_3, pn4, pl5_0, pl5_1, pl5_2, pl5_3, pl5_4, pn5, pl6_0, pl6_1, pl6_2, pl6_3, pl6_4, pl6_5, pn6, pl7_0, pl7_1, pl7_2, pl7_3, pl7_4, pl7_5, pl7_6, pn7, pl8_0, pl8_1, pl8_2, pl8_3, pl8_4, pl8_5, pl8_6, pl8_7, pn8, pl9_0, pl9_1, pl9_2, pl9_3, pl9_4, pl9_5, pl9_6, pl9_7, pl9_8, pn9, this, fd_pos h]
  · have : (2 : Nat) ≤ most := by decide
    simp only [h, not_false_eq_true, wpS, wpE, wpEs, wpP, wpI, wpT, begin_, hxD, hxD.hxL, catch_, putAll, Ev.unpack, tgSem, wipe, o_add, o_sub, o_mul, o_div, o_mod, o_pow, o_tup, o_lst, o_rep, c_eq, c_ne, c_lt, c_le, c_gt, c_ge, c_isn, c_notn, c_isb, c_in, c_nin, q_int, q_bl, not_true_eq_false, not_false_eq_true, Bool.false_or, Bool.true_or, Bool.or_true, Bool.true_and, Bool.false_and, Bool.and_true, Bool.and_false,  id_eq, lst_new, boolsD, intsD, Option.map_some, List.all_cons, List.all_nil, List.map_append,  q_lit, String.reduceEq, decide_true, decide_false, Bool.not_true, Bool.not_false, Bool.true_eq_false, Bool.false_eq_true, eq_self, i_isn, i_isi, i_isb, i_iss, i_ist, i_isr, t_non, t_int, t_bl, t_str, t_tup, t_fz, b_abs, b_lent, b_lenf, b_lens, b_list, b_tuple, b_int, b_intb, b_sum, b_min2, b_max2, b_all, b_any, b_gcd, b_dict, m_app, m_ext, m_popi, m_pop, x_tup, x_fz, List.map_cons, List.map_nil, List.length_cons, List.length_nil, List.replicate, List.append_nil, List.cons_append, List.nil_append, List.getElem?_cons_zero, List.getElem?_cons_succ, List.set_cons_zero, List.set_cons_succ, Option.some.injEq, D.int.injEq, D.bl.injEq, D.str.injEq, D.tup.injEq, D.ref.injEq, exists_eq_left', exists_eq_left, exists_eq_right, true_and, and_true, Nat.reduceSub, Nat.reduceAdd, Nat.zero_add, reduceCtorEq, false_implies, true_implies, decide_eq_true_eq, decide_eq_false_iff_not, forall_const, List.any_cons, List.any_nil, Bool.or_false, subTy, pl1_0, pn1, pl2_0, pl2_1, pn2, pl3_0, pl3_1, pl3_2, pn3, pl4_0, pl4_1, pl4_2, pl4_3, pn4, pl5_0, pl5_1, pl5_2, pl5_3, pl5_4, pn5, pl6_0, pl6_1, pl6_2, pl6_3, pl6_4, pl6_5, pn6, pl7_0, pl7_1, pl7_2, pl7_3, pl7_4, pl7_5, pl7_6, pn7, pl8_0, pl8_1, pl8_2, pl8_3, pl8_4, pl8_5, pl8_6, pl8_7, pn8, pl9_0, pl9_1, pl9_2, pl9_3, pl9_4, pl9_5, pl9_6, pl9_7, pl9_8, pn9, this, fd_neg (show b < 0 by omega)]
theorem r_added {x y : Rat} (hx : Sz 4000 x) (hy : Sz 4000 y) : run sub TT (n + 2) i_added [FD x, FD y] S Q E = Q (FD (x + y)) S := by
  rw [run_eq at_added rfl]
  have m1 := mul_ok hx.num hy.den (by decide)
  have m2 := mul_ok hy.num hx.den (by decide)
  have m3 := mul_ok hx.den hy.den (by decide)
  simp only [f_added, added_1, FD, wpS, wpE, wpEs, wpP, wpI, wpT, begin_, hxD, hxD.hxL, catch_, putAll, Ev.unpack, tgSem, wipe, o_add, o_sub, o_mul, o_div, o_mod, o_pow, o_tup, o_lst, o_rep, c_eq, c_ne, c_lt, c_le, c_gt, c_ge, c_isn, c_notn, c_isb, c_in, c_nin, q_int, q_bl, not_true_eq_false, not_false_eq_true, Bool.false_or, Bool.true_or, Bool.or_true, Bool.true_and, Bool.false_and, Bool.and_true, Bool.and_false,  id_eq, lst_new, boolsD, intsD, Option.map_some, List.all_cons, List.all_nil, List.map_append,  q_lit, String.reduceEq, decide_true, decide_false, Bool.not_true, Bool.not_false, Bool.true_eq_false, Bool.false_eq_true, eq_self, i_isn, i_isi, i_isb, i_iss, i_ist, i_isr, t_non, t_int, t_bl, t_str, t_tup, t_fz, b_abs, b_lent, b_lenf, b_lens, b_list, b_tuple, b_int, b_intb, b_sum, b_min2, b_max2, b_all, b_any, b_gcd, b_dict, m_app, m_ext, m_popi, m_pop, x_tup, x_fz, List.map_cons, List.map_nil, List.length_cons, List.length_nil, List.replicate, List.append_nil, List.cons_append, List.nil_append, List.getElem?_cons_zero, List.getElem?_cons_succ, List.set_cons_zero, List.set_cons_succ, Option.some.injEq, D.int.injEq, D.bl.injEq, D.str.injEq, D.tup.injEq, D.ref.injEq, exists_eq_left', exists_eq_left, exists_eq_right, true_and, and_true, Nat.reduceSub, Nat.reduceAdd, Nat.zero_add, reduceCtorEq, false_implies, true_implies, decide_eq_true_eq, decide_eq_false_iff_not, forall_const, List.any_cons, List.any_nil, Bool.or_false, subTy, pl1_0, pn1, pl2_0, pl2_1, pn2, pl3_0, pl3_1, pl3_2, pn3, pl4_0, pl4_1, pl4_2, pl4_3, pn4, pl5_0, pl5_1, pl5_2, pl5_3, pl5_4, pn5, pl6_0, pl6_1, pl6_2, pl6_3, pl6_4, pl6_5, pn6, pl7_0, pl7_1, pl7_2, pl7_3, pl7_4, pl7_5, pl7_6, pn7, pl8_0, pl8_1, pl8_2, pl8_3, pl8_4, pl8_5, pl8_6, pl8_7, pn8, pl9_0, pl9_1, pl9_2, pl9_3, pl9_4, pl9_5, pl9_6, pl9_7, pl9_8, pn9, m1, m2, m3]
  have := r_reduced (n := n) (S := S) (Q := Q) (E := E) (a := x.num * y.den + y.num * x.den) (b := x.den * y.den) (Int.mul_ne_zero (den_ne x) (den_ne y)) (lt_up (mul_lt hx.den hy.den) (by decide))
  rw [add_eq] at this
  exact this
theorem r_opposite {x : Rat} : run sub TT (n + 1) i_opposite [FD x] S Q E = Q (FD (-x)) S := by
  rw [run_eq at_opposite rfl]
  have : (2 : Nat) ≤ most := by decide
  simp only [f_opposite, opposite_1, FD, wpS, wpE, wpEs, wpP, wpI, wpT, begin_, hxD, hxD.hxL, catch_, putAll, Ev.unpack, tgSem, wipe, o_add, o_sub, o_mul, o_div, o_mod, o_pow, o_tup, o_lst, o_rep, c_eq, c_ne, c_lt, c_le, c_gt, c_ge, c_isn, c_notn, c_isb, c_in, c_nin, q_int, q_bl, not_true_eq_false, not_false_eq_true, Bool.false_or, Bool.true_or, Bool.or_true, Bool.true_and, Bool.false_and, Bool.and_true, Bool.and_false,  id_eq, lst_new, boolsD, intsD, Option.map_some, List.all_cons, List.all_nil, List.map_append,  q_lit, String.reduceEq, decide_true, decide_false, Bool.not_true, Bool.not_false, Bool.true_eq_false, Bool.false_eq_true, eq_self, i_isn, i_isi, i_isb, i_iss, i_ist, i_isr, t_non, t_int, t_bl, t_str, t_tup, t_fz, b_abs, b_lent, b_lenf, b_lens, b_list, b_tuple, b_int, b_intb, b_sum, b_min2, b_max2, b_all, b_any, b_gcd, b_dict, m_app, m_ext, m_popi, m_pop, x_tup, x_fz, List.map_cons, List.map_nil, List.length_cons, List.length_nil, List.replicate, List.append_nil, List.cons_append, List.nil_append, List.getElem?_cons_zero, List.getElem?_cons_succ, List.set_cons_zero, List.set_cons_succ, Option.some.injEq, D.int.injEq, D.bl.injEq, D.str.injEq, D.tup.injEq, D.ref.injEq, exists_eq_left', exists_eq_left, exists_eq_right, true_and, and_true, Nat.reduceSub, Nat.reduceAdd, Nat.zero_add, reduceCtorEq, false_implies, true_implies, decide_eq_true_eq, decide_eq_false_iff_not, forall_const, List.any_cons, List.any_nil, Bool.or_false, subTy, pl1_0, pn1, pl2_0, pl2_1, pn2, pl3_0, pl3_1, pl3_2, pn3, pl4_0, pl4_1, pl4_2, pl4_3, pn4, pl5_0, pl5_1, pl5_2, pl5_3, pl5_4, pn5, pl6_0, pl6_1, pl6_2, pl6_3, pl6_4, pl6_5, pn6, pl7_0, pl7_1, pl7_2, pl7_3, pl7_4, pl7_5, pl7_6, pn7, pl8_0, pl8_1, pl8_2, pl8_3, pl8_4, pl8_5, pl8_6, pl8_7, pn8, pl9_0, pl9_1, pl9_2, pl9_3, pl9_4, pl9_5, pl9_6, pl9_7, pl9_8, pn9, this, Rat.neg_num, Rat.neg_den, Int.zero_sub]
theorem r_lessened {x y : Rat} (hx : Sz 4000 x) (hy : Sz 4000 y) : run sub TT (n + 3) i_lessened [FD x, FD y] S Q E = Q (FD (x - y)) S := by
  rw [run_eq at_lessened rfl]
  simp only [f_lessened, lessened_1, wpS, wpE, wpEs, wpP, wpI, wpT, begin_, hxD, hxD.hxL, catch_, putAll, Ev.unpack, tgSem, wipe, o_add, o_sub, o_mul, o_div, o_mod, o_pow, o_tup, o_lst, o_rep, c_eq, c_ne, c_lt, c_le, c_gt, c_ge, c_isn, c_notn, c_isb, c_in, c_nin, q_int, q_bl, not_true_eq_false, not_false_eq_true, Bool.false_or, Bool.true_or, Bool.or_true, Bool.true_and, Bool.false_and, Bool.and_true, Bool.and_false,  id_eq, lst_new, boolsD, intsD, Option.map_some, List.all_cons, List.all_nil, List.map_append,  q_lit, String.reduceEq, decide_true, decide_false, Bool.not_true, Bool.not_false, Bool.true_eq_false, Bool.false_eq_true, eq_self, i_isn, i_isi, i_isb, i_iss, i_ist, i_isr, t_non, t_int, t_bl, t_str, t_tup, t_fz, b_abs, b_lent, b_lenf, b_lens, b_list, b_tuple, b_int, b_intb, b_sum, b_min2, b_max2, b_all, b_any, b_gcd, b_dict, m_app, m_ext, m_popi, m_pop, x_tup, x_fz, List.map_cons, List.map_nil, List.length_cons, List.length_nil, List.replicate, List.append_nil, List.cons_append, List.nil_append, List.getElem?_cons_zero, List.getElem?_cons_succ, List.set_cons_zero, List.set_cons_succ, Option.some.injEq, D.int.injEq, D.bl.injEq, D.str.injEq, D.tup.injEq, D.ref.injEq, exists_eq_left', exists_eq_left, exists_eq_right, true_and, and_true, Nat.reduceSub, Nat.reduceAdd, Nat.zero_add, reduceCtorEq, false_implies, true_implies, decide_eq_true_eq, decide_eq_false_iff_not, forall_const, List.any_cons, List.any_nil, Bool.or_false, subTy, pl1_0, pn1, pl2_0, pl2_1, pn2, pl3_0, pl3_1, pl3_2, pn3, pl4_0, pl4_1, pl4_2, pl4_3, pn4, pl5_0, pl5_1, pl5_2, pl5_3, pl5_4, pn5, pl6_0, pl6_1, pl6_2, pl6_3, pl6_4, pl6_5, pn6, pl7_0, pl7_1, pl7_2, pl7_3, pl7_4, pl7_5, pl7_6, pn7, pl8_0, pl8_1, pl8_2, pl8_3, pl8_4, pl8_5, pl8_6, pl8_7, pn8, pl9_0, pl9_1, pl9_2, pl9_3, pl9_4, pl9_5, pl9_6, pl9_7, pl9_8, pn9, r_opposite, r_added hx (sz_neg hy), ← Rat.sub_eq_add_neg]
theorem r_product {x y : Rat} (hx : Sz 4000 x) (hy : Sz 4000 y) : run sub TT (n + 2) i_product [FD x, FD y] S Q E = Q (FD (x * y)) S := by
  rw [run_eq at_product rfl]
  have m1 := mul_ok hx.num hy.num (by decide)
  have m3 := mul_ok hx.den hy.den (by decide)
  simp only [f_product, product_1, FD, wpS, wpE, wpEs, wpP, wpI, wpT, begin_, hxD, hxD.hxL, catch_, putAll, Ev.unpack, tgSem, wipe, o_add, o_sub, o_mul, o_div, o_mod, o_pow, o_tup, o_lst, o_rep, c_eq, c_ne, c_lt, c_le, c_gt, c_ge, c_isn, c_notn, c_isb, c_in, c_nin, q_int, q_bl, not_true_eq_false, not_false_eq_true, Bool.false_or, Bool.true_or, Bool.or_true, Bool.true_and, Bool.false_and, Bool.and_true, Bool.and_false,  id_eq, lst_new, boolsD, intsD, Option.map_some, List.all_cons, List.all_nil, List.map_append,  q_lit, String.reduceEq, decide_true, decide_false, Bool.not_true, Bool.not_false, Bool.true_eq_false, Bool.false_eq_true, eq_self, i_isn, i_isi, i_isb, i_iss, i_ist, i_isr, t_non, t_int, t_bl, t_str, t_tup, t_fz, b_abs, b_lent, b_lenf, b_lens, b_list, b_tuple, b_int, b_intb, b_sum, b_min2, b_max2, b_all, b_any, b_gcd, b_dict, m_app, m_ext, m_popi, m_pop, x_tup, x_fz, List.map_cons, List.map_nil, List.length_cons, List.length_nil, List.replicate, List.append_nil, List.cons_append, List.nil_append, List.getElem?_cons_zero, List.getElem?_cons_succ, List.set_cons_zero, List.set_cons_succ, Option.some.injEq, D.int.injEq, D.bl.injEq, D.str.injEq, D.tup.injEq, D.ref.injEq, exists_eq_left', exists_eq_left, exists_eq_right, true_and, and_true, Nat.reduceSub, Nat.reduceAdd, Nat.zero_add, reduceCtorEq, false_implies, true_implies, decide_eq_true_eq, decide_eq_false_iff_not, forall_const, List.any_cons, List.any_nil, Bool.or_false, subTy, pl1_0, pn1, pl2_0, pl2_1, pn2, pl3_0, pl3_1, pl3_2, pn3, pl4_0, pl4_1, pl4_2, pl4_3, pn4, pl5_0, pl5_1, pl5_2, pl5_3, pl5_4, pn5, pl6_0, pl6_1, pl6_2, pl6_3, pl6_4, pl6_5, pn6, pl7_0, pl7_1, pl7_2, pl7_3, pl7_4, pl7_5, pl7_6, pn7, pl8_0, pl8_1, pl8_2, pl8_3, pl8_4, pl8_5, pl8_6, pl8_7, pn8, pl9_0, pl9_1, pl9_2, pl9_3, pl9_4, pl9_5, pl9_6, pl9_7, pl9_8, pn9, m1, m3]
  have := r_reduced (n := n) (S := S) (Q := Q) (E := E) (a := x.num * y.num) (b := x.den * y.den) (Int.mul_ne_zero (den_ne x) (den_ne y)) (lt_up (mul_lt hx.den hy.den) (by decide))
  rw [mul_eq] at this
  exact this
theorem r_quotient {x y : Rat} (hx : Sz 4000 x) (hy : Sz 4000 y) (h0 : y ≠ 0) : run sub TT (n + 2) i_quotient [FD x, FD y] S Q E = Q (FD (x / y)) S := by
  rw [run_eq at_quotient rfl]
  have m1 := mul_ok hx.num hy.den (by decide)
  have m3 := mul_ok hx.den hy.num (by decide)
  simp only [f_quotient, quotient_1, FD, wpS, wpE, wpEs, wpP, wpI, wpT, begin_, hxD, hxD.hxL, catch_, putAll, Ev.unpack, tgSem, wipe, o_add, o_sub, o_mul, o_div, o_mod, o_pow, o_tup, o_lst, o_rep, c_eq, c_ne, c_lt, c_le, c_gt, c_ge, c_isn, c_notn, c_isb, c_in, c_nin, q_int, q_bl, not_true_eq_false, not_false_eq_true, Bool.false_or, Bool.true_or, Bool.or_true, Bool.true_and, Bool.false_and, Bool.and_true, Bool.and_false,  id_eq, lst_new, boolsD, intsD, Option.map_some, List.all_cons, List.all_nil, List.map_append,  q_lit, String.reduceEq, decide_true, decide_false, Bool.not_true, Bool.not_false, Bool.true_eq_false, Bool.false_eq_true, eq_self, i_isn, i_isi, i_isb, i_iss, i_ist, i_isr, t_non, t_int, t_bl, t_str, t_tup, t_fz, b_abs, b_lent, b_lenf, b_lens, b_list, b_tuple, b_int, b_intb, b_sum, b_min2, b_max2, b_all, b_any, b_gcd, b_dict, m_app, m_ext, m_popi, m_pop, x_tup, x_fz, List.map_cons, List.map_nil, List.length_cons, List.length_nil, List.replicate, List.append_nil, List.cons_append, List.nil_append, List.getElem?_cons_zero, List.getElem?_cons_succ, List.set_cons_zero, List.set_cons_succ, Option.some.injEq, D.int.injEq, D.bl.injEq, D.str.injEq, D.tup.injEq, D.ref.injEq, exists_eq_left', exists_eq_left, exists_eq_right, true_and, and_true, Nat.reduceSub, Nat.reduceAdd, Nat.zero_add, reduceCtorEq, false_implies, true_implies, decide_eq_true_eq, decide_eq_false_iff_not, forall_const, List.any_cons, List.any_nil, Bool.or_false, subTy, pl1_0, pn1, pl2_0, pl2_1, pn2, pl3_0, pl3_1, pl3_2, pn3, pl4_0, pl4_1, pl4_2, pl4_3, pn4, pl5_0, pl5_1, pl5_2, pl5_3, pl5_4, pn5, pl6_0, pl6_1, pl6_2, pl6_3, pl6_4, pl6_5, pn6, pl7_0, pl7_1, pl7_2, pl7_3, pl7_4, pl7_5, pl7_6, pn7, pl8_0, pl8_1, pl8_2, pl8_3, pl8_4, pl8_5, pl8_6, pl8_7, pn8, pl9_0, pl9_1, pl9_2, pl9_3, pl9_4, pl9_5, pl9_6, pl9_7, pl9_8, pn9, m1, m3]
  have := r_reduced (n := n) (S := S) (Q := Q) (E := E) (a := x.num * y.den) (b := x.den * y.num) (Int.mul_ne_zero (den_ne x) (num_ne h0)) (lt_up (mul_lt hx.den hy.num) (by decide))
  rw [div_eq] at this
  exact this
theorem r_is_less {x y : Rat} (hx : Sz 4000 x) (hy : Sz 4000 y) : run sub TT (n + 1) i_is_less [FD x, FD y] S Q E = Q (.bl (decide (x < y))) S := by
  rw [run_eq at_is_less rfl]
  have m1 := mul_ok hx.num hy.den (by decide)
  have m2 := mul_ok hy.num hx.den (by decide)
  simp only [f_is_less, is_less_1, FD, wpS, wpE, wpEs, wpP, wpI, wpT, begin_, hxD, hxD.hxL, catch_, putAll, Ev.unpack, tgSem, wipe, o_add, o_sub, o_mul, o_div, o_mod, o_pow, o_tup, o_lst, o_rep, c_eq, c_ne, c_lt, c_le, c_gt, c_ge, c_isn, c_notn, c_isb, c_in, c_nin, q_int, q_bl, not_true_eq_false, not_false_eq_true, Bool.false_or, Bool.true_or, Bool.or_true, Bool.true_and, Bool.false_and, Bool.and_true, Bool.and_false,  id_eq, lst_new, boolsD, intsD, Option.map_some, List.all_cons, List.all_nil, List.map_append,  q_lit, String.reduceEq, decide_true, decide_false, Bool.not_true, Bool.not_false, Bool.true_eq_false, Bool.false_eq_true, eq_self, i_isn, i_isi, i_isb, i_iss, i_ist, i_isr, t_non, t_int, t_bl, t_str, t_tup, t_fz, b_abs, b_lent, b_lenf, b_lens, b_list, b_tuple, b_int, b_intb, b_sum, b_min2, b_max2, b_all, b_any, b_gcd, b_dict, m_app, m_ext, m_popi, m_pop, x_tup, x_fz, List.map_cons, List.map_nil, List.length_cons, List.length_nil, List.replicate, List.append_nil, List.cons_append, List.nil_append, List.getElem?_cons_zero, List.getElem?_cons_succ, List.set_cons_zero, List.set_cons_succ, Option.some.injEq, D.int.injEq, D.bl.injEq, D.str.injEq, D.tup.injEq, D.ref.injEq, exists_eq_left', exists_eq_left, exists_eq_right, true_and, and_true, Nat.reduceSub, Nat.reduceAdd, Nat.zero_add, reduceCtorEq, false_implies, true_implies, decide_eq_true_eq, decide_eq_false_iff_not, forall_const, List.any_cons, List.any_nil, Bool.or_false, subTy, pl1_0, pn1, pl2_0, pl2_1, pn2, pl3_0, pl3_1, pl3_2, pn3, pl4_0, pl4_1, pl4_2, pl4_3, pn4, pl5_0, pl5_1, pl5_2, pl5_3, pl5_4, pn5, pl6_0, pl6_1, pl6_2, pl6_3, pl6_4, pl6_5, pn6, pl7_0, pl7_1, pl7_2, pl7_3, pl7_4, pl7_5, pl7_6, pn7, pl8_0, pl8_1, pl8_2, pl8_3, pl8_4, pl8_5, pl8_6, pl8_7, pn8, pl9_0, pl9_1, pl9_2, pl9_3, pl9_4, pl9_5, pl9_6, pl9_7, pl9_8, pn9, m1, m2, lt_eq]
end
end EvL
end
section
set_option Elab.async false
set_option linter.all false
set_option maxRecDepth 100000
set_option maxHeartbeats 400000
set_option exponentiation.threshold 10000
namespace EvL
open PySem Ev
/-- a value that may be looked at -/
def Wf (S : Sto) (d : D) : Prop := ∃ t, tyOf S d = some t
def Wf1 (S : Sto) (d : D) : Prop := Wf S d ∧ ∀ xs, d = .tup xs → ∀ x ∈ xs, Wf S x
theorem ty_gr {S S' : Sto} {d : D} {t : Ty} (g : Gr S S') (h : tyOf S d = some t) : tyOf S' d = some t := by
  obtain ⟨T, rfl⟩ := g
  cases d with
  | ref n =>
    unfold tyOf at h ⊢
    dsimp only at h ⊢
    cases q : S[n]? with
    | none => rw [q] at h; cases h
    | some o =>
      rw [List.getElem?_append_left (List.getElem?_eq_some_iff.mp q).1, q]
      rw [q] at h
      exact h
  | _ => exact h
theorem Wf.gr {S S' : Sto} {d : D} (g : Gr S S') (h : Wf S d) : Wf S' d := let ⟨t, h⟩ := h; ⟨t, ty_gr g h⟩
theorem Wf1.gr {S S' : Sto} {d : D} (g : Gr S S') (h : Wf1 S d) : Wf1 S' d := ⟨h.1.gr g, fun xs e x hx => (h.2 xs e x hx).gr g⟩
/-- a fraction in lowest terms -/
def isFr : D → Bool
  | .tup [.int a, .int b] => decide (0 < b) && decide (Nat.gcd a.natAbs b.natAbs = 1)
  | _ => false
theorem isFr_iff {d : D} : isFr d = true ↔ ∃ x, d = FD x := by
  refine ⟨fun h => ?_, fun ⟨x, h⟩ => ?_⟩
  · unfold isFr at h
    split at h
    · rename_i a b
      simp only [Bool.and_eq_true, decide_eq_true_eq] at h
      refine ⟨⟨a, b.natAbs, by omega, h.2⟩, ?_⟩
      unfold FD
      have : ((b.natAbs : Nat) : Int) = b := by omega
      simp only [this]
    · cases h
  · subst h
    show (decide ((0 : Int) < x.den) && decide (Nat.gcd x.num.natAbs ((x.den : Int)).natAbs = 1)) = true
    have h1 := den_pos x
    have h2 := x.reduced
    simp only [Bool.and_eq_true, decide_eq_true_eq]
    exact ⟨h1, h2⟩
theorem wf_fd {S : Sto} {x : Rat} : Wf1 S (FD x) := ⟨⟨.tup, rfl⟩, fun xs e y hy => by
  cases e
  rcases List.mem_cons.mp hy with rfl | hy
  · exact ⟨.int, rfl⟩
  · rcases List.mem_cons.mp hy with rfl | hy
    · exact ⟨.int, rfl⟩
    · cases hy⟩
section
variable {n : Nat} {S : Sto} {Q : Po} {E : Xo}
def tupLen (k : Int) : D → Bool
  | .tup xs => decide ((xs.length : Int) = k)
  | _ => false
theorem r_is_tuple_of {d : D} {k : Int} (h : Wf S d) : run sub TT (n + 1) i_is_tuple_of [d, .int k] S Q E = Q (.bl (tupLen k d)) S := by
  obtain ⟨t, ht⟩ := h
  rw [run_eq at_is_tuple_of rfl]
  simp only [f_is_tuple_of, is_tuple_of_1, ht, wpS, wpE, wpEs, wpP, wpI, wpT, begin_, hxD, hxD.hxL, catch_, putAll, Ev.unpack, tgSem, wipe, o_add, o_sub, o_mul, o_div, o_mod, o_pow, o_tup, o_lst, o_rep, c_eq, c_ne, c_lt, c_le, c_gt, c_ge, c_isn, c_notn, c_isb, c_in, c_nin, q_int, q_bl, not_true_eq_false, not_false_eq_true, Bool.false_or, Bool.true_or, Bool.or_true, Bool.true_and, Bool.false_and, Bool.and_true, Bool.and_false,  id_eq, lst_new, boolsD, intsD, Option.map_some, List.all_cons, List.all_nil, List.map_append,  q_lit, String.reduceEq, decide_true, decide_false, Bool.not_true, Bool.not_false, Bool.true_eq_false, Bool.false_eq_true, eq_self, i_isn, i_isi, i_isb, i_iss, i_ist, i_isr, t_non, t_int, t_bl, t_str, t_tup, t_fz, b_abs, b_lent, b_lenf, b_lens, b_list, b_tuple, b_int, b_intb, b_sum, b_min2, b_max2, b_all, b_any, b_gcd, b_dict, m_app, m_ext, m_popi, m_pop, x_tup, x_fz, List.map_cons, List.map_nil, List.length_cons, List.length_nil, List.replicate, List.append_nil, List.cons_append, List.nil_append, List.getElem?_cons_zero, List.getElem?_cons_succ, List.set_cons_zero, List.set_cons_succ, Option.some.injEq, D.int.injEq, D.bl.injEq, D.str.injEq, D.tup.injEq, D.ref.injEq, exists_eq_left', exists_eq_left, exists_eq_right, true_and, and_true, Nat.reduceSub, Nat.reduceAdd, Nat.zero_add, reduceCtorEq, false_implies, true_implies, decide_eq_true_eq, decide_eq_false_iff_not, forall_const, List.any_cons, List.any_nil, Bool.or_false, subTy, pl1_0, pn1, pl2_0, pl2_1, pn2, pl3_0, pl3_1, pl3_2, pn3, pl4_0, pl4_1, pl4_2, pl4_3, pn4, pl5_0, pl5_1, pl5_2, pl5_3, pl5_4, pn5, pl6_0, pl6_1, pl6_2, pl6_3, pl6_4, pl6_5, pn6, pl7_0, pl7_1, pl7_2, pl7_3, pl7_4, pl7_5, pl7_6, pn7, pl8_0, pl8_1, pl8_2, pl8_3, pl8_4, pl8_5, pl8_6, pl8_7, pn8, pl9_0, pl9_1, pl9_2, pl9_3, pl9_4, pl9_5, pl9_6, pl9_7, pl9_8, pn9]
  cases d with
  | ref m =>
    unfold tyOf at ht
    dsimp only at ht
    split at ht <;> cases ht <;> simp [tupLen, subTy]
  | tup xs => cases ht; simp [tupLen, subTy, b_lent, q_int, cmpSem]
  | _ => cases ht <;> simp [tupLen, subTy]
theorem r_is_fraction {d : D} (h : Wf1 S d) (q : ∀ S', Gr S S' → Q (.bl (isFr d)) S') : run sub TT (n + 2) i_is_fraction [d] S Q E := by
  rw [run_eq at_is_fraction rfl]
  simp only [f_is_fraction, is_fraction_1, wpS, wpE, wpEs, wpP, wpI, wpT, begin_, hxD, hxD.hxL, catch_, putAll, Ev.unpack, tgSem, wipe, o_add, o_sub, o_mul, o_div, o_mod, o_pow, o_tup, o_lst, o_rep, c_eq, c_ne, c_lt, c_le, c_gt, c_ge, c_isn, c_notn, c_isb, c_in, c_nin, q_int, q_bl, not_true_eq_false, not_false_eq_true, Bool.false_or, Bool.true_or, Bool.or_true, Bool.true_and, Bool.false_and, Bool.and_true, Bool.and_false,  id_eq, lst_new, boolsD, intsD, Option.map_some, List.all_cons, List.all_nil, List.map_append,  q_lit, String.reduceEq, decide_true, decide_false, Bool.not_true, Bool.not_false, Bool.true_eq_false, Bool.false_eq_true, eq_self, i_isn, i_isi, i_isb, i_iss, i_ist, i_isr, t_non, t_int, t_bl, t_str, t_tup, t_fz, b_abs, b_lent, b_lenf, b_lens, b_list, b_tuple, b_int, b_intb, b_sum, b_min2, b_max2, b_all, b_any, b_gcd, b_dict, m_app, m_ext, m_popi, m_pop, x_tup, x_fz, List.map_cons, List.map_nil, List.length_cons, List.length_nil, List.replicate, List.append_nil, List.cons_append, List.nil_append, List.getElem?_cons_zero, List.getElem?_cons_succ, List.set_cons_zero, List.set_cons_succ, Option.some.injEq, D.int.injEq, D.bl.injEq, D.str.injEq, D.tup.injEq, D.ref.injEq, exists_eq_left', exists_eq_left, exists_eq_right, true_and, and_true, Nat.reduceSub, Nat.reduceAdd, Nat.zero_add, reduceCtorEq, false_implies, true_implies, decide_eq_true_eq, decide_eq_false_iff_not, forall_const, List.any_cons, List.any_nil, Bool.or_false, subTy, pl1_0, pn1, pl2_0, pl2_1, pn2, pl3_0, pl3_1, pl3_2, pn3, pl4_0, pl4_1, pl4_2, pl4_3, pn4, pl5_0, pl5_1, pl5_2, pl5_3, pl5_4, pn5, pl6_0, pl6_1, pl6_2, pl6_3, pl6_4, pl6_5, pn6, pl7_0, pl7_1, pl7_2, pl7_3, pl7_4, pl7_5, pl7_6, pn7, pl8_0, pl8_1, pl8_2, pl8_3, pl8_4, pl8_5, pl8_6, pl8_7, pn8, pl9_0, pl9_1, pl9_2, pl9_3, pl9_4, pl9_5, pl9_6, pl9_7, pl9_8, pn9, r_is_tuple_of h.1]
  cases hl : tupLen 2 d with
  | false =>
    simp only [wpS, wpE, wpEs, wpP, wpI, wpT, begin_, hxD, hxD.hxL, catch_, putAll, Ev.unpack, tgSem, wipe, o_add, o_sub, o_mul, o_div, o_mod, o_pow, o_tup, o_lst, o_rep, c_eq, c_ne, c_lt, c_le, c_gt, c_ge, c_isn, c_notn, c_isb, c_in, c_nin, q_int, q_bl, not_true_eq_false, not_false_eq_true, Bool.false_or, Bool.true_or, Bool.or_true, Bool.true_and, Bool.false_and, Bool.and_true, Bool.and_false,  id_eq, lst_new, boolsD, intsD, Option.map_some, List.all_cons, List.all_nil, List.map_append,  q_lit, String.reduceEq, decide_true, decide_false, Bool.not_true, Bool.not_false, Bool.true_eq_false, Bool.false_eq_true, eq_self, i_isn, i_isi, i_isb, i_iss, i_ist, i_isr, t_non, t_int, t_bl, t_str, t_tup, t_fz, b_abs, b_lent, b_lenf, b_lens, b_list, b_tuple, b_int, b_intb, b_sum, b_min2, b_max2, b_all, b_any, b_gcd, b_dict, m_app, m_ext, m_popi, m_pop, x_tup, x_fz, List.map_cons, List.map_nil, List.length_cons, List.length_nil, List.replicate, List.append_nil, List.cons_append, List.nil_append, List.getElem?_cons_zero, List.getElem?_cons_succ, List.set_cons_zero, List.set_cons_succ, Option.some.injEq, D.int.injEq, D.bl.injEq, D.str.injEq, D.tup.injEq, D.ref.injEq, exists_eq_left', exists_eq_left, exists_eq_right, true_and, and_true, Nat.reduceSub, Nat.reduceAdd, Nat.zero_add, reduceCtorEq, false_implies, true_implies, decide_eq_true_eq, decide_eq_false_iff_not, forall_const, List.any_cons, List.any_nil, Bool.or_false, subTy, pl1_0, pn1, pl2_0, pl2_1, pn2, pl3_0, pl3_1, pl3_2, pn3, pl4_0, pl4_1, pl4_2, pl4_3, pn4, pl5_0, pl5_1, pl5_2, pl5_3, pl5_4, pn5, pl6_0, pl6_1, pl6_2, pl6_3, pl6_4, pl6_5, pn6, pl7_0, pl7_1, pl7_2, pl7_3, pl7_4, pl7_5, pl7_6, pn7, pl8_0, pl8_1, pl8_2, pl8_3, pl8_4, pl8_5, pl8_6, pl8_7, pn8, pl9_0, pl9_1, pl9_2, pl9_3, pl9_4, pl9_5, pl9_6, pl9_7, pl9_8, pn9]
    have : isFr d = false := by
      cases hd : isFr d with
      | false => rfl
      | true =>
        obtain ⟨x, rfl⟩ := isFr_iff.mp hd
        cases hl
    rw [← this]
    exact q S Gr.refl
  | true =>
    obtain ⟨xs, rfl⟩ : ∃ xs, d = .tup xs := by
      cases d with
      | tup xs => exact ⟨xs, rfl⟩
      | _ => cases hl
    have hl : decide ((xs.length : Int) = 2) = true := hl
    match xs, of_decide_eq_true hl with
    | [a, b], _ =>
      obtain ⟨ta, ha⟩ := h.2 _ rfl a (by simp)
      obtain ⟨tb, hb⟩ := h.2 _ rfl b (by simp)
      simp only [wpS, wpE, wpEs, wpP, wpI, wpT, begin_, hxD, hxD.hxL, catch_, putAll, Ev.unpack, tgSem, wipe, o_add, o_sub, o_mul, o_div, o_mod, o_pow, o_tup, o_lst, o_rep, c_eq, c_ne, c_lt, c_le, c_gt, c_ge, c_isn, c_notn, c_isb, c_in, c_nin, q_int, q_bl, not_true_eq_false, not_false_eq_true, Bool.false_or, Bool.true_or, Bool.or_true, Bool.true_and, Bool.false_and, Bool.and_true, Bool.and_false,  id_eq, lst_new, boolsD, intsD, Option.map_some, List.all_cons, List.all_nil, List.map_append,  q_lit, String.reduceEq, decide_true, decide_false, Bool.not_true, Bool.not_false, Bool.true_eq_false, Bool.false_eq_true, eq_self, i_isn, i_isi, i_isb, i_iss, i_ist, i_isr, t_non, t_int, t_bl, t_str, t_tup, t_fz, b_abs, b_lent, b_lenf, b_lens, b_list, b_tuple, b_int, b_intb, b_sum, b_min2, b_max2, b_all, b_any, b_gcd, b_dict, m_app, m_ext, m_popi, m_pop, x_tup, x_fz, List.map_cons, List.map_nil, List.length_cons, List.length_nil, List.replicate, List.append_nil, List.cons_append, List.nil_append, List.getElem?_cons_zero, List.getElem?_cons_succ, List.set_cons_zero, List.set_cons_succ, Option.some.injEq, D.int.injEq, D.bl.injEq, D.str.injEq, D.tup.injEq, D.ref.injEq, exists_eq_left', exists_eq_left, exists_eq_right, true_and, and_true, Nat.reduceSub, Nat.reduceAdd, Nat.zero_add, reduceCtorEq, false_implies, true_implies, decide_eq_true_eq, decide_eq_false_iff_not, forall_const, List.any_cons, List.any_nil, Bool.or_false, subTy, pl1_0, pn1, pl2_0, pl2_1, pn2, pl3_0, pl3_1, pl3_2, pn3, pl4_0, pl4_1, pl4_2, pl4_3, pn4, pl5_0, pl5_1, pl5_2, pl5_3, pl5_4, pn5, pl6_0, pl6_1, pl6_2, pl6_3, pl6_4, pl6_5, pn6, pl7_0, pl7_1, pl7_2, pl7_3, pl7_4, pl7_5, pl7_6, pn7, pl8_0, pl8_1, pl8_2, pl8_3, pl8_4, pl8_5, pl8_6, pl8_7, pn8, pl9_0, pl9_1, pl9_2, pl9_3, pl9_4, pl9_5, pl9_6, pl9_7, pl9_8, pn9, srcVal, isVar]
      refine gather_map (fun x => .bl (isInt x)) trivial _ _ (fun x hx k hk => ?_) (by simp [most]) ?_
      · obtain ⟨t, ht⟩ := h.2 _ rfl x hx
        simp only [wpS, wpE, wpEs, wpP, wpI, wpT, begin_, hxD, hxD.hxL, catch_, putAll, Ev.unpack, tgSem, wipe, o_add, o_sub, o_mul, o_div, o_mod, o_pow, o_tup, o_lst, o_rep, c_eq, c_ne, c_lt, c_le, c_gt, c_ge, c_isn, c_notn, c_isb, c_in, c_nin, q_int, q_bl, not_true_eq_false, not_false_eq_true, Bool.false_or, Bool.true_or, Bool.or_true, Bool.true_and, Bool.false_and, Bool.and_true, Bool.and_false,  id_eq, lst_new, boolsD, intsD, Option.map_some, List.all_cons, List.all_nil, List.map_append,  q_lit, String.reduceEq, decide_true, decide_false, Bool.not_true, Bool.not_false, Bool.true_eq_false, Bool.false_eq_true, eq_self, i_isn, i_isi, i_isb, i_iss, i_ist, i_isr, t_non, t_int, t_bl, t_str, t_tup, t_fz, b_abs, b_lent, b_lenf, b_lens, b_list, b_tuple, b_int, b_intb, b_sum, b_min2, b_max2, b_all, b_any, b_gcd, b_dict, m_app, m_ext, m_popi, m_pop, x_tup, x_fz, List.map_cons, List.map_nil, List.length_cons, List.length_nil, List.replicate, List.append_nil, List.cons_append, List.nil_append, List.getElem?_cons_zero, List.getElem?_cons_succ, List.set_cons_zero, List.set_cons_succ, Option.some.injEq, D.int.injEq, D.bl.injEq, D.str.injEq, D.tup.injEq, D.ref.injEq, exists_eq_left', exists_eq_left, exists_eq_right, true_and, and_true, Nat.reduceSub, Nat.reduceAdd, Nat.zero_add, reduceCtorEq, false_implies, true_implies, decide_eq_true_eq, decide_eq_false_iff_not, forall_const, List.any_cons, List.any_nil, Bool.or_false, subTy, pl1_0, pn1, pl2_0, pl2_1, pn2, pl3_0, pl3_1, pl3_2, pn3, pl4_0, pl4_1, pl4_2, pl4_3, pn4, pl5_0, pl5_1, pl5_2, pl5_3, pl5_4, pn5, pl6_0, pl6_1, pl6_2, pl6_3, pl6_4, pl6_5, pn6, pl7_0, pl7_1, pl7_2, pl7_3, pl7_4, pl7_5, pl7_6, pn7, pl8_0, pl8_1, pl8_2, pl8_3, pl8_4, pl8_5, pl8_6, pl8_7, pn8, pl9_0, pl9_1, pl9_2, pl9_3, pl9_4, pl9_5, pl9_6, pl9_7, pl9_8, pn9, r_is_integer ht]
        exact hk
      · simp only [wpS, wpE, wpEs, wpP, wpI, wpT, begin_, hxD, hxD.hxL, catch_, putAll, Ev.unpack, tgSem, wipe, o_add, o_sub, o_mul, o_div, o_mod, o_pow, o_tup, o_lst, o_rep, c_eq, c_ne, c_lt, c_le, c_gt, c_ge, c_isn, c_notn, c_isb, c_in, c_nin, q_int, q_bl, not_true_eq_false, not_false_eq_true, Bool.false_or, Bool.true_or, Bool.or_true, Bool.true_and, Bool.false_and, Bool.and_true, Bool.and_false,  id_eq, lst_new, boolsD, intsD, Option.map_some, List.all_cons, List.all_nil, List.map_append,  q_lit, String.reduceEq, decide_true, decide_false, Bool.not_true, Bool.not_false, Bool.true_eq_false, Bool.false_eq_true, eq_self, i_isn, i_isi, i_isb, i_iss, i_ist, i_isr, t_non, t_int, t_bl, t_str, t_tup, t_fz, b_abs, b_lent, b_lenf, b_lens, b_list, b_tuple, b_int, b_intb, b_sum, b_min2, b_max2, b_all, b_any, b_gcd, b_dict, m_app, m_ext, m_popi, m_pop, x_tup, x_fz, List.map_cons, List.map_nil, List.length_cons, List.length_nil, List.replicate, List.append_nil, List.cons_append, List.nil_append, List.getElem?_cons_zero, List.getElem?_cons_succ, List.set_cons_zero, List.set_cons_succ, Option.some.injEq, D.int.injEq, D.bl.injEq, D.str.injEq, D.tup.injEq, D.ref.injEq, exists_eq_left', exists_eq_left, exists_eq_right, true_and, and_true, Nat.reduceSub, Nat.reduceAdd, Nat.zero_add, reduceCtorEq, false_implies, true_implies, decide_eq_true_eq, decide_eq_false_iff_not, forall_const, List.any_cons, List.any_nil, Bool.or_false, subTy, pl1_0, pn1, pl2_0, pl2_1, pn2, pl3_0, pl3_1, pl3_2, pn3, pl4_0, pl4_1, pl4_2, pl4_3, pn4, pl5_0, pl5_1, pl5_2, pl5_3, pl5_4, pn5, pl6_0, pl6_1, pl6_2, pl6_3, pl6_4, pl6_5, pn6, pl7_0, pl7_1, pl7_2, pl7_3, pl7_4, pl7_5, pl7_6, pn7, pl8_0, pl8_1, pl8_2, pl8_3, pl8_4, pl8_5, pl8_6, pl8_7, pn8, pl9_0, pl9_1, pl9_2, pl9_3, pl9_4, pl9_5, pl9_6, pl9_7, pl9_8, pn9]
        cases hi : (isInt a && isInt b) with
        | false =>
          have hf : isFr (.tup [a, b]) = false := by
            cases hd : isFr (.tup [a, b]) with
            | false => rfl
            | true =>
              obtain ⟨x, e⟩ := isFr_iff.mp hd
              cases e
              cases hi
          simp only [wpS, wpE, wpEs, wpP, wpI, wpT, begin_, hxD, hxD.hxL, catch_, putAll, Ev.unpack, tgSem, wipe, o_add, o_sub, o_mul, o_div, o_mod, o_pow, o_tup, o_lst, o_rep, c_eq, c_ne, c_lt, c_le, c_gt, c_ge, c_isn, c_notn, c_isb, c_in, c_nin, q_int, q_bl, not_true_eq_false, not_false_eq_true, Bool.false_or, Bool.true_or, Bool.or_true, Bool.true_and, Bool.false_and, Bool.and_true, Bool.and_false,  id_eq, lst_new, boolsD, intsD, Option.map_some, List.all_cons, List.all_nil, List.map_append,  q_lit, String.reduceEq, decide_true, decide_false, Bool.not_true, Bool.not_false, Bool.true_eq_false, Bool.false_eq_true, eq_self, i_isn, i_isi, i_isb, i_iss, i_ist, i_isr, t_non, t_int, t_bl, t_str, t_tup, t_fz, b_abs, b_lent, b_lenf, b_lens, b_list, b_tuple, b_int, b_intb, b_sum, b_min2, b_max2, b_all, b_any, b_gcd, b_dict, m_app, m_ext, m_popi, m_pop, x_tup, x_fz, List.map_cons, List.map_nil, List.length_cons, List.length_nil, List.replicate, List.append_nil, List.cons_append, List.nil_append, List.getElem?_cons_zero, List.getElem?_cons_succ, List.set_cons_zero, List.set_cons_succ, Option.some.injEq, D.int.injEq, D.bl.injEq, D.str.injEq, D.tup.injEq, D.ref.injEq, exists_eq_left', exists_eq_left, exists_eq_right, true_and, and_true, Nat.reduceSub, Nat.reduceAdd, Nat.zero_add, reduceCtorEq, false_implies, true_implies, decide_eq_true_eq, decide_eq_false_iff_not, forall_const, List.any_cons, List.any_nil, Bool.or_false, subTy, pl1_0, pn1, pl2_0, pl2_1, pn2, pl3_0, pl3_1, pl3_2, pn3, pl4_0, pl4_1, pl4_2, pl4_3, pn4, pl5_0, pl5_1, pl5_2, pl5_3, pl5_4, pn5, pl6_0, pl6_1, pl6_2, pl6_3, pl6_4, pl6_5, pn6, pl7_0, pl7_1, pl7_2, pl7_3, pl7_4, pl7_5, pl7_6, pn7, pl8_0, pl8_1, pl8_2, pl8_3, pl8_4, pl8_5, pl8_6, pl8_7, pn8, pl9_0, pl9_1, pl9_2, pl9_3, pl9_4, pl9_5, pl9_6, pl9_7, pl9_8, pn9]
          rw [← hf]
          exact q _ Gr.one
        | true =>
          simp only [wpS, wpE, wpEs, wpP, wpI, wpT, begin_, hxD, hxD.hxL, catch_, putAll, Ev.unpack, tgSem, wipe, o_add, o_sub, o_mul, o_div, o_mod, o_pow, o_tup, o_lst, o_rep, c_eq, c_ne, c_lt, c_le, c_gt, c_ge, c_isn, c_notn, c_isb, c_in, c_nin, q_int, q_bl, not_true_eq_false, not_false_eq_true, Bool.false_or, Bool.true_or, Bool.or_true, Bool.true_and, Bool.false_and, Bool.and_true, Bool.and_false,  id_eq, lst_new, boolsD, intsD, Option.map_some, List.all_cons, List.all_nil, List.map_append,  q_lit, String.reduceEq, decide_true, decide_false, Bool.not_true, Bool.not_false, Bool.true_eq_false, Bool.false_eq_true, eq_self, i_isn, i_isi, i_isb, i_iss, i_ist, i_isr, t_non, t_int, t_bl, t_str, t_tup, t_fz, b_abs, b_lent, b_lenf, b_lens, b_list, b_tuple, b_int, b_intb, b_sum, b_min2, b_max2, b_all, b_any, b_gcd, b_dict, m_app, m_ext, m_popi, m_pop, x_tup, x_fz, List.map_cons, List.map_nil, List.length_cons, List.length_nil, List.replicate, List.append_nil, List.cons_append, List.nil_append, List.getElem?_cons_zero, List.getElem?_cons_succ, List.set_cons_zero, List.set_cons_succ, Option.some.injEq, D.int.injEq, D.bl.injEq, D.str.injEq, D.tup.injEq, D.ref.injEq, exists_eq_left', exists_eq_left, exists_eq_right, true_and, and_true, Nat.reduceSub, Nat.reduceAdd, Nat.zero_add, reduceCtorEq, false_implies, true_implies, decide_eq_true_eq, decide_eq_false_iff_not, forall_const, List.any_cons, List.any_nil, Bool.or_false, subTy, pl1_0, pn1, pl2_0, pl2_1, pn2, pl3_0, pl3_1, pl3_2, pn3, pl4_0, pl4_1, pl4_2, pl4_3, pn4, pl5_0, pl5_1, pl5_2, pl5_3, pl5_4, pn5, pl6_0, pl6_1, pl6_2, pl6_3, pl6_4, pl6_5, pn6, pl7_0, pl7_1, pl7_2, pl7_3, pl7_4, pl7_5, pl7_6, pn7, pl8_0, pl8_1, pl8_2, pl8_3, pl8_4, pl8_5, pl8_6, pl8_7, pn8, pl9_0, pl9_1, pl9_2, pl9_3, pl9_4, pl9_5, pl9_6, pl9_7, pl9_8, pn9, is_fraction_2]
          cases a with
          | int a =>
            cases b with
            | int b =>
              simp only [wpS, wpE, wpEs, wpP, wpI, wpT, begin_, hxD, hxD.hxL, catch_, putAll, Ev.unpack, tgSem, wipe, o_add, o_sub, o_mul, o_div, o_mod, o_pow, o_tup, o_lst, o_rep, c_eq, c_ne, c_lt, c_le, c_gt, c_ge, c_isn, c_notn, c_isb, c_in, c_nin, q_int, q_bl, not_true_eq_false, not_false_eq_true, Bool.false_or, Bool.true_or, Bool.or_true, Bool.true_and, Bool.false_and, Bool.and_true, Bool.and_false,  id_eq, lst_new, boolsD, intsD, Option.map_some, List.all_cons, List.all_nil, List.map_append,  q_lit, String.reduceEq, decide_true, decide_false, Bool.not_true, Bool.not_false, Bool.true_eq_false, Bool.false_eq_true, eq_self, i_isn, i_isi, i_isb, i_iss, i_ist, i_isr, t_non, t_int, t_bl, t_str, t_tup, t_fz, b_abs, b_lent, b_lenf, b_lens, b_list, b_tuple, b_int, b_intb, b_sum, b_min2, b_max2, b_all, b_any, b_gcd, b_dict, m_app, m_ext, m_popi, m_pop, x_tup, x_fz, List.map_cons, List.map_nil, List.length_cons, List.length_nil, List.replicate, List.append_nil, List.cons_append, List.nil_append, List.getElem?_cons_zero, List.getElem?_cons_succ, List.set_cons_zero, List.set_cons_succ, Option.some.injEq, D.int.injEq, D.bl.injEq, D.str.injEq, D.tup.injEq, D.ref.injEq, exists_eq_left', exists_eq_left, exists_eq_right, true_and, and_true, Nat.reduceSub, Nat.reduceAdd, Nat.zero_add, reduceCtorEq, false_implies, true_implies, decide_eq_true_eq, decide_eq_false_iff_not, forall_const, List.any_cons, List.any_nil, Bool.or_false, subTy, pl1_0, pn1, pl2_0, pl2_1, pn2, pl3_0, pl3_1, pl3_2, pn3, pl4_0, pl4_1, pl4_2, pl4_3, pn4, pl5_0, pl5_1, pl5_2, pl5_3, pl5_4, pn5, pl6_0, pl6_1, pl6_2, pl6_3, pl6_4, pl6_5, pn6, pl7_0, pl7_1, pl7_2, pl7_3, pl7_4, pl7_5, pl7_6, pn7, pl8_0, pl8_1, pl8_2, pl8_3, pl8_4, pl8_5, pl8_6, pl8_7, pn8, pl9_0, pl9_1, pl9_2, pl9_3, pl9_4, pl9_5, pl9_6, pl9_7, pl9_8, pn9]
              have q' := q _ (Gr.one (o := .lst [.bl (isInt (.int a)), .bl (isInt (.int b))]))
              have e : isFr (.tup [.int a, .int b]) = (decide (0 < b) && decide (Nat.gcd a.natAbs b.natAbs = 1)) := rfl
              rw [e] at q'
              refine ⟨fun h => ?_, fun h => ?_⟩
              · have : decide (((a.natAbs.gcd b.natAbs : Nat) : Int) = 1) = decide (Nat.gcd a.natAbs b.natAbs = 1) := by
                  by_cases z : Nat.gcd a.natAbs b.natAbs = 1 <;> simp [z] <;> omega
                rw [this]
                rw [decide_eq_true h] at q'
                exact q'
              · rw [decide_eq_false h] at q'
                exact q'
            | _ => cases hi
          | _ => cases hi
theorem r_check_fraction {d : D} (h : Wf1 S d) (q : isFr d = true → ∀ S', Gr S S' → Q .non S') (e : isFr d = false → ∀ S', Gr S S' → E e_InvalidNumber [d] S') : run sub TT (n + 3) i_check_fraction [d] S Q E := by
  rw [run_eq at_check_fraction rfl]
  simp only [f_check_fraction, check_fraction_1, wpS, wpE, wpEs, wpP, wpI, wpT, begin_, hxD, hxD.hxL, catch_, putAll, Ev.unpack, tgSem, wipe, o_add, o_sub, o_mul, o_div, o_mod, o_pow, o_tup, o_lst, o_rep, c_eq, c_ne, c_lt, c_le, c_gt, c_ge, c_isn, c_notn, c_isb, c_in, c_nin, q_int, q_bl, not_true_eq_false, not_false_eq_true, Bool.false_or, Bool.true_or, Bool.or_true, Bool.true_and, Bool.false_and, Bool.and_true, Bool.and_false,  id_eq, lst_new, boolsD, intsD, Option.map_some, List.all_cons, List.all_nil, List.map_append,  q_lit, String.reduceEq, decide_true, decide_false, Bool.not_true, Bool.not_false, Bool.true_eq_false, Bool.false_eq_true, eq_self, i_isn, i_isi, i_isb, i_iss, i_ist, i_isr, t_non, t_int, t_bl, t_str, t_tup, t_fz, b_abs, b_lent, b_lenf, b_lens, b_list, b_tuple, b_int, b_intb, b_sum, b_min2, b_max2, b_all, b_any, b_gcd, b_dict, m_app, m_ext, m_popi, m_pop, x_tup, x_fz, List.map_cons, List.map_nil, List.length_cons, List.length_nil, List.replicate, List.append_nil, List.cons_append, List.nil_append, List.getElem?_cons_zero, List.getElem?_cons_succ, List.set_cons_zero, List.set_cons_succ, Option.some.injEq, D.int.injEq, D.bl.injEq, D.str.injEq, D.tup.injEq, D.ref.injEq, exists_eq_left', exists_eq_left, exists_eq_right, true_and, and_true, Nat.reduceSub, Nat.reduceAdd, Nat.zero_add, reduceCtorEq, false_implies, true_implies, decide_eq_true_eq, decide_eq_false_iff_not, forall_const, List.any_cons, List.any_nil, Bool.or_false, subTy, pl1_0, pn1, pl2_0, pl2_1, pn2, pl3_0, pl3_1, pl3_2, pn3, pl4_0, pl4_1, pl4_2, pl4_3, pn4, pl5_0, pl5_1, pl5_2, pl5_3, pl5_4, pn5, pl6_0, pl6_1, pl6_2, pl6_3, pl6_4, pl6_5, pn6, pl7_0, pl7_1, pl7_2, pl7_3, pl7_4, pl7_5, pl7_6, pn7, pl8_0, pl8_1, pl8_2, pl8_3, pl8_4, pl8_5, pl8_6, pl8_7, pn8, pl9_0, pl9_1, pl9_2, pl9_3, pl9_4, pl9_5, pl9_6, pl9_7, pl9_8, pn9]
  refine r_is_fraction h fun S' g => ?_
  cases hd : isFr d with
  | true => simp only [wpS, wpE, wpEs, wpP, wpI, wpT, begin_, hxD, hxD.hxL, catch_, putAll, Ev.unpack, tgSem, wipe, o_add, o_sub, o_mul, o_div, o_mod, o_pow, o_tup, o_lst, o_rep, c_eq, c_ne, c_lt, c_le, c_gt, c_ge, c_isn, c_notn, c_isb, c_in, c_nin, q_int, q_bl, not_true_eq_false, not_false_eq_true, Bool.false_or, Bool.true_or, Bool.or_true, Bool.true_and, Bool.false_and, Bool.and_true, Bool.and_false,  id_eq, lst_new, boolsD, intsD, Option.map_some, List.all_cons, List.all_nil, List.map_append,  q_lit, String.reduceEq, decide_true, decide_false, Bool.not_true, Bool.not_false, Bool.true_eq_false, Bool.false_eq_true, eq_self, i_isn, i_isi, i_isb, i_iss, i_ist, i_isr, t_non, t_int, t_bl, t_str, t_tup, t_fz, b_abs, b_lent, b_lenf, b_lens, b_list, b_tuple, b_int, b_intb, b_sum, b_min2, b_max2, b_all, b_any, b_gcd, b_dict, m_app, m_ext, m_popi, m_pop, x_tup, x_fz, List.map_cons, List.map_nil, List.length_cons, List.length_nil, List.replicate, List.append_nil, List.cons_append, List.nil_append, List.getElem?_cons_zero, List.getElem?_cons_succ, List.set_cons_zero, List.set_cons_succ, Option.some.injEq, D.int.injEq, D.bl.injEq, D.str.injEq, D.tup.injEq, D.ref.injEq, exists_eq_left', exists_eq_left, exists_eq_right, true_and, and_true, Nat.reduceSub, Nat.reduceAdd, Nat.zero_add, reduceCtorEq, false_implies, true_implies, decide_eq_true_eq, decide_eq_false_iff_not, forall_const, List.any_cons, List.any_nil, Bool.or_false, subTy, pl1_0, pn1, pl2_0, pl2_1, pn2, pl3_0, pl3_1, pl3_2, pn3, pl4_0, pl4_1, pl4_2, pl4_3, pn4, pl5_0, pl5_1, pl5_2, pl5_3, pl5_4, pn5, pl6_0, pl6_1, pl6_2, pl6_3, pl6_4, pl6_5, pn6, pl7_0, pl7_1, pl7_2, pl7_3, pl7_4, pl7_5, pl7_6, pn7, pl8_0, pl8_1, pl8_2, pl8_3, pl8_4, pl8_5, pl8_6, pl8_7, pn8, pl9_0, pl9_1, pl9_2, pl9_3, pl9_4, pl9_5, pl9_6, pl9_7, pl9_8, pn9]; exact q hd S' g
  | false => simp only [wpS, wpE, wpEs, wpP, wpI, wpT, begin_, hxD, hxD.hxL, catch_, putAll, Ev.unpack, tgSem, wipe, o_add, o_sub, o_mul, o_div, o_mod, o_pow, o_tup, o_lst, o_rep, c_eq, c_ne, c_lt, c_le, c_gt, c_ge, c_isn, c_notn, c_isb, c_in, c_nin, q_int, q_bl, not_true_eq_false, not_false_eq_true, Bool.false_or, Bool.true_or, Bool.or_true, Bool.true_and, Bool.false_and, Bool.and_true, Bool.and_false,  id_eq, lst_new, boolsD, intsD, Option.map_some, List.all_cons, List.all_nil, List.map_append,  q_lit, String.reduceEq, decide_true, decide_false, Bool.not_true, Bool.not_false, Bool.true_eq_false, Bool.false_eq_true, eq_self, i_isn, i_isi, i_isb, i_iss, i_ist, i_isr, t_non, t_int, t_bl, t_str, t_tup, t_fz, b_abs, b_lent, b_lenf, b_lens, b_list, b_tuple, b_int, b_intb, b_sum, b_min2, b_max2, b_all, b_any, b_gcd, b_dict, m_app, m_ext, m_popi, m_pop, x_tup, x_fz, List.map_cons, List.map_nil, List.length_cons, List.length_nil, List.replicate, List.append_nil, List.cons_append, List.nil_append, List.getElem?_cons_zero, List.getElem?_cons_succ, List.set_cons_zero, List.set_cons_succ, Option.some.injEq, D.int.injEq, D.bl.injEq, D.str.injEq, D.tup.injEq, D.ref.injEq, exists_eq_left', exists_eq_left, exists_eq_right, true_and, and_true, Nat.reduceSub, Nat.reduceAdd, Nat.zero_add, reduceCtorEq, false_implies, true_implies, decide_eq_true_eq, decide_eq_false_iff_not, forall_const, List.any_cons, List.any_nil, Bool.or_false, subTy, pl1_0, pn1, pl2_0, pl2_1, pn2, pl3_0, pl3_1, pl3_2, pn3, pl4_0, pl4_1, pl4_2, pl4_3, pn4, pl5_0, pl5_1, pl5_2, pl5_3, pl5_4, pn5, pl6_0, pl6_1, pl6_2, pl6_3, pl6_4, pl6_5, pn6, pl7_0, pl7_1, pl7_2, pl7_3, pl7_4, pl7_5, pl7_6, pn7, pl8_0, pl8_1, pl8_2, pl8_3, pl8_4, pl8_5, pl8_6, pl8_7, pn8, pl9_0, pl9_1, pl9_2, pl9_3, pl9_4, pl9_5, pl9_6, pl9_7, pl9_8, pn9, exLen]; exact e hd S' g
theorem r_check_two {c d : D} (hc : Wf1 S c) (hd : Wf1 S d) (q : isFr c = true → isFr d = true → ∀ S', Gr S S' → Q .non S') (e : isFr c = false → ∀ S', Gr S S' → E e_InvalidNumber [c] S') (e2 : isFr c = true → isFr d = false → ∀ S', Gr S S' → E e_InvalidNumber [d] S') :
    run sub TT (n + 4) i_check_two [c, d] S Q E := by
  rw [run_eq at_check_two rfl]
  simp only [f_check_two, check_two_1, check_two_2, wpS, wpE, wpEs, wpP, wpI, wpT, begin_, hxD, hxD.hxL, catch_, putAll, Ev.unpack, tgSem, wipe, o_add, o_sub, o_mul, o_div, o_mod, o_pow, o_tup, o_lst, o_rep, c_eq, c_ne, c_lt, c_le, c_gt, c_ge, c_isn, c_notn, c_isb, c_in, c_nin, q_int, q_bl, not_true_eq_false, not_false_eq_true, Bool.false_or, Bool.true_or, Bool.or_true, Bool.true_and, Bool.false_and, Bool.and_true, Bool.and_false,  id_eq, lst_new, boolsD, intsD, Option.map_some, List.all_cons, List.all_nil, List.map_append,  q_lit, String.reduceEq, decide_true, decide_false, Bool.not_true, Bool.not_false, Bool.true_eq_false, Bool.false_eq_true, eq_self, i_isn, i_isi, i_isb, i_iss, i_ist, i_isr, t_non, t_int, t_bl, t_str, t_tup, t_fz, b_abs, b_lent, b_lenf, b_lens, b_list, b_tuple, b_int, b_intb, b_sum, b_min2, b_max2, b_all, b_any, b_gcd, b_dict, m_app, m_ext, m_popi, m_pop, x_tup, x_fz, List.map_cons, List.map_nil, List.length_cons, List.length_nil, List.replicate, List.append_nil, List.cons_append, List.nil_append, List.getElem?_cons_zero, List.getElem?_cons_succ, List.set_cons_zero, List.set_cons_succ, Option.some.injEq, D.int.injEq, D.bl.injEq, D.str.injEq, D.tup.injEq, D.ref.injEq, exists_eq_left', exists_eq_left, exists_eq_right, true_and, and_true, Nat.reduceSub, Nat.reduceAdd, Nat.zero_add, reduceCtorEq, false_implies, true_implies, decide_eq_true_eq, decide_eq_false_iff_not, forall_const, List.any_cons, List.any_nil, Bool.or_false, subTy, pl1_0, pn1, pl2_0, pl2_1, pn2, pl3_0, pl3_1, pl3_2, pn3, pl4_0, pl4_1, pl4_2, pl4_3, pn4, pl5_0, pl5_1, pl5_2, pl5_3, pl5_4, pn5, pl6_0, pl6_1, pl6_2, pl6_3, pl6_4, pl6_5, pn6, pl7_0, pl7_1, pl7_2, pl7_3, pl7_4, pl7_5, pl7_6, pn7, pl8_0, pl8_1, pl8_2, pl8_3, pl8_4, pl8_5, pl8_6, pl8_7, pn8, pl9_0, pl9_1, pl9_2, pl9_3, pl9_4, pl9_5, pl9_6, pl9_7, pl9_8, pn9]
  refine r_check_fraction hc (fun h S' g => ?_) e
  exact r_check_fraction (hd.gr g) (fun h2 S2 g2 => q h h2 S2 (g.trans g2)) (fun h2 S2 g2 => e2 h h2 S2 (g.trans g2))
theorem r_fraction {a b : D} (ha : Wf S a) (hb : Wf S b) (e1 : isInt a = false → E e_InvalidNumber [a] S) (e2 : isInt a = true → (isInt b = false ∨ b = .int 0) → E e_InvalidNumber [b] S)
    (q : ∀ i j, a = .int i → b = .int j → j ≠ 0 → j.natAbs < 2 ^ 8999 ∧ Q (FD (Rat.divInt i j)) S) : run sub TT (n + 2) i_fraction [a, b] S Q E := by
  obtain ⟨t, ht⟩ := ha
  obtain ⟨u, hu⟩ := hb
  rw [run_eq at_fraction rfl]
  simp only [f_fraction, fraction_1, fraction_2, fraction_3, wpS, wpE, wpEs, wpP, wpI, wpT, begin_, hxD, hxD.hxL, catch_, putAll, Ev.unpack, tgSem, wipe, o_add, o_sub, o_mul, o_div, o_mod, o_pow, o_tup, o_lst, o_rep, c_eq, c_ne, c_lt, c_le, c_gt, c_ge, c_isn, c_notn, c_isb, c_in, c_nin, q_int, q_bl, not_true_eq_false, not_false_eq_true, Bool.false_or, Bool.true_or, Bool.or_true, Bool.true_and, Bool.false_and, Bool.and_true, Bool.and_false,  id_eq, lst_new, boolsD, intsD, Option.map_some, List.all_cons, List.all_nil, List.map_append,  q_lit, String.reduceEq, decide_true, decide_false, Bool.not_true, Bool.not_false, Bool.true_eq_false, Bool.false_eq_true, eq_self, i_isn, i_isi, i_isb, i_iss, i_ist, i_isr, t_non, t_int, t_bl, t_str, t_tup, t_fz, b_abs, b_lent, b_lenf, b_lens, b_list, b_tuple, b_int, b_intb, b_sum, b_min2, b_max2, b_all, b_any, b_gcd, b_dict, m_app, m_ext, m_popi, m_pop, x_tup, x_fz, List.map_cons, List.map_nil, List.length_cons, List.length_nil, List.replicate, List.append_nil, List.cons_append, List.nil_append, List.getElem?_cons_zero, List.getElem?_cons_succ, List.set_cons_zero, List.set_cons_succ, Option.some.injEq, D.int.injEq, D.bl.injEq, D.str.injEq, D.tup.injEq, D.ref.injEq, exists_eq_left', exists_eq_left, exists_eq_right, true_and, and_true, Nat.reduceSub, Nat.reduceAdd, Nat.zero_add, reduceCtorEq, false_implies, true_implies, decide_eq_true_eq, decide_eq_false_iff_not, forall_const, List.any_cons, List.any_nil, Bool.or_false, subTy, pl1_0, pn1, pl2_0, pl2_1, pn2, pl3_0, pl3_1, pl3_2, pn3, pl4_0, pl4_1, pl4_2, pl4_3, pn4, pl5_0, pl5_1, pl5_2, pl5_3, pl5_4, pn5, pl6_0, pl6_1, pl6_2, pl6_3, pl6_4, pl6_5, pn6, pl7_0, pl7_1, pl7_2, pl7_3, pl7_4, pl7_5, pl7_6, pn7, pl8_0, pl8_1, pl8_2, pl8_3, pl8_4, pl8_5, pl8_6, pl8_7, pn8, pl9_0, pl9_1, pl9_2, pl9_3, pl9_4, pl9_5, pl9_6, pl9_7, pl9_8, pn9, r_is_integer ht, r_is_integer hu]
  cases ha : isInt a with
  | false => simp only [wpS, wpE, wpEs, wpP, wpI, wpT, begin_, hxD, hxD.hxL, catch_, putAll, Ev.unpack, tgSem, wipe, o_add, o_sub, o_mul, o_div, o_mod, o_pow, o_tup, o_lst, o_rep, c_eq, c_ne, c_lt, c_le, c_gt, c_ge, c_isn, c_notn, c_isb, c_in, c_nin, q_int, q_bl, not_true_eq_false, not_false_eq_true, Bool.false_or, Bool.true_or, Bool.or_true, Bool.true_and, Bool.false_and, Bool.and_true, Bool.and_false,  id_eq, lst_new, boolsD, intsD, Option.map_some, List.all_cons, List.all_nil, List.map_append,  q_lit, String.reduceEq, decide_true, decide_false, Bool.not_true, Bool.not_false, Bool.true_eq_false, Bool.false_eq_true, eq_self, i_isn, i_isi, i_isb, i_iss, i_ist, i_isr, t_non, t_int, t_bl, t_str, t_tup, t_fz, b_abs, b_lent, b_lenf, b_lens, b_list, b_tuple, b_int, b_intb, b_sum, b_min2, b_max2, b_all, b_any, b_gcd, b_dict, m_app, m_ext, m_popi, m_pop, x_tup, x_fz, List.map_cons, List.map_nil, List.length_cons, List.length_nil, List.replicate, List.append_nil, List.cons_append, List.nil_append, List.getElem?_cons_zero, List.getElem?_cons_succ, List.set_cons_zero, List.set_cons_succ, Option.some.injEq, D.int.injEq, D.bl.injEq, D.str.injEq, D.tup.injEq, D.ref.injEq, exists_eq_left', exists_eq_left, exists_eq_right, true_and, and_true, Nat.reduceSub, Nat.reduceAdd, Nat.zero_add, reduceCtorEq, false_implies, true_implies, decide_eq_true_eq, decide_eq_false_iff_not, forall_const, List.any_cons, List.any_nil, Bool.or_false, subTy, pl1_0, pn1, pl2_0, pl2_1, pn2, pl3_0, pl3_1, pl3_2, pn3, pl4_0, pl4_1, pl4_2, pl4_3, pn4, pl5_0, pl5_1, pl5_2, pl5_3, pl5_4, pn5, pl6_0, pl6_1, pl6_2, pl6_3, pl6_4, pl6_5, pn6, pl7_0, pl7_1, pl7_2, pl7_3, pl7_4, pl7_5, pl7_6, pn7, pl8_0, pl8_1, pl8_2, pl8_3, pl8_4, pl8_5, pl8_6, pl8_7, pn8, pl9_0, pl9_1, pl9_2, pl9_3, pl9_4, pl9_5, pl9_6, pl9_7, pl9_8, pn9, exLen]; exact e1 ha
  | true =>
    simp only [wpS, wpE, wpEs, wpP, wpI, wpT, begin_, hxD, hxD.hxL, catch_, putAll, Ev.unpack, tgSem, wipe, o_add, o_sub, o_mul, o_div, o_mod, o_pow, o_tup, o_lst, o_rep, c_eq, c_ne, c_lt, c_le, c_gt, c_ge, c_isn, c_notn, c_isb, c_in, c_nin, q_int, q_bl, not_true_eq_false, not_false_eq_true, Bool.false_or, Bool.true_or, Bool.or_true, Bool.true_and, Bool.false_and, Bool.and_true, Bool.and_false,  id_eq, lst_new, boolsD, intsD, Option.map_some, List.all_cons, List.all_nil, List.map_append,  q_lit, String.reduceEq, decide_true, decide_false, Bool.not_true, Bool.not_false, Bool.true_eq_false, Bool.false_eq_true, eq_self, i_isn, i_isi, i_isb, i_iss, i_ist, i_isr, t_non, t_int, t_bl, t_str, t_tup, t_fz, b_abs, b_lent, b_lenf, b_lens, b_list, b_tuple, b_int, b_intb, b_sum, b_min2, b_max2, b_all, b_any, b_gcd, b_dict, m_app, m_ext, m_popi, m_pop, x_tup, x_fz, List.map_cons, List.map_nil, List.length_cons, List.length_nil, List.replicate, List.append_nil, List.cons_append, List.nil_append, List.getElem?_cons_zero, List.getElem?_cons_succ, List.set_cons_zero, List.set_cons_succ, Option.some.injEq, D.int.injEq, D.bl.injEq, D.str.injEq, D.tup.injEq, D.ref.injEq, exists_eq_left', exists_eq_left, exists_eq_right, true_and, and_true, Nat.reduceSub, Nat.reduceAdd, Nat.zero_add, reduceCtorEq, false_implies, true_implies, decide_eq_true_eq, decide_eq_false_iff_not, forall_const, List.any_cons, List.any_nil, Bool.or_false, subTy, pl1_0, pn1, pl2_0, pl2_1, pn2, pl3_0, pl3_1, pl3_2, pn3, pl4_0, pl4_1, pl4_2, pl4_3, pn4, pl5_0, pl5_1, pl5_2, pl5_3, pl5_4, pn5, pl6_0, pl6_1, pl6_2, pl6_3, pl6_4, pl6_5, pn6, pl7_0, pl7_1, pl7_2, pl7_3, pl7_4, pl7_5, pl7_6, pn7, pl8_0, pl8_1, pl8_2, pl8_3, pl8_4, pl8_5, pl8_6, pl8_7, pn8, pl9_0, pl9_1, pl9_2, pl9_3, pl9_4, pl9_5, pl9_6, pl9_7, pl9_8, pn9]
    cases hb : isInt b with
    | false => simp only [wpS, wpE, wpEs, wpP, wpI, wpT, begin_, hxD, hxD.hxL, catch_, putAll, Ev.unpack, tgSem, wipe, o_add, o_sub, o_mul, o_div, o_mod, o_pow, o_tup, o_lst, o_rep, c_eq, c_ne, c_lt, c_le, c_gt, c_ge, c_isn, c_notn, c_isb, c_in, c_nin, q_int, q_bl, not_true_eq_false, not_false_eq_true, Bool.false_or, Bool.true_or, Bool.or_true, Bool.true_and, Bool.false_and, Bool.and_true, Bool.and_false,  id_eq, lst_new, boolsD, intsD, Option.map_some, List.all_cons, List.all_nil, List.map_append,  q_lit, String.reduceEq, decide_true, decide_false, Bool.not_true, Bool.not_false, Bool.true_eq_false, Bool.false_eq_true, eq_self, i_isn, i_isi, i_isb, i_iss, i_ist, i_isr, t_non, t_int, t_bl, t_str, t_tup, t_fz, b_abs, b_lent, b_lenf, b_lens, b_list, b_tuple, b_int, b_intb, b_sum, b_min2, b_max2, b_all, b_any, b_gcd, b_dict, m_app, m_ext, m_popi, m_pop, x_tup, x_fz, List.map_cons, List.map_nil, List.length_cons, List.length_nil, List.replicate, List.append_nil, List.cons_append, List.nil_append, List.getElem?_cons_zero, List.getElem?_cons_succ, List.set_cons_zero, List.set_cons_succ, Option.some.injEq, D.int.injEq, D.bl.injEq, D.str.injEq, D.tup.injEq, D.ref.injEq, exists_eq_left', exists_eq_left, exists_eq_right, true_and, and_true, Nat.reduceSub, Nat.reduceAdd, Nat.zero_add, reduceCtorEq, false_implies, true_implies, decide_eq_true_eq, decide_eq_false_iff_not, forall_const, List.any_cons, List.any_nil, Bool.or_false, subTy, pl1_0, pn1, pl2_0, pl2_1, pn2, pl3_0, pl3_1, pl3_2, pn3, pl4_0, pl4_1, pl4_2, pl4_3, pn4, pl5_0, pl5_1, pl5_2, pl5_3, pl5_4, pn5, pl6_0, pl6_1, pl6_2, pl6_3, pl6_4, pl6_5, pn6, pl7_0, pl7_1, pl7_2, pl7_3, pl7_4, pl7_5, pl7_6, pn7, pl8_0, pl8_1, pl8_2, pl8_3, pl8_4, pl8_5, pl8_6, pl8_7, pn8, pl9_0, pl9_1, pl9_2, pl9_3, pl9_4, pl9_5, pl9_6, pl9_7, pl9_8, pn9, exLen]; exact e2 ha (.inl hb)
    | true =>
      cases a with
      | int i =>
        cases b with
        | int j =>
          simp only [wpS, wpE, wpEs, wpP, wpI, wpT, begin_, hxD, hxD.hxL, catch_, putAll, Ev.unpack, tgSem, wipe, o_add, o_sub, o_mul, o_div, o_mod, o_pow, o_tup, o_lst, o_rep, c_eq, c_ne, c_lt, c_le, c_gt, c_ge, c_isn, c_notn, c_isb, c_in, c_nin, q_int, q_bl, not_true_eq_false, not_false_eq_true, Bool.false_or, Bool.true_or, Bool.or_true, Bool.true_and, Bool.false_and, Bool.and_true, Bool.and_false,  id_eq, lst_new, boolsD, intsD, Option.map_some, List.all_cons, List.all_nil, List.map_append,  q_lit, String.reduceEq, decide_true, decide_false, Bool.not_true, Bool.not_false, Bool.true_eq_false, Bool.false_eq_true, eq_self, i_isn, i_isi, i_isb, i_iss, i_ist, i_isr, t_non, t_int, t_bl, t_str, t_tup, t_fz, b_abs, b_lent, b_lenf, b_lens, b_list, b_tuple, b_int, b_intb, b_sum, b_min2, b_max2, b_all, b_any, b_gcd, b_dict, m_app, m_ext, m_popi, m_pop, x_tup, x_fz, List.map_cons, List.map_nil, List.length_cons, List.length_nil, List.replicate, List.append_nil, List.cons_append, List.nil_append, List.getElem?_cons_zero, List.getElem?_cons_succ, List.set_cons_zero, List.set_cons_succ, Option.some.injEq, D.int.injEq, D.bl.injEq, D.str.injEq, D.tup.injEq, D.ref.injEq, exists_eq_left', exists_eq_left, exists_eq_right, true_and, and_true, Nat.reduceSub, Nat.reduceAdd, Nat.zero_add, reduceCtorEq, false_implies, true_implies, decide_eq_true_eq, decide_eq_false_iff_not, forall_const, List.any_cons, List.any_nil, Bool.or_false, subTy, pl1_0, pn1, pl2_0, pl2_1, pn2, pl3_0, pl3_1, pl3_2, pn3, pl4_0, pl4_1, pl4_2, pl4_3, pn4, pl5_0, pl5_1, pl5_2, pl5_3, pl5_4, pn5, pl6_0, pl6_1, pl6_2, pl6_3, pl6_4, pl6_5, pn6, pl7_0, pl7_1, pl7_2, pl7_3, pl7_4, pl7_5, pl7_6, pn7, pl8_0, pl8_1, pl8_2, pl8_3, pl8_4, pl8_5, pl8_6, pl8_7, pn8, pl9_0, pl9_1, pl9_2, pl9_3, pl9_4, pl9_5, pl9_6, pl9_7, pl9_8, pn9, exLen]
          refine ⟨fun h => e2 rfl (.inr (by rw [h])), fun h => ?_⟩
          obtain ⟨h1, h2⟩ := q i j rfl rfl h
          rw [r_reduced h h1]
          exact h2
        | _ => cases hb
      | _ => cases ha
end
end EvL
end
section
set_option Elab.async false
set_option linter.all false
set_option maxRecDepth 100000
set_option maxHeartbeats 400000
set_option exponentiation.threshold 10000
namespace EvL
open PySem Ev
section
variable {n : Nat} {S : Sto} {Q : Po} {E : Xo}
theorem r_plus {c d : D} (hc : Wf1 S c) (hd : Wf1 S d) (e : isFr c = false → ∀ S', Gr S S' → E e_InvalidNumber [c] S') (e2 : isFr c = true → isFr d = false → ∀ S', Gr S S' → E e_InvalidNumber [d] S')
    (q : ∀ x y, c = FD x → d = FD y → Sz 4000 x ∧ Sz 4000 y ∧ ∀ S', Gr S S' → Q (FD (x + y)) S') : run sub TT (n + 5) i_plus [c, d] S Q E := by
  rw [run_eq at_plus rfl]
  simp only [f_plus, plus_1, plus_2, wpS, wpE, wpEs, wpP, wpI, wpT, begin_, hxD, hxD.hxL, catch_, putAll, Ev.unpack, tgSem, wipe, o_add, o_sub, o_mul, o_div, o_mod, o_pow, o_tup, o_lst, o_rep, c_eq, c_ne, c_lt, c_le, c_gt, c_ge, c_isn, c_notn, c_isb, c_in, c_nin, q_int, q_bl, not_true_eq_false, not_false_eq_true, Bool.false_or, Bool.true_or, Bool.or_true, Bool.true_and, Bool.false_and, Bool.and_true, Bool.and_false,  id_eq, lst_new, boolsD, intsD, Option.map_some, List.all_cons, List.all_nil, List.map_append,  q_lit, String.reduceEq, decide_true, decide_false, Bool.not_true, Bool.not_false, Bool.true_eq_false, Bool.false_eq_true, eq_self, i_isn, i_isi, i_isb, i_iss, i_ist, i_isr, t_non, t_int, t_bl, t_str, t_tup, t_fz, b_abs, b_lent, b_lenf, b_lens, b_list, b_tuple, b_int, b_intb, b_sum, b_min2, b_max2, b_all, b_any, b_gcd, b_dict, m_app, m_ext, m_popi, m_pop, x_tup, x_fz, List.map_cons, List.map_nil, List.length_cons, List.length_nil, List.replicate, List.append_nil, List.cons_append, List.nil_append, List.getElem?_cons_zero, List.getElem?_cons_succ, List.set_cons_zero, List.set_cons_succ, Option.some.injEq, D.int.injEq, D.bl.injEq, D.str.injEq, D.tup.injEq, D.ref.injEq, exists_eq_left', exists_eq_left, exists_eq_right, true_and, and_true, Nat.reduceSub, Nat.reduceAdd, Nat.zero_add, reduceCtorEq, false_implies, true_implies, decide_eq_true_eq, decide_eq_false_iff_not, forall_const, List.any_cons, List.any_nil, Bool.or_false, subTy, pl1_0, pn1, pl2_0, pl2_1, pn2, pl3_0, pl3_1, pl3_2, pn3, pl4_0, pl4_1, pl4_2, pl4_3, pn4, pl5_0, pl5_1, pl5_2, pl5_3, pl5_4, pn5, pl6_0, pl6_1, pl6_2, pl6_3, pl6_4, pl6_5, pn6, pl7_0, pl7_1, pl7_2, pl7_3, pl7_4, pl7_5, pl7_6, pn7, pl8_0, pl8_1, pl8_2, pl8_3, pl8_4, pl8_5, pl8_6, pl8_7, pn8, pl9_0, pl9_1, pl9_2, pl9_3, pl9_4, pl9_5, pl9_6, pl9_7, pl9_8, pn9]
  refine r_check_two hc hd (fun h1 h2 S' g => ?_) e e2
  obtain ⟨x, rfl⟩ := isFr_iff.mp h1
  obtain ⟨y, rfl⟩ := isFr_iff.mp h2
  obtain ⟨z1, z2, q⟩ := q x y rfl rfl
  rw [r_added z1 z2]
  exact q S' g
theorem r_minus {c d : D} (hc : Wf1 S c) (hd : Wf1 S d) (e : isFr c = false → ∀ S', Gr S S' → E e_InvalidNumber [c] S') (e2 : isFr c = true → isFr d = false → ∀ S', Gr S S' → E e_InvalidNumber [d] S')
    (q : ∀ x y, c = FD x → d = FD y → Sz 4000 x ∧ Sz 4000 y ∧ ∀ S', Gr S S' → Q (FD (x - y)) S') : run sub TT (n + 5) i_minus [c, d] S Q E := by
  rw [run_eq at_minus rfl]
  simp only [f_minus, minus_1, minus_2, wpS, wpE, wpEs, wpP, wpI, wpT, begin_, hxD, hxD.hxL, catch_, putAll, Ev.unpack, tgSem, wipe, o_add, o_sub, o_mul, o_div, o_mod, o_pow, o_tup, o_lst, o_rep, c_eq, c_ne, c_lt, c_le, c_gt, c_ge, c_isn, c_notn, c_isb, c_in, c_nin, q_int, q_bl, not_true_eq_false, not_false_eq_true, Bool.false_or, Bool.true_or, Bool.or_true, Bool.true_and, Bool.false_and, Bool.and_true, Bool.and_false,  id_eq, lst_new, boolsD, intsD, Option.map_some, List.all_cons, List.all_nil, List.map_append,  q_lit, String.reduceEq, decide_true, decide_false, Bool.not_true, Bool.not_false, Bool.true_eq_false, Bool.false_eq_true, eq_self, i_isn, i_isi, i_isb, i_iss, i_ist, i_isr, t_non, t_int, t_bl, t_str, t_tup, t_fz, b_abs, b_lent, b_lenf, b_lens, b_list, b_tuple, b_int, b_intb, b_sum, b_min2, b_max2, b_all, b_any, b_gcd, b_dict, m_app, m_ext, m_popi, m_pop, x_tup, x_fz, List.map_cons, List.map_nil, List.length_cons, List.length_nil, List.replicate, List.append_nil, List.cons_append, List.nil_append, List.getElem?_cons_zero, List.getElem?_cons_succ, List.set_cons_zero, List.set_cons_succ, Option.some.injEq, D.int.injEq, D.bl.injEq, D.str.injEq, D.tup.injEq, D.ref.injEq, exists_eq_left', exists_eq_left, exists_eq_right, true_and, and_true, Nat.reduceSub, Nat.reduceAdd, Nat.zero_add, reduceCtorEq, false_implies, true_implies, decide_eq_true_eq, decide_eq_false_iff_not, forall_const, List.any_cons, List.any_nil, Bool.or_false, subTy, pl1_0, pn1, pl2_0, pl2_1, pn2, pl3_0, pl3_1, pl3_2, pn3, pl4_0, pl4_1, pl4_2, pl4_3, pn4, pl5_0, pl5_1, pl5_2, pl5_3, pl5_4, pn5, pl6_0, pl6_1, pl6_2, pl6_3, pl6_4, pl6_5, pn6, pl7_0, pl7_1, pl7_2, pl7_3, pl7_4, pl7_5, pl7_6, pn7, pl8_0, pl8_1, pl8_2, pl8_3, pl8_4, pl8_5, pl8_6, pl8_7, pn8, pl9_0, pl9_1, pl9_2, pl9_3, pl9_4, pl9_5, pl9_6, pl9_7, pl9_8, pn9]
  refine r_check_two hc hd (fun h1 h2 S' g => ?_) e e2
  obtain ⟨x, rfl⟩ := isFr_iff.mp h1
  obtain ⟨y, rfl⟩ := isFr_iff.mp h2
  obtain ⟨z1, z2, q⟩ := q x y rfl rfl
  rw [r_lessened z1 z2]
  exact q S' g
theorem r_times {c d : D} (hc : Wf1 S c) (hd : Wf1 S d) (e : isFr c = false → ∀ S', Gr S S' → E e_InvalidNumber [c] S') (e2 : isFr c = true → isFr d = false → ∀ S', Gr S S' → E e_InvalidNumber [d] S')
    (q : ∀ x y, c = FD x → d = FD y → Sz 4000 x ∧ Sz 4000 y ∧ ∀ S', Gr S S' → Q (FD (x * y)) S') : run sub TT (n + 5) i_times [c, d] S Q E := by
  rw [run_eq at_times rfl]
  simp only [f_times, times_1, times_2, wpS, wpE, wpEs, wpP, wpI, wpT, begin_, hxD, hxD.hxL, catch_, putAll, Ev.unpack, tgSem, wipe, o_add, o_sub, o_mul, o_div, o_mod, o_pow, o_tup, o_lst, o_rep, c_eq, c_ne, c_lt, c_le, c_gt, c_ge, c_isn, c_notn, c_isb, c_in, c_nin, q_int, q_bl, not_true_eq_false, not_false_eq_true, Bool.false_or, Bool.true_or, Bool.or_true, Bool.true_and, Bool.false_and, Bool.and_true, Bool.and_false,  id_eq, lst_new, boolsD, intsD, Option.map_some, List.all_cons, List.all_nil, List.map_append,  q_lit, String.reduceEq, decide_true, decide_false, Bool.not_true, Bool.not_false, Bool.true_eq_false, Bool.false_eq_true, eq_self, i_isn, i_isi, i_isb, i_iss, i_ist, i_isr, t_non, t_int, t_bl, t_str, t_tup, t_fz, b_abs, b_lent, b_lenf, b_lens, b_list, b_tuple, b_int, b_intb, b_sum, b_min2, b_max2, b_all, b_any, b_gcd, b_dict, m_app, m_ext, m_popi, m_pop, x_tup, x_fz, List.map_cons, List.map_nil, List.length_cons, List.length_nil, List.replicate, List.append_nil, List.cons_append, List.nil_append, List.getElem?_cons_zero, List.getElem?_cons_succ, List.set_cons_zero, List.set_cons_succ, Option.some.injEq, D.int.injEq, D.bl.injEq, D.str.injEq, D.tup.injEq, D.ref.injEq, exists_eq_left', exists_eq_left, exists_eq_right, true_and, and_true, Nat.reduceSub, Nat.reduceAdd, Nat.zero_add, reduceCtorEq, false_implies, true_implies, decide_eq_true_eq, decide_eq_false_iff_not, forall_const, List.any_cons, List.any_nil, Bool.or_false, subTy, pl1_0, pn1, pl2_0, pl2_1, pn2, pl3_0, pl3_1, pl3_2, pn3, pl4_0, pl4_1, pl4_2, pl4_3, pn4, pl5_0, pl5_1, pl5_2, pl5_3, pl5_4, pn5, pl6_0, pl6_1, pl6_2, pl6_3, pl6_4, pl6_5, pn6, pl7_0, pl7_1, pl7_2, pl7_3, pl7_4, pl7_5, pl7_6, pn7, pl8_0, pl8_1, pl8_2, pl8_3, pl8_4, pl8_5, pl8_6, pl8_7, pn8, pl9_0, pl9_1, pl9_2, pl9_3, pl9_4, pl9_5, pl9_6, pl9_7, pl9_8, pn9]
  refine r_check_two hc hd (fun h1 h2 S' g => ?_) e e2
  obtain ⟨x, rfl⟩ := isFr_iff.mp h1
  obtain ⟨y, rfl⟩ := isFr_iff.mp h2
  obtain ⟨z1, z2, q⟩ := q x y rfl rfl
  rw [r_product z1 z2]
  exact q S' g
theorem r_less {c d : D} (hc : Wf1 S c) (hd : Wf1 S d) (e : isFr c = false → ∀ S', Gr S S' → E e_InvalidNumber [c] S') (e2 : isFr c = true → isFr d = false → ∀ S', Gr S S' → E e_InvalidNumber [d] S')
    (q : ∀ x y, c = FD x → d = FD y → Sz 4000 x ∧ Sz 4000 y ∧ ∀ S', Gr S S' → Q (.bl (decide (x < y))) S') : run sub TT (n + 5) i_less [c, d] S Q E := by
  rw [run_eq at_less rfl]
  simp only [f_less, less_1, less_2, wpS, wpE, wpEs, wpP, wpI, wpT, begin_, hxD, hxD.hxL, catch_, putAll, Ev.unpack, tgSem, wipe, o_add, o_sub, o_mul, o_div, o_mod, o_pow, o_tup, o_lst, o_rep, c_eq, c_ne, c_lt, c_le, c_gt, c_ge, c_isn, c_notn, c_isb, c_in, c_nin, q_int, q_bl, not_true_eq_false, not_false_eq_true, Bool.false_or, Bool.true_or, Bool.or_true, Bool.true_and, Bool.false_and, Bool.and_true, Bool.and_false,  id_eq, lst_new, boolsD, intsD, Option.map_some, List.all_cons, List.all_nil, List.map_append,  q_lit, String.reduceEq, decide_true, decide_false, Bool.not_true, Bool.not_false, Bool.true_eq_false, Bool.false_eq_true, eq_self, i_isn, i_isi, i_isb, i_iss, i_ist, i_isr, t_non, t_int, t_bl, t_str, t_tup, t_fz, b_abs, b_lent, b_lenf, b_lens, b_list, b_tuple, b_int, b_intb, b_sum, b_min2, b_max2, b_all, b_any, b_gcd, b_dict, m_app, m_ext, m_popi, m_pop, x_tup, x_fz, List.map_cons, List.map_nil, List.length_cons, List.length_nil, List.replicate, List.append_nil, List.cons_append, List.nil_append, List.getElem?_cons_zero, List.getElem?_cons_succ, List.set_cons_zero, List.set_cons_succ, Option.some.injEq, D.int.injEq, D.bl.injEq, D.str.injEq, D.tup.injEq, D.ref.injEq, exists_eq_left', exists_eq_left, exists_eq_right, true_and, and_true, Nat.reduceSub, Nat.reduceAdd, Nat.zero_add, reduceCtorEq, false_implies, true_implies, decide_eq_true_eq, decide_eq_false_iff_not, forall_const, List.any_cons, List.any_nil, Bool.or_false, subTy, pl1_0, pn1, pl2_0, pl2_1, pn2, pl3_0, pl3_1, pl3_2, pn3, pl4_0, pl4_1, pl4_2, pl4_3, pn4, pl5_0, pl5_1, pl5_2, pl5_3, pl5_4, pn5, pl6_0, pl6_1, pl6_2, pl6_3, pl6_4, pl6_5, pn6, pl7_0, pl7_1, pl7_2, pl7_3, pl7_4, pl7_5, pl7_6, pn7, pl8_0, pl8_1, pl8_2, pl8_3, pl8_4, pl8_5, pl8_6, pl8_7, pn8, pl9_0, pl9_1, pl9_2, pl9_3, pl9_4, pl9_5, pl9_6, pl9_7, pl9_8, pn9]
  refine r_check_two hc hd (fun h1 h2 S' g => ?_) e e2
  obtain ⟨x, rfl⟩ := isFr_iff.mp h1
  obtain ⟨y, rfl⟩ := isFr_iff.mp h2
  obtain ⟨z1, z2, q⟩ := q x y rfl rfl
  rw [r_is_less z1 z2]
  exact q S' g
theorem fd_zero {x : Rat} : x = 0 ↔ (x.num = 0 ∧ (x.den : Int) = 1) := by
  refine ⟨fun h => by subst h; exact ⟨rfl, rfl⟩, fun h => Rat.num_eq_zero.mp h.1⟩
theorem r_over {c d : D} (hc : Wf1 S c) (hd : Wf1 S d) (e : isFr c = false → ∀ S', Gr S S' → E e_InvalidNumber [c] S') (e2 : isFr c = true → isFr d = false ∨ d = FD 0 → ∀ S', Gr S S' → E e_InvalidNumber [d] S')
    (q : ∀ x y, c = FD x → d = FD y → y ≠ 0 → Sz 4000 x ∧ Sz 4000 y ∧ ∀ S', Gr S S' → Q (FD (x / y)) S') : run sub TT (n + 5) i_over [c, d] S Q E := by
  rw [run_eq at_over rfl]
  simp only [f_over, over_1, over_2, over_3, wpS, wpE, wpEs, wpP, wpI, wpT, begin_, hxD, hxD.hxL, catch_, putAll, Ev.unpack, tgSem, wipe, o_add, o_sub, o_mul, o_div, o_mod, o_pow, o_tup, o_lst, o_rep, c_eq, c_ne, c_lt, c_le, c_gt, c_ge, c_isn, c_notn, c_isb, c_in, c_nin, q_int, q_bl, not_true_eq_false, not_false_eq_true, Bool.false_or, Bool.true_or, Bool.or_true, Bool.true_and, Bool.false_and, Bool.and_true, Bool.and_false,  id_eq, lst_new, boolsD, intsD, Option.map_some, List.all_cons, List.all_nil, List.map_append,  q_lit, String.reduceEq, decide_true, decide_false, Bool.not_true, Bool.not_false, Bool.true_eq_false, Bool.false_eq_true, eq_self, i_isn, i_isi, i_isb, i_iss, i_ist, i_isr, t_non, t_int, t_bl, t_str, t_tup, t_fz, b_abs, b_lent, b_lenf, b_lens, b_list, b_tuple, b_int, b_intb, b_sum, b_min2, b_max2, b_all, b_any, b_gcd, b_dict, m_app, m_ext, m_popi, m_pop, x_tup, x_fz, List.map_cons, List.map_nil, List.length_cons, List.length_nil, List.replicate, List.append_nil, List.cons_append, List.nil_append, List.getElem?_cons_zero, List.getElem?_cons_succ, List.set_cons_zero, List.set_cons_succ, Option.some.injEq, D.int.injEq, D.bl.injEq, D.str.injEq, D.tup.injEq, D.ref.injEq, exists_eq_left', exists_eq_left, exists_eq_right, true_and, and_true, Nat.reduceSub, Nat.reduceAdd, Nat.zero_add, reduceCtorEq, false_implies, true_implies, decide_eq_true_eq, decide_eq_false_iff_not, forall_const, List.any_cons, List.any_nil, Bool.or_false, subTy, pl1_0, pn1, pl2_0, pl2_1, pn2, pl3_0, pl3_1, pl3_2, pn3, pl4_0, pl4_1, pl4_2, pl4_3, pn4, pl5_0, pl5_1, pl5_2, pl5_3, pl5_4, pn5, pl6_0, pl6_1, pl6_2, pl6_3, pl6_4, pl6_5, pn6, pl7_0, pl7_1, pl7_2, pl7_3, pl7_4, pl7_5, pl7_6, pn7, pl8_0, pl8_1, pl8_2, pl8_3, pl8_4, pl8_5, pl8_6, pl8_7, pn8, pl9_0, pl9_1, pl9_2, pl9_3, pl9_4, pl9_5, pl9_6, pl9_7, pl9_8, pn9]
  refine r_check_two hc hd (fun h1 h2 S' g => ?_) e (fun h1 h2 S' g => e2 h1 (.inl h2) S' g)
  obtain ⟨x, rfl⟩ := isFr_iff.mp h1
  obtain ⟨y, rfl⟩ := isFr_iff.mp h2
  unfold FD at e2 ⊢
  simp only [q_pair, wpS, wpE, wpEs, wpP, wpI, wpT, begin_, hxD, hxD.hxL, catch_, putAll, Ev.unpack, tgSem, wipe, o_add, o_sub, o_mul, o_div, o_mod, o_pow, o_tup, o_lst, o_rep, c_eq, c_ne, c_lt, c_le, c_gt, c_ge, c_isn, c_notn, c_isb, c_in, c_nin, q_int, q_bl, not_true_eq_false, not_false_eq_true, Bool.false_or, Bool.true_or, Bool.or_true, Bool.true_and, Bool.false_and, Bool.and_true, Bool.and_false,  id_eq, lst_new, boolsD, intsD, Option.map_some, List.all_cons, List.all_nil, List.map_append,  q_lit, String.reduceEq, decide_true, decide_false, Bool.not_true, Bool.not_false, Bool.true_eq_false, Bool.false_eq_true, eq_self, i_isn, i_isi, i_isb, i_iss, i_ist, i_isr, t_non, t_int, t_bl, t_str, t_tup, t_fz, b_abs, b_lent, b_lenf, b_lens, b_list, b_tuple, b_int, b_intb, b_sum, b_min2, b_max2, b_all, b_any, b_gcd, b_dict, m_app, m_ext, m_popi, m_pop, x_tup, x_fz, List.map_cons, List.map_nil, List.length_cons, List.length_nil, List.replicate, List.append_nil, List.cons_append, List.nil_append, List.getElem?_cons_zero, List.getElem?_cons_succ, List.set_cons_zero, List.set_cons_succ, Option.some.injEq, D.int.injEq, D.bl.injEq, D.str.injEq, D.tup.injEq, D.ref.injEq, exists_eq_left', exists_eq_left, exists_eq_right, true_and, and_true, Nat.reduceSub, Nat.reduceAdd, Nat.zero_add, reduceCtorEq, false_implies, true_implies, decide_eq_true_eq, decide_eq_false_iff_not, forall_const, List.any_cons, List.any_nil, Bool.or_false, subTy, pl1_0, pn1, pl2_0, pl2_1, pn2, pl3_0, pl3_1, pl3_2, pn3, pl4_0, pl4_1, pl4_2, pl4_3, pn4, pl5_0, pl5_1, pl5_2, pl5_3, pl5_4, pn5, pl6_0, pl6_1, pl6_2, pl6_3, pl6_4, pl6_5, pn6, pl7_0, pl7_1, pl7_2, pl7_3, pl7_4, pl7_5, pl7_6, pn7, pl8_0, pl8_1, pl8_2, pl8_3, pl8_4, pl8_5, pl8_6, pl8_7, pn8, pl9_0, pl9_1, pl9_2, pl9_3, pl9_4, pl9_5, pl9_6, pl9_7, pl9_8, pn9, exLen, Bool.and_eq_true, Bool.and_eq_false_iff]
  refine ⟨fun h => ?_, fun h => ?_⟩
  · exact e2 h1 (.inr (by rw [fd_zero.mpr h])) S' g
  · have h0 : y ≠ 0 := fun z => by
      have := fd_zero.mp z
      rcases h with h | h
      · exact h this.1
      · exact h this.2
    obtain ⟨z1, z2, q⟩ := q x y rfl rfl h0
    have := r_quotient (n := n + 2) (S := S') (Q := Q) (E := E) z1 z2 h0
    unfold FD at this
    rw [this]
    exact q S' g
/-- the root of a fraction, None where there is none -/
def rootV (x : Rat) : D := if x.num < 0 then .non else if isq x.num.toNat * isq x.num.toNat = x.num.toNat ∧ isq x.den * isq x.den = x.den then .tup [.int (isq x.num.toNat : Nat), .int (isq x.den : Nat)] else .non
theorem isq_lt {a k : Nat} (h : a < 2 ^ k) : isq a < 2 ^ k := by
  have := (isq_spec a).1
  have h2 : isq a ≤ isq a * isq a := Nat.le_mul_self _
  omega
theorem r_root_of {x : Rat} (hx : Sz 4000 x) : run sub TT (n + 1) i_root_of [FD x] S Q E = Q (rootV x) S := by
  rw [run_eq at_root_of rfl]
  have hn := hx.1
  have hd := hx.2
  unfold FD rootV
  by_cases h : x.num < 0
  · simp only [f_root_of, root_of_1, wpS, wpE, wpEs, wpP, wpI, wpT, begin_, hxD, hxD.hxL, catch_, putAll, Ev.unpack, tgSem, wipe, o_add, o_sub, o_mul, o_div, o_mod, o_pow, o_tup, o_lst, o_rep, c_eq, c_ne, c_lt, c_le, c_gt, c_ge, c_isn, c_notn, c_isb, c_in, c_nin, q_int, q_bl, not_true_eq_false, not_false_eq_true, Bool.false_or, Bool.true_or, Bool.or_true, Bool.true_and, Bool.false_and, Bool.and_true, Bool.and_false,  id_eq, lst_new, boolsD, intsD, Option.map_some, List.all_cons, List.all_nil, List.map_append,  q_lit, String.reduceEq, decide_true, decide_false, Bool.not_true, Bool.not_false, Bool.true_eq_false, Bool.false_eq_true, eq_self, i_isn, i_isi, i_isb, i_iss, i_ist, i_isr, t_non, t_int, t_bl, t_str, t_tup, t_fz, b_abs, b_lent, b_lenf, b_lens, b_list, b_tuple, b_int, b_intb, b_sum, b_min2, b_max2, b_all, b_any, b_gcd, b_dict, m_app, m_ext, m_popi, m_pop, x_tup, x_fz, List.map_cons, List.map_nil, List.length_cons, List.length_nil, List.replicate, List.append_nil, List.cons_append, List.nil_append, List.getElem?_cons_zero, List.getElem?_cons_succ, List.set_cons_zero, List.set_cons_succ, Option.some.injEq, D.int.injEq, D.bl.injEq, D.str.injEq, D.tup.injEq, D.ref.injEq, exists_eq_left', exists_eq_left, exists_eq_right, true_and, and_true, Nat.reduceSub, Nat.reduceAdd, Nat.zero_add, reduceCtorEq, false_implies, true_implies, decide_eq_true_eq, decide_eq_false_iff_not, forall_const, List.any_cons, List.any_nil, Bool.or_false, subTy, pl1_0, pn1, pl2_0, pl2_1, pn2, pl3_0, pl3_1, pl3_2, pn3, pl4_0, pl4_1, pl4_2, pl4_3, pn4, pl5_0, pl5_1, pl5_2, pl5_3, pl5_4, pn5, pl6_0, pl6_1, pl6_2, pl6_3, pl6_4, pl6_5, pn6, pl7_0, pl7_1, pl7_2, pl7_3, pl7_4, pl7_5, pl7_6, pn7, pl8_0, pl8_1, pl8_2, pl8_3, pl8_4, pl8_5, pl8_6, pl8_7, pn8, pl9_0, pl9_1, pl9_2, pl9_3, pl9_4, pl9_5, pl9_6, pl9_7, pl9_8, pn9, h, if_true, not_true_eq_false]
  · have h0 : 0 ≤ x.num := by omega
    have l1 : x.num.toNat.log2 ≤ 13000 := Nat.le_trans (log_le (k := 4000) (by omega)) (by decide)
    have l2 : ((x.den : Int)).toNat.log2 ≤ 13000 := Nat.le_trans (log_le (k := 4000) (by simpa using hd)) (by decide)
    have s1 : isq x.num.toNat < 2 ^ 4000 := isq_lt (by omega)
    have s2 : isq x.den < 2 ^ 4000 := isq_lt hd
    have m1 : MulOk (isq x.num.toNat : Nat) (isq x.num.toNat : Nat) := mul_ok (a := 4000) (b := 4000) s1 s1 (by decide)
    have m2 : MulOk (isq x.den : Nat) (isq x.den : Nat) := mul_ok (a := 4000) (b := 4000) s2 s2 (by decide)
    have e1 : (((isq x.num.toNat : Nat) : Int) * (isq x.num.toNat : Nat) = x.num) ↔ isq x.num.toNat * isq x.num.toNat = x.num.toNat := by
      rw [← Int.natCast_mul]
      omega
    have e2 : (((isq x.den : Nat) : Int) * (isq x.den : Nat) = (x.den : Int)) ↔ isq x.den * isq x.den = x.den := by
      rw [← Int.natCast_mul]
      omega
    have : (2 : Nat) ≤ most := by decide
    simp only [f_root_of, root_of_1, root_of_2, root_of_3, wpS, wpE, wpEs, wpP, wpI, wpT, begin_, hxD, hxD.hxL, catch_, putAll, Ev.unpack, tgSem, wipe, o_add, o_sub, o_mul, o_div, o_mod, o_pow, o_tup, o_lst, o_rep, c_eq, c_ne, c_lt, c_le, c_gt, c_ge, c_isn, c_notn, c_isb, c_in, c_nin, q_int, q_bl, not_true_eq_false, not_false_eq_true, Bool.false_or, Bool.true_or, Bool.or_true, Bool.true_and, Bool.false_and, Bool.and_true, Bool.and_false,  id_eq, lst_new, boolsD, intsD, Option.map_some, List.all_cons, List.all_nil, List.map_append,  q_lit, String.reduceEq, decide_true, decide_false, Bool.not_true, Bool.not_false, Bool.true_eq_false, Bool.false_eq_true, eq_self, i_isn, i_isi, i_isb, i_iss, i_ist, i_isr, t_non, t_int, t_bl, t_str, t_tup, t_fz, b_abs, b_lent, b_lenf, b_lens, b_list, b_tuple, b_int, b_intb, b_sum, b_min2, b_max2, b_all, b_any, b_gcd, b_dict, m_app, m_ext, m_popi, m_pop, x_tup, x_fz, List.map_cons, List.map_nil, List.length_cons, List.length_nil, List.replicate, List.append_nil, List.cons_append, List.nil_append, List.getElem?_cons_zero, List.getElem?_cons_succ, List.set_cons_zero, List.set_cons_succ, Option.some.injEq, D.int.injEq, D.bl.injEq, D.str.injEq, D.tup.injEq, D.ref.injEq, exists_eq_left', exists_eq_left, exists_eq_right, true_and, and_true, Nat.reduceSub, Nat.reduceAdd, Nat.zero_add, reduceCtorEq, false_implies, true_implies, decide_eq_true_eq, decide_eq_false_iff_not, forall_const, List.any_cons, List.any_nil, Bool.or_false, subTy, pl1_0, pn1, pl2_0, pl2_1, pn2, pl3_0, pl3_1, pl3_2, pn3, pl4_0, pl4_1, pl4_2, pl4_3, pn4, pl5_0, pl5_1, pl5_2, pl5_3, pl5_4, pn5, pl6_0, pl6_1, pl6_2, pl6_3, pl6_4, pl6_5, pn6, pl7_0, pl7_1, pl7_2, pl7_3, pl7_4, pl7_5, pl7_6, pn7, pl8_0, pl8_1, pl8_2, pl8_3, pl8_4, pl8_5, pl8_6, pl8_7, pn8, pl9_0, pl9_1, pl9_2, pl9_3, pl9_4, pl9_5, pl9_6, pl9_7, pl9_8, pn9, h, not_false_eq_true, if_false, b_isq h0 l1, b_isq (Int.natCast_nonneg _) l2, Int.toNat_natCast, m1, m2, e1, e2, this]
    by_cases c1 : isq x.num.toNat * isq x.num.toNat = x.num.toNat <;> by_cases c2 : isq x.den * isq x.den = x.den <;> simp only [c1, c2, wpS, wpE, wpEs, wpP, wpI, wpT, begin_, hxD, hxD.hxL, catch_, putAll, Ev.unpack, tgSem, wipe, o_add, o_sub, o_mul, o_div, o_mod, o_pow, o_tup, o_lst, o_rep, c_eq, c_ne, c_lt, c_le, c_gt, c_ge, c_isn, c_notn, c_isb, c_in, c_nin, q_int, q_bl, not_true_eq_false, not_false_eq_true, Bool.false_or, Bool.true_or, Bool.or_true, Bool.true_and, Bool.false_and, Bool.and_true, Bool.and_false,  id_eq, lst_new, boolsD, intsD, Option.map_some, List.all_cons, List.all_nil, List.map_append,  q_lit, String.reduceEq, decide_true, decide_false, Bool.not_true, Bool.not_false, Bool.true_eq_false, Bool.false_eq_true, eq_self, i_isn, i_isi, i_isb, i_iss, i_ist, i_isr, t_non, t_int, t_bl, t_str, t_tup, t_fz, b_abs, b_lent, b_lenf, b_lens, b_list, b_tuple, b_int, b_intb, b_sum, b_min2, b_max2, b_all, b_any, b_gcd, b_dict, m_app, m_ext, m_popi, m_pop, x_tup, x_fz, List.map_cons, List.map_nil, List.length_cons, List.length_nil, List.replicate, List.append_nil, List.cons_append, List.nil_append, List.getElem?_cons_zero, List.getElem?_cons_succ, List.set_cons_zero, List.set_cons_succ, Option.some.injEq, D.int.injEq, D.bl.injEq, D.str.injEq, D.tup.injEq, D.ref.injEq, exists_eq_left', exists_eq_left, exists_eq_right, true_and, and_true, Nat.reduceSub, Nat.reduceAdd, Nat.zero_add, reduceCtorEq, false_implies, true_implies, decide_eq_true_eq, decide_eq_false_iff_not, forall_const, List.any_cons, List.any_nil, Bool.or_false, subTy, pl1_0, pn1, pl2_0, pl2_1, pn2, pl3_0, pl3_1, pl3_2, pn3, pl4_0, pl4_1, pl4_2, pl4_3, pn4, pl5_0, pl5_1, pl5_2, pl5_3, pl5_4, pn5, pl6_0, pl6_1, pl6_2, pl6_3, pl6_4, pl6_5, pn6, pl7_0, pl7_1, pl7_2, pl7_3, pl7_4, pl7_5, pl7_6, pn7, pl8_0, pl8_1, pl8_2, pl8_3, pl8_4, pl8_5, pl8_6, pl8_7, pn8, pl9_0, pl9_1, pl9_2, pl9_3, pl9_4, pl9_5, pl9_6, pl9_7, pl9_8, pn9, if_true, if_false, not_true_eq_false, not_false_eq_true, and_self, and_true, and_false, false_and]
theorem r_root {d : D} (hd : Wf1 S d) (e : isFr d = false → ∀ S', Gr S S' → E e_InvalidNumber [d] S') (q : ∀ x, d = FD x → Sz 4000 x ∧ ∀ S', Gr S S' → Q (rootV x) S') : run sub TT (n + 4) i_root [d] S Q E := by
  rw [run_eq at_root rfl]
  simp only [f_root, root_1, root_2, wpS, wpE, wpEs, wpP, wpI, wpT, begin_, hxD, hxD.hxL, catch_, putAll, Ev.unpack, tgSem, wipe, o_add, o_sub, o_mul, o_div, o_mod, o_pow, o_tup, o_lst, o_rep, c_eq, c_ne, c_lt, c_le, c_gt, c_ge, c_isn, c_notn, c_isb, c_in, c_nin, q_int, q_bl, not_true_eq_false, not_false_eq_true, Bool.false_or, Bool.true_or, Bool.or_true, Bool.true_and, Bool.false_and, Bool.and_true, Bool.and_false,  id_eq, lst_new, boolsD, intsD, Option.map_some, List.all_cons, List.all_nil, List.map_append,  q_lit, String.reduceEq, decide_true, decide_false, Bool.not_true, Bool.not_false, Bool.true_eq_false, Bool.false_eq_true, eq_self, i_isn, i_isi, i_isb, i_iss, i_ist, i_isr, t_non, t_int, t_bl, t_str, t_tup, t_fz, b_abs, b_lent, b_lenf, b_lens, b_list, b_tuple, b_int, b_intb, b_sum, b_min2, b_max2, b_all, b_any, b_gcd, b_dict, m_app, m_ext, m_popi, m_pop, x_tup, x_fz, List.map_cons, List.map_nil, List.length_cons, List.length_nil, List.replicate, List.append_nil, List.cons_append, List.nil_append, List.getElem?_cons_zero, List.getElem?_cons_succ, List.set_cons_zero, List.set_cons_succ, Option.some.injEq, D.int.injEq, D.bl.injEq, D.str.injEq, D.tup.injEq, D.ref.injEq, exists_eq_left', exists_eq_left, exists_eq_right, true_and, and_true, Nat.reduceSub, Nat.reduceAdd, Nat.zero_add, reduceCtorEq, false_implies, true_implies, decide_eq_true_eq, decide_eq_false_iff_not, forall_const, List.any_cons, List.any_nil, Bool.or_false, subTy, pl1_0, pn1, pl2_0, pl2_1, pn2, pl3_0, pl3_1, pl3_2, pn3, pl4_0, pl4_1, pl4_2, pl4_3, pn4, pl5_0, pl5_1, pl5_2, pl5_3, pl5_4, pn5, pl6_0, pl6_1, pl6_2, pl6_3, pl6_4, pl6_5, pn6, pl7_0, pl7_1, pl7_2, pl7_3, pl7_4, pl7_5, pl7_6, pn7, pl8_0, pl8_1, pl8_2, pl8_3, pl8_4, pl8_5, pl8_6, pl8_7, pn8, pl9_0, pl9_1, pl9_2, pl9_3, pl9_4, pl9_5, pl9_6, pl9_7, pl9_8, pn9]
  refine r_check_fraction hd (fun h1 S' g => ?_) e
  obtain ⟨x, rfl⟩ := isFr_iff.mp h1
  obtain ⟨z1, q⟩ := q x rfl
  rw [r_root_of z1]
  exact q S' g
end
end EvL
end
section
set_option Elab.async false
set_option linter.all false
set_option maxRecDepth 100000
set_option maxHeartbeats 400000
set_option exponentiation.threshold 10000
namespace EvL
open PySem Ev
section
variable {n : Nat} {S : Sto} {Q : Po} {E : Xo} {b k : Nat}
theorem r__law_is_int {d : D} {t : Ty} (ht : tyOf S d = some t) : run sub TT (n + 1) i__law_is_int [d] S Q E = Q (.bl (isInt d)) S := by
  rw [run_eq at__law_is_int rfl]
  simp only [f__law_is_int, _law_is_int_1, ht, wpS, wpE, wpEs, wpP, wpI, wpT, begin_, hxD, hxD.hxL, catch_, putAll, Ev.unpack, tgSem, wipe, o_add, o_sub, o_mul, o_div, o_mod, o_pow, o_tup, o_lst, o_rep, c_eq, c_ne, c_lt, c_le, c_gt, c_ge, c_isn, c_notn, c_isb, c_in, c_nin, q_int, q_bl, not_true_eq_false, not_false_eq_true, Bool.false_or, Bool.true_or, Bool.or_true, Bool.true_and, Bool.false_and, Bool.and_true, Bool.and_false,  id_eq, lst_new, boolsD, intsD, Option.map_some, List.all_cons, List.all_nil, List.map_append,  q_lit, String.reduceEq, decide_true, decide_false, Bool.not_true, Bool.not_false, Bool.true_eq_false, Bool.false_eq_true, eq_self, i_isn, i_isi, i_isb, i_iss, i_ist, i_isr, t_non, t_int, t_bl, t_str, t_tup, t_fz, b_abs, b_lent, b_lenf, b_lens, b_list, b_tuple, b_int, b_intb, b_sum, b_min2, b_max2, b_all, b_any, b_gcd, b_dict, m_app, m_ext, m_popi, m_pop, x_tup, x_fz, List.map_cons, List.map_nil, List.length_cons, List.length_nil, List.replicate, List.append_nil, List.cons_append, List.nil_append, List.getElem?_cons_zero, List.getElem?_cons_succ, List.set_cons_zero, List.set_cons_succ, Option.some.injEq, D.int.injEq, D.bl.injEq, D.str.injEq, D.tup.injEq, D.ref.injEq, exists_eq_left', exists_eq_left, exists_eq_right, true_and, and_true, Nat.reduceSub, Nat.reduceAdd, Nat.zero_add, reduceCtorEq, false_implies, true_implies, decide_eq_true_eq, decide_eq_false_iff_not, forall_const, List.any_cons, List.any_nil, Bool.or_false, subTy, pl1_0, pn1, pl2_0, pl2_1, pn2, pl3_0, pl3_1, pl3_2, pn3, pl4_0, pl4_1, pl4_2, pl4_3, pn4, pl5_0, pl5_1, pl5_2, pl5_3, pl5_4, pn5, pl6_0, pl6_1, pl6_2, pl6_3, pl6_4, pl6_5, pn6, pl7_0, pl7_1, pl7_2, pl7_3, pl7_4, pl7_5, pl7_6, pn7, pl8_0, pl8_1, pl8_2, pl8_3, pl8_4, pl8_5, pl8_6, pl8_7, pn8, pl9_0, pl9_1, pl9_2, pl9_3, pl9_4, pl9_5, pl9_6, pl9_7, pl9_8, pn9]
  cases d with
  | ref m =>
    unfold tyOf at ht
    dsimp only at ht
    split at ht <;> cases ht <;> simp [isInt, subTy]
  | _ => cases ht <;> simp [isInt, subTy]
theorem r__law_take {m : Int} (hb : Box S b k) (hk : k ≤ 2 ^ 30) (h0 : 0 < m) (hm : m.natAbs < 2 ^ 8000) (q : ∀ S' d, 0 ≤ d → d < m → Box S' b (k + 1) → Fr b S S' → Q (.int d) S') : run sub TT (n + 1) i__law_take [.ref b, .int m] S Q E := by
  rw [run_eq at__law_take rfl]
  obtain ⟨g, x, mm, c, hl, hg, hm0, hm1, hc0, hc1⟩ := hb.ex
  have hlt := lst_lt hl
  have hd : DivOk g m := div_ok (by omega) hm (by decide)
  have hm' : m ≠ 0 := by omega
  have last : wpS (run sub TT n) sub (.seq _law_take_2 (.seq _law_take_3 _law_take_4)) [some (.ref b), some (.int m), none, none] S ⟨fun _ S1 => Q .non S1, Q, fun _ _ => False, fun _ _ => False, E⟩ := by
    simp only [_law_take_2, wpS, wpE, wpEs, wpP, wpI, wpT, begin_, hxD, hxD.hxL, catch_, putAll, Ev.unpack, tgSem, wipe, o_add, o_sub, o_mul, o_div, o_mod, o_pow, o_tup, o_lst, o_rep, c_eq, c_ne, c_lt, c_le, c_gt, c_ge, c_isn, c_notn, c_isb, c_in, c_nin, q_int, q_bl, not_true_eq_false, not_false_eq_true, Bool.false_or, Bool.true_or, Bool.or_true, Bool.true_and, Bool.false_and, Bool.and_true, Bool.and_false,  id_eq, lst_new, boolsD, intsD, Option.map_some, List.all_cons, List.all_nil, List.map_append,  q_lit, String.reduceEq, decide_true, decide_false, Bool.not_true, Bool.not_false, Bool.true_eq_false, Bool.false_eq_true, eq_self, i_isn, i_isi, i_isb, i_iss, i_ist, i_isr, t_non, t_int, t_bl, t_str, t_tup, t_fz, b_abs, b_lent, b_lenf, b_lens, b_list, b_tuple, b_int, b_intb, b_sum, b_min2, b_max2, b_all, b_any, b_gcd, b_dict, m_app, m_ext, m_popi, m_pop, x_tup, x_fz, List.map_cons, List.map_nil, List.length_cons, List.length_nil, List.replicate, List.append_nil, List.cons_append, List.nil_append, List.getElem?_cons_zero, List.getElem?_cons_succ, List.set_cons_zero, List.set_cons_succ, Option.some.injEq, D.int.injEq, D.bl.injEq, D.str.injEq, D.tup.injEq, D.ref.injEq, exists_eq_left', exists_eq_left, exists_eq_right, true_and, and_true, Nat.reduceSub, Nat.reduceAdd, Nat.zero_add, reduceCtorEq, false_implies, true_implies, decide_eq_true_eq, decide_eq_false_iff_not, forall_const, List.any_cons, List.any_nil, Bool.or_false, subTy, pl1_0, pn1, pl2_0, pl2_1, pn2, pl3_0, pl3_1, pl3_2, pn3, pl4_0, pl4_1, pl4_2, pl4_3, pn4, pl5_0, pl5_1, pl5_2, pl5_3, pl5_4, pn5, pl6_0, pl6_1, pl6_2, pl6_3, pl6_4, pl6_5, pn6, pl7_0, pl7_1, pl7_2, pl7_3, pl7_4, pl7_5, pl7_6, pn7, pl8_0, pl8_1, pl8_2, pl8_3, pl8_4, pl8_5, pl8_6, pl8_7, pn8, pl9_0, pl9_1, pl9_2, pl9_3, pl9_4, pl9_5, pl9_6, pl9_7, pl9_8, pn9, x_lst hl, st_lst hl]
    have hl2 : lstAt (S.set b (.lst [.int g, .bl x, .int mm, .int (c + 1)])) b = some [.int g, .bl x, .int mm, .int (c + 1)] := lst_set hlt
    have m1 : MulOk 15492415 (c + 1) := mul_ok (a := 24) (b := 32) (by decide) (by omega) (by decide)
    have p1 : PowOk (mm + 15492415 * (c + 1) + 179424749) 5 := ⟨by decide, by decide, by omega⟩
    simp only [_law_take_3, wpS, wpE, wpEs, wpP, wpI, wpT, begin_, hxD, hxD.hxL, catch_, putAll, Ev.unpack, tgSem, wipe, o_add, o_sub, o_mul, o_div, o_mod, o_pow, o_tup, o_lst, o_rep, c_eq, c_ne, c_lt, c_le, c_gt, c_ge, c_isn, c_notn, c_isb, c_in, c_nin, q_int, q_bl, not_true_eq_false, not_false_eq_true, Bool.false_or, Bool.true_or, Bool.or_true, Bool.true_and, Bool.false_and, Bool.and_true, Bool.and_false,  id_eq, lst_new, boolsD, intsD, Option.map_some, List.all_cons, List.all_nil, List.map_append,  q_lit, String.reduceEq, decide_true, decide_false, Bool.not_true, Bool.not_false, Bool.true_eq_false, Bool.false_eq_true, eq_self, i_isn, i_isi, i_isb, i_iss, i_ist, i_isr, t_non, t_int, t_bl, t_str, t_tup, t_fz, b_abs, b_lent, b_lenf, b_lens, b_list, b_tuple, b_int, b_intb, b_sum, b_min2, b_max2, b_all, b_any, b_gcd, b_dict, m_app, m_ext, m_popi, m_pop, x_tup, x_fz, List.map_cons, List.map_nil, List.length_cons, List.length_nil, List.replicate, List.append_nil, List.cons_append, List.nil_append, List.getElem?_cons_zero, List.getElem?_cons_succ, List.set_cons_zero, List.set_cons_succ, Option.some.injEq, D.int.injEq, D.bl.injEq, D.str.injEq, D.tup.injEq, D.ref.injEq, exists_eq_left', exists_eq_left, exists_eq_right, true_and, and_true, Nat.reduceSub, Nat.reduceAdd, Nat.zero_add, reduceCtorEq, false_implies, true_implies, decide_eq_true_eq, decide_eq_false_iff_not, forall_const, List.any_cons, List.any_nil, Bool.or_false, subTy, pl1_0, pn1, pl2_0, pl2_1, pn2, pl3_0, pl3_1, pl3_2, pn3, pl4_0, pl4_1, pl4_2, pl4_3, pn4, pl5_0, pl5_1, pl5_2, pl5_3, pl5_4, pn5, pl6_0, pl6_1, pl6_2, pl6_3, pl6_4, pl6_5, pn6, pl7_0, pl7_1, pl7_2, pl7_3, pl7_4, pl7_5, pl7_6, pn7, pl8_0, pl8_1, pl8_2, pl8_3, pl8_4, pl8_5, pl8_6, pl8_7, pn8, pl9_0, pl9_1, pl9_2, pl9_3, pl9_4, pl9_5, pl9_6, pl9_7, pl9_8, pn9, x_lst hl2, m1, p1]
    have hne : (2147483647 : Int) ≠ 0 := by decide
    simp only [ne_eq, hne, not_false_eq_true, wpS, wpE, wpEs, wpP, wpI, wpT, begin_, hxD, hxD.hxL, catch_, putAll, Ev.unpack, tgSem, wipe, o_add, o_sub, o_mul, o_div, o_mod, o_pow, o_tup, o_lst, o_rep, c_eq, c_ne, c_lt, c_le, c_gt, c_ge, c_isn, c_notn, c_isb, c_in, c_nin, q_int, q_bl, not_true_eq_false, not_false_eq_true, Bool.false_or, Bool.true_or, Bool.or_true, Bool.true_and, Bool.false_and, Bool.and_true, Bool.and_false,  id_eq, lst_new, boolsD, intsD, Option.map_some, List.all_cons, List.all_nil, List.map_append,  q_lit, String.reduceEq, decide_true, decide_false, Bool.not_true, Bool.not_false, Bool.true_eq_false, Bool.false_eq_true, eq_self, i_isn, i_isi, i_isb, i_iss, i_ist, i_isr, t_non, t_int, t_bl, t_str, t_tup, t_fz, b_abs, b_lent, b_lenf, b_lens, b_list, b_tuple, b_int, b_intb, b_sum, b_min2, b_max2, b_all, b_any, b_gcd, b_dict, m_app, m_ext, m_popi, m_pop, x_tup, x_fz, List.map_cons, List.map_nil, List.length_cons, List.length_nil, List.replicate, List.append_nil, List.cons_append, List.nil_append, List.getElem?_cons_zero, List.getElem?_cons_succ, List.set_cons_zero, List.set_cons_succ, Option.some.injEq, D.int.injEq, D.bl.injEq, D.str.injEq, D.tup.injEq, D.ref.injEq, exists_eq_left', exists_eq_left, exists_eq_right, true_and, and_true, Nat.reduceSub, Nat.reduceAdd, Nat.zero_add, reduceCtorEq, false_implies, true_implies, decide_eq_true_eq, decide_eq_false_iff_not, forall_const, List.any_cons, List.any_nil, Bool.or_false, subTy, pl1_0, pn1, pl2_0, pl2_1, pn2, pl3_0, pl3_1, pl3_2, pn3, pl4_0, pl4_1, pl4_2, pl4_3, pn4, pl5_0, pl5_1, pl5_2, pl5_3, pl5_4, pn5, pl6_0, pl6_1, pl6_2, pl6_3, pl6_4, pl6_5, pn6, pl7_0, pl7_1, pl7_2, pl7_3, pl7_4, pl7_5, pl7_6, pn7, pl8_0, pl8_1, pl8_2, pl8_3, pl8_4, pl8_5, pl8_6, pl8_7, pn8, pl9_0, pl9_1, pl9_2, pl9_3, pl9_4, pl9_5, pl9_6, pl9_7, pl9_8, pn9]
    generalize hmx : ((mm + 15492415 * (c + 1) + 179424749) ^ Int.toNat 5).fmod 2147483647 = mx
    have b1 : 0 ≤ mx ∧ mx < 2147483647 := by
      subst hmx
      exact ⟨Int.fmod_nonneg_of_pos _ (by decide), Int.fmod_lt_of_pos _ (by decide)⟩
    have m2 : MulOk mx 48271 := mul_ok (a := 32) (b := 16) (by omega) (by decide) (by decide)
    have m3 : MulOk 104961 (c + 1) := mul_ok (a := 17) (b := 32) (by decide) (by omega) (by decide)
    have p2 : PowOk (mx * 48271 + 104961 * (c + 1)) 3 := ⟨by decide, by decide, by omega⟩
    have hn2 : (2147483587 : Int) ≠ 0 := by decide
    have hd2 : ∀ i : Int, DivOk i 64 := fun i => div_ok (k := 10) (by decide) (by decide) (by decide)
    simp only [_law_take_4, wpS, wpE, wpEs, wpP, wpI, wpT, begin_, hxD, hxD.hxL, catch_, putAll, Ev.unpack, tgSem, wipe, o_add, o_sub, o_mul, o_div, o_mod, o_pow, o_tup, o_lst, o_rep, c_eq, c_ne, c_lt, c_le, c_gt, c_ge, c_isn, c_notn, c_isb, c_in, c_nin, q_int, q_bl, not_true_eq_false, not_false_eq_true, Bool.false_or, Bool.true_or, Bool.or_true, Bool.true_and, Bool.false_and, Bool.and_true, Bool.and_false,  id_eq, lst_new, boolsD, intsD, Option.map_some, List.all_cons, List.all_nil, List.map_append,  q_lit, String.reduceEq, decide_true, decide_false, Bool.not_true, Bool.not_false, Bool.true_eq_false, Bool.false_eq_true, eq_self, i_isn, i_isi, i_isb, i_iss, i_ist, i_isr, t_non, t_int, t_bl, t_str, t_tup, t_fz, b_abs, b_lent, b_lenf, b_lens, b_list, b_tuple, b_int, b_intb, b_sum, b_min2, b_max2, b_all, b_any, b_gcd, b_dict, m_app, m_ext, m_popi, m_pop, x_tup, x_fz, List.map_cons, List.map_nil, List.length_cons, List.length_nil, List.replicate, List.append_nil, List.cons_append, List.nil_append, List.getElem?_cons_zero, List.getElem?_cons_succ, List.set_cons_zero, List.set_cons_succ, Option.some.injEq, D.int.injEq, D.bl.injEq, D.str.injEq, D.tup.injEq, D.ref.injEq, exists_eq_left', exists_eq_left, exists_eq_right, true_and, and_true, Nat.reduceSub, Nat.reduceAdd, Nat.zero_add, reduceCtorEq, false_implies, true_implies, decide_eq_true_eq, decide_eq_false_iff_not, forall_const, List.any_cons, List.any_nil, Bool.or_false, subTy, pl1_0, pn1, pl2_0, pl2_1, pn2, pl3_0, pl3_1, pl3_2, pn3, pl4_0, pl4_1, pl4_2, pl4_3, pn4, pl5_0, pl5_1, pl5_2, pl5_3, pl5_4, pn5, pl6_0, pl6_1, pl6_2, pl6_3, pl6_4, pl6_5, pn6, pl7_0, pl7_1, pl7_2, pl7_3, pl7_4, pl7_5, pl7_6, pn7, pl8_0, pl8_1, pl8_2, pl8_3, pl8_4, pl8_5, pl8_6, pl8_7, pn8, pl9_0, pl9_1, pl9_2, pl9_3, pl9_4, pl9_5, pl9_6, pl9_7, pl9_8, pn9, x_lst hl2, m2, m3, p2, ne_eq, hn2, hm', not_false_eq_true, hd2]
    exact q _ _ (Int.fmod_nonneg_of_pos _ h0) (Int.fmod_lt_of_pos _ h0) ⟨g, x, mm, c + 1, hl2, hg, hm0, hm1, by omega, by omega⟩ Fr.set
  simp only [f__law_take, _law_take_1, wpS, wpE, wpEs, wpP, wpI, wpT, begin_, hxD, hxD.hxL, catch_, putAll, Ev.unpack, tgSem, wipe, o_add, o_sub, o_mul, o_div, o_mod, o_pow, o_tup, o_lst, o_rep, c_eq, c_ne, c_lt, c_le, c_gt, c_ge, c_isn, c_notn, c_isb, c_in, c_nin, q_int, q_bl, not_true_eq_false, not_false_eq_true, Bool.false_or, Bool.true_or, Bool.or_true, Bool.true_and, Bool.false_and, Bool.and_true, Bool.and_false,  id_eq, lst_new, boolsD, intsD, Option.map_some, List.all_cons, List.all_nil, List.map_append,  q_lit, String.reduceEq, decide_true, decide_false, Bool.not_true, Bool.not_false, Bool.true_eq_false, Bool.false_eq_true, eq_self, i_isn, i_isi, i_isb, i_iss, i_ist, i_isr, t_non, t_int, t_bl, t_str, t_tup, t_fz, b_abs, b_lent, b_lenf, b_lens, b_list, b_tuple, b_int, b_intb, b_sum, b_min2, b_max2, b_all, b_any, b_gcd, b_dict, m_app, m_ext, m_popi, m_pop, x_tup, x_fz, List.map_cons, List.map_nil, List.length_cons, List.length_nil, List.replicate, List.append_nil, List.cons_append, List.nil_append, List.getElem?_cons_zero, List.getElem?_cons_succ, List.set_cons_zero, List.set_cons_succ, Option.some.injEq, D.int.injEq, D.bl.injEq, D.str.injEq, D.tup.injEq, D.ref.injEq, exists_eq_left', exists_eq_left, exists_eq_right, true_and, and_true, Nat.reduceSub, Nat.reduceAdd, Nat.zero_add, reduceCtorEq, false_implies, true_implies, decide_eq_true_eq, decide_eq_false_iff_not, forall_const, List.any_cons, List.any_nil, Bool.or_false, subTy, pl1_0, pn1, pl2_0, pl2_1, pn2, pl3_0, pl3_1, pl3_2, pn3, pl4_0, pl4_1, pl4_2, pl4_3, pn4, pl5_0, pl5_1, pl5_2, pl5_3, pl5_4, pn5, pl6_0, pl6_1, pl6_2, pl6_3, pl6_4, pl6_5, pn6, pl7_0, pl7_1, pl7_2, pl7_3, pl7_4, pl7_5, pl7_6, pn7, pl8_0, pl8_1, pl8_2, pl8_3, pl8_4, pl8_5, pl8_6, pl8_7, pn8, pl9_0, pl9_1, pl9_2, pl9_3, pl9_4, pl9_5, pl9_6, pl9_7, pl9_8, pn9, x_lst hl]
  have last' := last
  simp only [wpS, wpE, wpEs, wpP, wpI, wpT, begin_, hxD, hxD.hxL, catch_, putAll, Ev.unpack, tgSem, wipe, o_add, o_sub, o_mul, o_div, o_mod, o_pow, o_tup, o_lst, o_rep, c_eq, c_ne, c_lt, c_le, c_gt, c_ge, c_isn, c_notn, c_isb, c_in, c_nin, q_int, q_bl, not_true_eq_false, not_false_eq_true, Bool.false_or, Bool.true_or, Bool.or_true, Bool.true_and, Bool.false_and, Bool.and_true, Bool.and_false,  id_eq, lst_new, boolsD, intsD, Option.map_some, List.all_cons, List.all_nil, List.map_append,  q_lit, String.reduceEq, decide_true, decide_false, Bool.not_true, Bool.not_false, Bool.true_eq_false, Bool.false_eq_true, eq_self, i_isn, i_isi, i_isb, i_iss, i_ist, i_isr, t_non, t_int, t_bl, t_str, t_tup, t_fz, b_abs, b_lent, b_lenf, b_lens, b_list, b_tuple, b_int, b_intb, b_sum, b_min2, b_max2, b_all, b_any, b_gcd, b_dict, m_app, m_ext, m_popi, m_pop, x_tup, x_fz, List.map_cons, List.map_nil, List.length_cons, List.length_nil, List.replicate, List.append_nil, List.cons_append, List.nil_append, List.getElem?_cons_zero, List.getElem?_cons_succ, List.set_cons_zero, List.set_cons_succ, Option.some.injEq, D.int.injEq, D.bl.injEq, D.str.injEq, D.tup.injEq, D.ref.injEq, exists_eq_left', exists_eq_left, exists_eq_right, true_and, and_true, Nat.reduceSub, Nat.reduceAdd, Nat.zero_add, reduceCtorEq, false_implies, true_implies, decide_eq_true_eq, decide_eq_false_iff_not, forall_const, List.any_cons, List.any_nil, Bool.or_false, subTy, pl1_0, pn1, pl2_0, pl2_1, pn2, pl3_0, pl3_1, pl3_2, pn3, pl4_0, pl4_1, pl4_2, pl4_3, pn4, pl5_0, pl5_1, pl5_2, pl5_3, pl5_4, pn5, pl6_0, pl6_1, pl6_2, pl6_3, pl6_4, pl6_5, pn6, pl7_0, pl7_1, pl7_2, pl7_3, pl7_4, pl7_5, pl7_6, pn7, pl8_0, pl8_1, pl8_2, pl8_3, pl8_4, pl8_5, pl8_6, pl8_7, pn8, pl9_0, pl9_1, pl9_2, pl9_3, pl9_4, pl9_5, pl9_6, pl9_7, pl9_8, pn9] at last'
  cases x with
  | false =>
    simp only [wpS, wpE, wpEs, wpP, wpI, wpT, begin_, hxD, hxD.hxL, catch_, putAll, Ev.unpack, tgSem, wipe, o_add, o_sub, o_mul, o_div, o_mod, o_pow, o_tup, o_lst, o_rep, c_eq, c_ne, c_lt, c_le, c_gt, c_ge, c_isn, c_notn, c_isb, c_in, c_nin, q_int, q_bl, not_true_eq_false, not_false_eq_true, Bool.false_or, Bool.true_or, Bool.or_true, Bool.true_and, Bool.false_and, Bool.and_true, Bool.and_false,  id_eq, lst_new, boolsD, intsD, Option.map_some, List.all_cons, List.all_nil, List.map_append,  q_lit, String.reduceEq, decide_true, decide_false, Bool.not_true, Bool.not_false, Bool.true_eq_false, Bool.false_eq_true, eq_self, i_isn, i_isi, i_isb, i_iss, i_ist, i_isr, t_non, t_int, t_bl, t_str, t_tup, t_fz, b_abs, b_lent, b_lenf, b_lens, b_list, b_tuple, b_int, b_intb, b_sum, b_min2, b_max2, b_all, b_any, b_gcd, b_dict, m_app, m_ext, m_popi, m_pop, x_tup, x_fz, List.map_cons, List.map_nil, List.length_cons, List.length_nil, List.replicate, List.append_nil, List.cons_append, List.nil_append, List.getElem?_cons_zero, List.getElem?_cons_succ, List.set_cons_zero, List.set_cons_succ, Option.some.injEq, D.int.injEq, D.bl.injEq, D.str.injEq, D.tup.injEq, D.ref.injEq, exists_eq_left', exists_eq_left, exists_eq_right, true_and, and_true, Nat.reduceSub, Nat.reduceAdd, Nat.zero_add, reduceCtorEq, false_implies, true_implies, decide_eq_true_eq, decide_eq_false_iff_not, forall_const, List.any_cons, List.any_nil, Bool.or_false, subTy, pl1_0, pn1, pl2_0, pl2_1, pn2, pl3_0, pl3_1, pl3_2, pn3, pl4_0, pl4_1, pl4_2, pl4_3, pn4, pl5_0, pl5_1, pl5_2, pl5_3, pl5_4, pn5, pl6_0, pl6_1, pl6_2, pl6_3, pl6_4, pl6_5, pn6, pl7_0, pl7_1, pl7_2, pl7_3, pl7_4, pl7_5, pl7_6, pn7, pl8_0, pl8_1, pl8_2, pl8_3, pl8_4, pl8_5, pl8_6, pl8_7, pn8, pl9_0, pl9_1, pl9_2, pl9_3, pl9_4, pl9_5, pl9_6, pl9_7, pl9_8, pn9]
    exact last'
  | true =>
    simp only [wpS, wpE, wpEs, wpP, wpI, wpT, begin_, hxD, hxD.hxL, catch_, putAll, Ev.unpack, tgSem, wipe, o_add, o_sub, o_mul, o_div, o_mod, o_pow, o_tup, o_lst, o_rep, c_eq, c_ne, c_lt, c_le, c_gt, c_ge, c_isn, c_notn, c_isb, c_in, c_nin, q_int, q_bl, not_true_eq_false, not_false_eq_true, Bool.false_or, Bool.true_or, Bool.or_true, Bool.true_and, Bool.false_and, Bool.and_true, Bool.and_false,  id_eq, lst_new, boolsD, intsD, Option.map_some, List.all_cons, List.all_nil, List.map_append,  q_lit, String.reduceEq, decide_true, decide_false, Bool.not_true, Bool.not_false, Bool.true_eq_false, Bool.false_eq_true, eq_self, i_isn, i_isi, i_isb, i_iss, i_ist, i_isr, t_non, t_int, t_bl, t_str, t_tup, t_fz, b_abs, b_lent, b_lenf, b_lens, b_list, b_tuple, b_int, b_intb, b_sum, b_min2, b_max2, b_all, b_any, b_gcd, b_dict, m_app, m_ext, m_popi, m_pop, x_tup, x_fz, List.map_cons, List.map_nil, List.length_cons, List.length_nil, List.replicate, List.append_nil, List.cons_append, List.nil_append, List.getElem?_cons_zero, List.getElem?_cons_succ, List.set_cons_zero, List.set_cons_succ, Option.some.injEq, D.int.injEq, D.bl.injEq, D.str.injEq, D.tup.injEq, D.ref.injEq, exists_eq_left', exists_eq_left, exists_eq_right, true_and, and_true, Nat.reduceSub, Nat.reduceAdd, Nat.zero_add, reduceCtorEq, false_implies, true_implies, decide_eq_true_eq, decide_eq_false_iff_not, forall_const, List.any_cons, List.any_nil, Bool.or_false, subTy, pl1_0, pn1, pl2_0, pl2_1, pn2, pl3_0, pl3_1, pl3_2, pn3, pl4_0, pl4_1, pl4_2, pl4_3, pn4, pl5_0, pl5_1, pl5_2, pl5_3, pl5_4, pn5, pl6_0, pl6_1, pl6_2, pl6_3, pl6_4, pl6_5, pn6, pl7_0, pl7_1, pl7_2, pl7_3, pl7_4, pl7_5, pl7_6, pn7, pl8_0, pl8_1, pl8_2, pl8_3, pl8_4, pl8_5, pl8_6, pl8_7, pn8, pl9_0, pl9_1, pl9_2, pl9_3, pl9_4, pl9_5, pl9_6, pl9_7, pl9_8, pn9]
    refine ⟨fun hp => ?_, fun _ => last'⟩
    have hl2 : lstAt (S.set b (.lst [.int (g.fdiv m), .bl true, .int mm, .int c])) b = some [.int (g.fdiv m), .bl true, .int mm, .int c] := lst_set hlt
    simp only [_law_take_1t_1, _law_take_1t_2, _law_take_1t_3, wpS, wpE, wpEs, wpP, wpI, wpT, begin_, hxD, hxD.hxL, catch_, putAll, Ev.unpack, tgSem, wipe, o_add, o_sub, o_mul, o_div, o_mod, o_pow, o_tup, o_lst, o_rep, c_eq, c_ne, c_lt, c_le, c_gt, c_ge, c_isn, c_notn, c_isb, c_in, c_nin, q_int, q_bl, not_true_eq_false, not_false_eq_true, Bool.false_or, Bool.true_or, Bool.or_true, Bool.true_and, Bool.false_and, Bool.and_true, Bool.and_false,  id_eq, lst_new, boolsD, intsD, Option.map_some, List.all_cons, List.all_nil, List.map_append,  q_lit, String.reduceEq, decide_true, decide_false, Bool.not_true, Bool.not_false, Bool.true_eq_false, Bool.false_eq_true, eq_self, i_isn, i_isi, i_isb, i_iss, i_ist, i_isr, t_non, t_int, t_bl, t_str, t_tup, t_fz, b_abs, b_lent, b_lenf, b_lens, b_list, b_tuple, b_int, b_intb, b_sum, b_min2, b_max2, b_all, b_any, b_gcd, b_dict, m_app, m_ext, m_popi, m_pop, x_tup, x_fz, List.map_cons, List.map_nil, List.length_cons, List.length_nil, List.replicate, List.append_nil, List.cons_append, List.nil_append, List.getElem?_cons_zero, List.getElem?_cons_succ, List.set_cons_zero, List.set_cons_succ, Option.some.injEq, D.int.injEq, D.bl.injEq, D.str.injEq, D.tup.injEq, D.ref.injEq, exists_eq_left', exists_eq_left, exists_eq_right, true_and, and_true, Nat.reduceSub, Nat.reduceAdd, Nat.zero_add, reduceCtorEq, false_implies, true_implies, decide_eq_true_eq, decide_eq_false_iff_not, forall_const, List.any_cons, List.any_nil, Bool.or_false, subTy, pl1_0, pn1, pl2_0, pl2_1, pn2, pl3_0, pl3_1, pl3_2, pn3, pl4_0, pl4_1, pl4_2, pl4_3, pn4, pl5_0, pl5_1, pl5_2, pl5_3, pl5_4, pn5, pl6_0, pl6_1, pl6_2, pl6_3, pl6_4, pl6_5, pn6, pl7_0, pl7_1, pl7_2, pl7_3, pl7_4, pl7_5, pl7_6, pn7, pl8_0, pl8_1, pl8_2, pl8_3, pl8_4, pl8_5, pl8_6, pl8_7, pn8, pl9_0, pl9_1, pl9_2, pl9_3, pl9_4, pl9_5, pl9_6, pl9_7, pl9_8, pn9, x_lst hl, st_lst hl, ne_eq, hm', not_false_eq_true, hd]
    exact q _ _ (Int.fmod_nonneg_of_pos _ h0) (Int.fmod_lt_of_pos _ h0) ⟨_, true, mm, c, hl2, Int.fdiv_nonneg hg (by omega), hm0, hm1, hc0, by omega⟩ Fr.set
theorem r__law_cell {ns : List Int} {i : Int} (h0 : 0 ≤ i) (h1 : i ≤ 1000) (q : ∀ z S', Gr S S' → Q (.int z) S') : run sub TT (n + 1) i__law_cell [.fz (ns.map D.int), .int i] S Q E := by
  rw [run_eq at__law_cell rfl]
  have m1 : MulOk 7255 i := mul_ok (a := 13) (b := 10) (by decide) (by omega) (by decide)
  have hn : (1000037 : Int) ≠ 0 := by decide
  simp only [f__law_cell, _law_cell_1, wpS, wpE, wpEs, wpP, wpI, wpT, begin_, hxD, hxD.hxL, catch_, putAll, Ev.unpack, tgSem, wipe, o_add, o_sub, o_mul, o_div, o_mod, o_pow, o_tup, o_lst, o_rep, c_eq, c_ne, c_lt, c_le, c_gt, c_ge, c_isn, c_notn, c_isb, c_in, c_nin, q_int, q_bl, not_true_eq_false, not_false_eq_true, Bool.false_or, Bool.true_or, Bool.or_true, Bool.true_and, Bool.false_and, Bool.and_true, Bool.and_false,  id_eq, lst_new, boolsD, intsD, Option.map_some, List.all_cons, List.all_nil, List.map_append,  q_lit, String.reduceEq, decide_true, decide_false, Bool.not_true, Bool.not_false, Bool.true_eq_false, Bool.false_eq_true, eq_self, i_isn, i_isi, i_isb, i_iss, i_ist, i_isr, t_non, t_int, t_bl, t_str, t_tup, t_fz, b_abs, b_lent, b_lenf, b_lens, b_list, b_tuple, b_int, b_intb, b_sum, b_min2, b_max2, b_all, b_any, b_gcd, b_dict, m_app, m_ext, m_popi, m_pop, x_tup, x_fz, List.map_cons, List.map_nil, List.length_cons, List.length_nil, List.replicate, List.append_nil, List.cons_append, List.nil_append, List.getElem?_cons_zero, List.getElem?_cons_succ, List.set_cons_zero, List.set_cons_succ, Option.some.injEq, D.int.injEq, D.bl.injEq, D.str.injEq, D.tup.injEq, D.ref.injEq, exists_eq_left', exists_eq_left, exists_eq_right, true_and, and_true, Nat.reduceSub, Nat.reduceAdd, Nat.zero_add, reduceCtorEq, false_implies, true_implies, decide_eq_true_eq, decide_eq_false_iff_not, forall_const, List.any_cons, List.any_nil, Bool.or_false, subTy, pl1_0, pn1, pl2_0, pl2_1, pn2, pl3_0, pl3_1, pl3_2, pn3, pl4_0, pl4_1, pl4_2, pl4_3, pn4, pl5_0, pl5_1, pl5_2, pl5_3, pl5_4, pn5, pl6_0, pl6_1, pl6_2, pl6_3, pl6_4, pl6_5, pn6, pl7_0, pl7_1, pl7_2, pl7_3, pl7_4, pl7_5, pl7_6, pn7, pl8_0, pl8_1, pl8_2, pl8_3, pl8_4, pl8_5, pl8_6, pl8_7, pn8, pl9_0, pl9_1, pl9_2, pl9_3, pl9_4, pl9_5, pl9_6, pl9_7, pl9_8, pn9, s_fz, ints_cut, m1, ne_eq, hn, not_false_eq_true]
  refine ⟨fun h => ?_, fun _ => q _ _ Gr.one⟩
  rw [List.length_map] at h ⊢
  rw [place_ok h0 h]
  have hlt : i.toNat < ns.length := by omega
  exact ⟨_, rfl, .int ns[i.toNat], by rw [List.getElem?_map, List.getElem?_eq_getElem hlt]; rfl, q _ _ Gr.refl⟩
theorem r__law_box {z : Int} (q : ∀ l, Box (S ++ [.lst l]) S.length 0 → Q (.ref S.length) (S ++ [.lst l])) : run sub TT (n + 1) i__law_box [.int z] S Q E := by
  rw [run_eq at__law_box rfl]
  have p1 : PowOk 10 18 := ⟨by decide, by decide, by decide⟩
  have hn : (2147483629 : Int) ≠ 0 := by decide
  have hm : (4 : Nat) ≤ most := by decide
  simp only [f__law_box, _law_box_1, wpS, wpE, wpEs, wpP, wpI, wpT, begin_, hxD, hxD.hxL, catch_, putAll, Ev.unpack, tgSem, wipe, o_add, o_sub, o_mul, o_div, o_mod, o_pow, o_tup, o_lst, o_rep, c_eq, c_ne, c_lt, c_le, c_gt, c_ge, c_isn, c_notn, c_isb, c_in, c_nin, q_int, q_bl, not_true_eq_false, not_false_eq_true, Bool.false_or, Bool.true_or, Bool.or_true, Bool.true_and, Bool.false_and, Bool.and_true, Bool.and_false,  id_eq, lst_new, boolsD, intsD, Option.map_some, List.all_cons, List.all_nil, List.map_append,  q_lit, String.reduceEq, decide_true, decide_false, Bool.not_true, Bool.not_false, Bool.true_eq_false, Bool.false_eq_true, eq_self, i_isn, i_isi, i_isb, i_iss, i_ist, i_isr, t_non, t_int, t_bl, t_str, t_tup, t_fz, b_abs, b_lent, b_lenf, b_lens, b_list, b_tuple, b_int, b_intb, b_sum, b_min2, b_max2, b_all, b_any, b_gcd, b_dict, m_app, m_ext, m_popi, m_pop, x_tup, x_fz, List.map_cons, List.map_nil, List.length_cons, List.length_nil, List.replicate, List.append_nil, List.cons_append, List.nil_append, List.getElem?_cons_zero, List.getElem?_cons_succ, List.set_cons_zero, List.set_cons_succ, Option.some.injEq, D.int.injEq, D.bl.injEq, D.str.injEq, D.tup.injEq, D.ref.injEq, exists_eq_left', exists_eq_left, exists_eq_right, true_and, and_true, Nat.reduceSub, Nat.reduceAdd, Nat.zero_add, reduceCtorEq, false_implies, true_implies, decide_eq_true_eq, decide_eq_false_iff_not, forall_const, List.any_cons, List.any_nil, Bool.or_false, subTy, pl1_0, pn1, pl2_0, pl2_1, pn2, pl3_0, pl3_1, pl3_2, pn3, pl4_0, pl4_1, pl4_2, pl4_3, pn4, pl5_0, pl5_1, pl5_2, pl5_3, pl5_4, pn5, pl6_0, pl6_1, pl6_2, pl6_3, pl6_4, pl6_5, pn6, pl7_0, pl7_1, pl7_2, pl7_3, pl7_4, pl7_5, pl7_6, pn7, pl8_0, pl8_1, pl8_2, pl8_3, pl8_4, pl8_5, pl8_6, pl8_7, pn8, pl9_0, pl9_1, pl9_2, pl9_3, pl9_4, pl9_5, pl9_6, pl9_7, pl9_8, pn9, p1, ne_eq, hn, not_false_eq_true, hm]
  refine q _ ⟨_, _, _, _, lst_new, ?_, Int.fmod_nonneg_of_pos _ (by decide), ?_, by decide, by decide⟩
  · split <;> omega
  · exact Int.lt_trans (Int.fmod_lt_of_pos _ (by decide)) (by decide)
theorem r__law_pick {j : Nat} {xs : List D} (hb : Box S b k) (hk : k ≤ 2 ^ 30) (hj : lstAt S j = some xs) (hjb : j ≠ b) (hne : xs ≠ []) (hl : xs.length ≤ 1000) (q : ∀ S' x, x ∈ xs → Box S' b (k + 1) → Fr b S S' → Q x S') :
    run sub TT (n + 2) i__law_pick [.ref b, .ref j] S Q E := by
  rw [run_eq at__law_pick rfl]
  have hp : 0 < xs.length := List.length_pos_iff.mpr hne
  simp only [f__law_pick, _law_pick_1, wpS, wpE, wpEs, wpP, wpI, wpT, begin_, hxD, hxD.hxL, catch_, putAll, Ev.unpack, tgSem, wipe, o_add, o_sub, o_mul, o_div, o_mod, o_pow, o_tup, o_lst, o_rep, c_eq, c_ne, c_lt, c_le, c_gt, c_ge, c_isn, c_notn, c_isb, c_in, c_nin, q_int, q_bl, not_true_eq_false, not_false_eq_true, Bool.false_or, Bool.true_or, Bool.or_true, Bool.true_and, Bool.false_and, Bool.and_true, Bool.and_false,  id_eq, lst_new, boolsD, intsD, Option.map_some, List.all_cons, List.all_nil, List.map_append,  q_lit, String.reduceEq, decide_true, decide_false, Bool.not_true, Bool.not_false, Bool.true_eq_false, Bool.false_eq_true, eq_self, i_isn, i_isi, i_isb, i_iss, i_ist, i_isr, t_non, t_int, t_bl, t_str, t_tup, t_fz, b_abs, b_lent, b_lenf, b_lens, b_list, b_tuple, b_int, b_intb, b_sum, b_min2, b_max2, b_all, b_any, b_gcd, b_dict, m_app, m_ext, m_popi, m_pop, x_tup, x_fz, List.map_cons, List.map_nil, List.length_cons, List.length_nil, List.replicate, List.append_nil, List.cons_append, List.nil_append, List.getElem?_cons_zero, List.getElem?_cons_succ, List.set_cons_zero, List.set_cons_succ, Option.some.injEq, D.int.injEq, D.bl.injEq, D.str.injEq, D.tup.injEq, D.ref.injEq, exists_eq_left', exists_eq_left, exists_eq_right, true_and, and_true, Nat.reduceSub, Nat.reduceAdd, Nat.zero_add, reduceCtorEq, false_implies, true_implies, decide_eq_true_eq, decide_eq_false_iff_not, forall_const, List.any_cons, List.any_nil, Bool.or_false, subTy, pl1_0, pn1, pl2_0, pl2_1, pn2, pl3_0, pl3_1, pl3_2, pn3, pl4_0, pl4_1, pl4_2, pl4_3, pn4, pl5_0, pl5_1, pl5_2, pl5_3, pl5_4, pn5, pl6_0, pl6_1, pl6_2, pl6_3, pl6_4, pl6_5, pn6, pl7_0, pl7_1, pl7_2, pl7_3, pl7_4, pl7_5, pl7_6, pn7, pl8_0, pl8_1, pl8_2, pl8_3, pl8_4, pl8_5, pl8_6, pl8_7, pn8, pl9_0, pl9_1, pl9_2, pl9_3, pl9_4, pl9_5, pl9_6, pl9_7, pl9_8, pn9, b_lenl hj]
  refine r__law_take hb hk (by omega) (by omega) fun S' d h0 h1 hb' fr => ?_
  rw [x_lst (fr.lst hjb hj), place_ok h0 h1]
  have hlt : d.toNat < xs.length := by omega
  exact ⟨_, rfl, _, List.getElem?_eq_getElem hlt, q _ _ (List.getElem_mem hlt) hb' fr⟩
theorem r__law_mixed {j : Nat} {xs : List D} (hb : Box S b k) (hk : k + xs.length ≤ 2 ^ 30) (hj : lstAt S j = some xs) (hl : xs.length ≤ 1000) (q : ∀ S' r ys, ys.Perm xs → lstAt S' r = some ys → S.length ≤ r → Box S' b (k + xs.length) → Fr b S S' → Q (.ref r) S') :
    run sub TT (n + 2) i__law_mixed [.ref b, .ref j] S Q E := by
  rw [run_eq at__law_mixed rfl]
  have hbl : b < S.length := let ⟨_, _, _, _, h, _⟩ := hb.ex; lst_lt h
  simp only [f__law_mixed, _law_mixed_1, wpS, wpE, wpEs, wpP, wpI, wpT, begin_, hxD, hxD.hxL, catch_, putAll, Ev.unpack, tgSem, wipe, o_add, o_sub, o_mul, o_div, o_mod, o_pow, o_tup, o_lst, o_rep, c_eq, c_ne, c_lt, c_le, c_gt, c_ge, c_isn, c_notn, c_isb, c_in, c_nin, q_int, q_bl, not_true_eq_false, not_false_eq_true, Bool.false_or, Bool.true_or, Bool.or_true, Bool.true_and, Bool.false_and, Bool.and_true, Bool.and_false,  id_eq, lst_new, boolsD, intsD, Option.map_some, List.all_cons, List.all_nil, List.map_append,  q_lit, String.reduceEq, decide_true, decide_false, Bool.not_true, Bool.not_false, Bool.true_eq_false, Bool.false_eq_true, eq_self, i_isn, i_isi, i_isb, i_iss, i_ist, i_isr, t_non, t_int, t_bl, t_str, t_tup, t_fz, b_abs, b_lent, b_lenf, b_lens, b_list, b_tuple, b_int, b_intb, b_sum, b_min2, b_max2, b_all, b_any, b_gcd, b_dict, m_app, m_ext, m_popi, m_pop, x_tup, x_fz, List.map_cons, List.map_nil, List.length_cons, List.length_nil, List.replicate, List.append_nil, List.cons_append, List.nil_append, List.getElem?_cons_zero, List.getElem?_cons_succ, List.set_cons_zero, List.set_cons_succ, Option.some.injEq, D.int.injEq, D.bl.injEq, D.str.injEq, D.tup.injEq, D.ref.injEq, exists_eq_left', exists_eq_left, exists_eq_right, true_and, and_true, Nat.reduceSub, Nat.reduceAdd, Nat.zero_add, reduceCtorEq, false_implies, true_implies, decide_eq_true_eq, decide_eq_false_iff_not, forall_const, List.any_cons, List.any_nil, Bool.or_false, subTy, pl1_0, pn1, pl2_0, pl2_1, pn2, pl3_0, pl3_1, pl3_2, pn3, pl4_0, pl4_1, pl4_2, pl4_3, pn4, pl5_0, pl5_1, pl5_2, pl5_3, pl5_4, pn5, pl6_0, pl6_1, pl6_2, pl6_3, pl6_4, pl6_5, pn6, pl7_0, pl7_1, pl7_2, pl7_3, pl7_4, pl7_5, pl7_6, pn7, pl8_0, pl8_1, pl8_2, pl8_3, pl8_4, pl8_5, pl8_6, pl8_7, pn8, pl9_0, pl9_1, pl9_2, pl9_3, pl9_4, pl9_5, pl9_6, pl9_7, pl9_8, pn9, seqOf, hj, most]
  have g0 : Gr S ((S ++ [.lst xs]) ++ [.lst []]) := Gr.one.trans Gr.one
  have hL : lstAt ((S ++ [.lst xs]) ++ [.lst []]) S.length = some xs := lst_old lst_new
  have hF : lstAt ((S ++ [.lst xs]) ++ [.lst []]) (S ++ [Ob.lst xs]).length = some [] := lst_new
  have eF : (S ++ [Ob.lst xs]).length = S.length + 1 := by simp
  rw [eF] at hF ⊢
  refine ⟨by decide, ?_⟩
  simp only [_law_mixed_2, wpS, wpE, wpEs, wpP, wpI, wpT, begin_, hxD, hxD.hxL, catch_, putAll, Ev.unpack, tgSem, wipe, o_add, o_sub, o_mul, o_div, o_mod, o_pow, o_tup, o_lst, o_rep, c_eq, c_ne, c_lt, c_le, c_gt, c_ge, c_isn, c_notn, c_isb, c_in, c_nin, q_int, q_bl, not_true_eq_false, not_false_eq_true, Bool.false_or, Bool.true_or, Bool.or_true, Bool.true_and, Bool.false_and, Bool.and_true, Bool.and_false,  id_eq, lst_new, boolsD, intsD, Option.map_some, List.all_cons, List.all_nil, List.map_append,  q_lit, String.reduceEq, decide_true, decide_false, Bool.not_true, Bool.not_false, Bool.true_eq_false, Bool.false_eq_true, eq_self, i_isn, i_isi, i_isb, i_iss, i_ist, i_isr, t_non, t_int, t_bl, t_str, t_tup, t_fz, b_abs, b_lent, b_lenf, b_lens, b_list, b_tuple, b_int, b_intb, b_sum, b_min2, b_max2, b_all, b_any, b_gcd, b_dict, m_app, m_ext, m_popi, m_pop, x_tup, x_fz, List.map_cons, List.map_nil, List.length_cons, List.length_nil, List.replicate, List.append_nil, List.cons_append, List.nil_append, List.getElem?_cons_zero, List.getElem?_cons_succ, List.set_cons_zero, List.set_cons_succ, Option.some.injEq, D.int.injEq, D.bl.injEq, D.str.injEq, D.tup.injEq, D.ref.injEq, exists_eq_left', exists_eq_left, exists_eq_right, true_and, and_true, Nat.reduceSub, Nat.reduceAdd, Nat.zero_add, reduceCtorEq, false_implies, true_implies, decide_eq_true_eq, decide_eq_false_iff_not, forall_const, List.any_cons, List.any_nil, Bool.or_false, subTy, pl1_0, pn1, pl2_0, pl2_1, pn2, pl3_0, pl3_1, pl3_2, pn3, pl4_0, pl4_1, pl4_2, pl4_3, pn4, pl5_0, pl5_1, pl5_2, pl5_3, pl5_4, pn5, pl6_0, pl6_1, pl6_2, pl6_3, pl6_4, pl6_5, pn6, pl7_0, pl7_1, pl7_2, pl7_3, pl7_4, pl7_5, pl7_6, pn7, pl8_0, pl8_1, pl8_2, pl8_3, pl8_4, pl8_5, pl8_6, pl8_7, pn8, pl9_0, pl9_1, pl9_2, pl9_3, pl9_4, pl9_5, pl9_6, pl9_7, pl9_8, pn9, b_lenl hL, srcRng]
  refine ⟨by omega, by omega, ?_⟩
  let I : List D → Ev.Env → Sto → Prop := fun rest env S' => ∃ ls fs t, env = [some (.ref b), some (.ref j), some (.ref S.length), some (.ref (S.length + 1)), t] ∧ lstAt S' S.length = some ls ∧ lstAt S' (S.length + 1) = some fs ∧ ls.length = rest.length ∧ (fs ++ ls).Perm xs ∧ Box S' b (k + fs.length) ∧ Fr b S S'
  refine walk_I I (fun _ _ _ _ => trivial) (fun x rest env S' hI N hN => ?_) (fun env S' hI => ?_) _ _ _ ⟨xs, [], none, rfl, hL, hF, by rw [rangeD_length]; simp, by simp, hb.gr g0, g0.fr⟩
  · obtain ⟨ls, fs, t, rfl, h1, h2, h3, h4, h5, h6⟩ := hI
    have hlen : fs.length + ls.length = xs.length := by rw [← List.length_append]; exact h4.length_eq
    simp only [wpS, wpE, wpEs, wpP, wpI, wpT, begin_, hxD, hxD.hxL, catch_, putAll, Ev.unpack, tgSem, wipe, o_add, o_sub, o_mul, o_div, o_mod, o_pow, o_tup, o_lst, o_rep, c_eq, c_ne, c_lt, c_le, c_gt, c_ge, c_isn, c_notn, c_isb, c_in, c_nin, q_int, q_bl, not_true_eq_false, not_false_eq_true, Bool.false_or, Bool.true_or, Bool.or_true, Bool.true_and, Bool.false_and, Bool.and_true, Bool.and_false,  id_eq, lst_new, boolsD, intsD, Option.map_some, List.all_cons, List.all_nil, List.map_append,  q_lit, String.reduceEq, decide_true, decide_false, Bool.not_true, Bool.not_false, Bool.true_eq_false, Bool.false_eq_true, eq_self, i_isn, i_isi, i_isb, i_iss, i_ist, i_isr, t_non, t_int, t_bl, t_str, t_tup, t_fz, b_abs, b_lent, b_lenf, b_lens, b_list, b_tuple, b_int, b_intb, b_sum, b_min2, b_max2, b_all, b_any, b_gcd, b_dict, m_app, m_ext, m_popi, m_pop, x_tup, x_fz, List.map_cons, List.map_nil, List.length_cons, List.length_nil, List.replicate, List.append_nil, List.cons_append, List.nil_append, List.getElem?_cons_zero, List.getElem?_cons_succ, List.set_cons_zero, List.set_cons_succ, Option.some.injEq, D.int.injEq, D.bl.injEq, D.str.injEq, D.tup.injEq, D.ref.injEq, exists_eq_left', exists_eq_left, exists_eq_right, true_and, and_true, Nat.reduceSub, Nat.reduceAdd, Nat.zero_add, reduceCtorEq, false_implies, true_implies, decide_eq_true_eq, decide_eq_false_iff_not, forall_const, List.any_cons, List.any_nil, Bool.or_false, subTy, pl1_0, pn1, pl2_0, pl2_1, pn2, pl3_0, pl3_1, pl3_2, pn3, pl4_0, pl4_1, pl4_2, pl4_3, pn4, pl5_0, pl5_1, pl5_2, pl5_3, pl5_4, pn5, pl6_0, pl6_1, pl6_2, pl6_3, pl6_4, pl6_5, pn6, pl7_0, pl7_1, pl7_2, pl7_3, pl7_4, pl7_5, pl7_6, pn7, pl8_0, pl8_1, pl8_2, pl8_3, pl8_4, pl8_5, pl8_6, pl8_7, pn8, pl9_0, pl9_1, pl9_2, pl9_3, pl9_4, pl9_5, pl9_6, pl9_7, pl9_8, pn9, _law_mixed_2b_1]
    refine ⟨⟨_, _, rfl, h2⟩, ⟨_, _, rfl, h1⟩, ?_⟩
    rw [b_lenl h1]
    rw [List.length_cons] at h3
    refine r__law_take h5 (by omega) (by omega) (by omega) fun S2 d d0 d1 hb2 fr2 => ?_
    have h1' := fr2.lst (by omega) h1
    have h2' := fr2.lst (by omega) h2
    have hlt : d.toNat < ls.length := by omega
    simp only [wpS, wpE, wpEs, wpP, wpI, wpT, begin_, hxD, hxD.hxL, catch_, putAll, Ev.unpack, tgSem, wipe, o_add, o_sub, o_mul, o_div, o_mod, o_pow, o_tup, o_lst, o_rep, c_eq, c_ne, c_lt, c_le, c_gt, c_ge, c_isn, c_notn, c_isb, c_in, c_nin, q_int, q_bl, not_true_eq_false, not_false_eq_true, Bool.false_or, Bool.true_or, Bool.or_true, Bool.true_and, Bool.false_and, Bool.and_true, Bool.and_false,  id_eq, lst_new, boolsD, intsD, Option.map_some, List.all_cons, List.all_nil, List.map_append,  q_lit, String.reduceEq, decide_true, decide_false, Bool.not_true, Bool.not_false, Bool.true_eq_false, Bool.false_eq_true, eq_self, i_isn, i_isi, i_isb, i_iss, i_ist, i_isr, t_non, t_int, t_bl, t_str, t_tup, t_fz, b_abs, b_lent, b_lenf, b_lens, b_list, b_tuple, b_int, b_intb, b_sum, b_min2, b_max2, b_all, b_any, b_gcd, b_dict, m_app, m_ext, m_popi, m_pop, x_tup, x_fz, List.map_cons, List.map_nil, List.length_cons, List.length_nil, List.replicate, List.append_nil, List.cons_append, List.nil_append, List.getElem?_cons_zero, List.getElem?_cons_succ, List.set_cons_zero, List.set_cons_succ, Option.some.injEq, D.int.injEq, D.bl.injEq, D.str.injEq, D.tup.injEq, D.ref.injEq, exists_eq_left', exists_eq_left, exists_eq_right, true_and, and_true, Nat.reduceSub, Nat.reduceAdd, Nat.zero_add, reduceCtorEq, false_implies, true_implies, decide_eq_true_eq, decide_eq_false_iff_not, forall_const, List.any_cons, List.any_nil, Bool.or_false, subTy, pl1_0, pn1, pl2_0, pl2_1, pn2, pl3_0, pl3_1, pl3_2, pn3, pl4_0, pl4_1, pl4_2, pl4_3, pn4, pl5_0, pl5_1, pl5_2, pl5_3, pl5_4, pn5, pl6_0, pl6_1, pl6_2, pl6_3, pl6_4, pl6_5, pn6, pl7_0, pl7_1, pl7_2, pl7_3, pl7_4, pl7_5, pl7_6, pn7, pl8_0, pl8_1, pl8_2, pl8_3, pl8_4, pl8_5, pl8_6, pl8_7, pn8, pl9_0, pl9_1, pl9_2, pl9_3, pl9_4, pl9_5, pl9_6, pl9_7, pl9_8, pn9]
    refine ⟨ls, h1', _, place_ok d0 d1, ls[d.toNat], List.getElem?_eq_getElem hlt, ?_⟩
    have h2'' : lstAt (S2.set S.length (.lst (ls.eraseIdx d.toNat))) (S.length + 1) = some fs := by rw [lst_set_ne (by omega)]; exact h2'
    refine ⟨fs, h2'', by rw [most_eq]; omega, ?_⟩
    have hS2 : S.length + 1 < S2.length := lst_lt h2'
    refine hN _ _ ⟨ls.eraseIdx d.toNat, fs ++ [ls[d.toNat]], _, rfl, ?_, ?_, ?_, ?_, ?_, ?_⟩
    · rw [lst_set_ne (by omega)]
      exact lst_set (by omega)
    · exact lst_set (by simp; omega)
    · rw [List.length_eraseIdx_of_lt hlt]; omega
    · rw [List.append_assoc]
      exact ((perm_erase hlt).append_left fs).trans h4
    · obtain ⟨g, y, m, c, e1, e2⟩ := hb2.ex
      refine ⟨g, y, m, c, ?_, ?_⟩
      · rw [lst_set_ne (by omega), lst_set_ne (by omega)]
        exact e1
      · rw [List.length_append]
        exact e2
    · refine ⟨?_, fun i hi hil => ?_⟩
      · simp only [List.length_set]
        exact Nat.le_trans h6.le fr2.le
      · rw [List.getElem?_set_ne (by omega), List.getElem?_set_ne (by omega), fr2.at_ i hi (Nat.lt_of_lt_of_le hil h6.le), h6.at_ i hi hil]
  · obtain ⟨ls, fs, t, rfl, h1, h2, h3, h4, h5, h6⟩ := hI
    simp only [_law_mixed_3, wpS, wpE, wpEs, wpP, wpI, wpT, begin_, hxD, hxD.hxL, catch_, putAll, Ev.unpack, tgSem, wipe, o_add, o_sub, o_mul, o_div, o_mod, o_pow, o_tup, o_lst, o_rep, c_eq, c_ne, c_lt, c_le, c_gt, c_ge, c_isn, c_notn, c_isb, c_in, c_nin, q_int, q_bl, not_true_eq_false, not_false_eq_true, Bool.false_or, Bool.true_or, Bool.or_true, Bool.true_and, Bool.false_and, Bool.and_true, Bool.and_false,  id_eq, lst_new, boolsD, intsD, Option.map_some, List.all_cons, List.all_nil, List.map_append,  q_lit, String.reduceEq, decide_true, decide_false, Bool.not_true, Bool.not_false, Bool.true_eq_false, Bool.false_eq_true, eq_self, i_isn, i_isi, i_isb, i_iss, i_ist, i_isr, t_non, t_int, t_bl, t_str, t_tup, t_fz, b_abs, b_lent, b_lenf, b_lens, b_list, b_tuple, b_int, b_intb, b_sum, b_min2, b_max2, b_all, b_any, b_gcd, b_dict, m_app, m_ext, m_popi, m_pop, x_tup, x_fz, List.map_cons, List.map_nil, List.length_cons, List.length_nil, List.replicate, List.append_nil, List.cons_append, List.nil_append, List.getElem?_cons_zero, List.getElem?_cons_succ, List.set_cons_zero, List.set_cons_succ, Option.some.injEq, D.int.injEq, D.bl.injEq, D.str.injEq, D.tup.injEq, D.ref.injEq, exists_eq_left', exists_eq_left, exists_eq_right, true_and, and_true, Nat.reduceSub, Nat.reduceAdd, Nat.zero_add, reduceCtorEq, false_implies, true_implies, decide_eq_true_eq, decide_eq_false_iff_not, forall_const, List.any_cons, List.any_nil, Bool.or_false, subTy, pl1_0, pn1, pl2_0, pl2_1, pn2, pl3_0, pl3_1, pl3_2, pn3, pl4_0, pl4_1, pl4_2, pl4_3, pn4, pl5_0, pl5_1, pl5_2, pl5_3, pl5_4, pn5, pl6_0, pl6_1, pl6_2, pl6_3, pl6_4, pl6_5, pn6, pl7_0, pl7_1, pl7_2, pl7_3, pl7_4, pl7_5, pl7_6, pn7, pl8_0, pl8_1, pl8_2, pl8_3, pl8_4, pl8_5, pl8_6, pl8_7, pn8, pl9_0, pl9_1, pl9_2, pl9_3, pl9_4, pl9_5, pl9_6, pl9_7, pl9_8, pn9]
    have : ls = [] := List.eq_nil_of_length_eq_zero h3
    subst this
    rw [List.append_nil] at h4
    rw [h4.length_eq] at h5
    exact q _ _ _ h4 h2 (by omega) h5 h6
end
end EvL
end
section
set_option Elab.async false
set_option linter.all false
set_option maxRecDepth 100000
set_option maxHeartbeats 400000
set_option exponentiation.threshold 10000
namespace EvL
open PySem (Str)
open Ev
section
variable {n : Nat} {S : Sto} {Q : Po} {E : Xo} {b k : Nat}
/-- the end of [..] == [] -/
theorem none_left {S S1 : Sto} {xs : List D} {k : Bool → Sto → Prop} (g : Gr S S1) (q : ∀ S', Gr S S' → k true S') :
    eqSem (.ref S1.length) (.ref (S1 ++ [Ob.lst ([] ++ xs.filterMap fun _ => none)]).length) ((S1 ++ [Ob.lst ([] ++ xs.filterMap fun _ => none)]) ++ [Ob.lst []]) fun r => k r ((S1 ++ [Ob.lst ([] ++ xs.filterMap fun _ => none)]) ++ [Ob.lst []]) := by
  have e : ([] ++ xs.filterMap fun _ => none : List D) = [] := by simp
  rw [e]
  exact q_nil (lst_old lst_new) lst_new (q _ (g.trans (Gr.one.trans Gr.one)))
theorem rangeD_mem {x : D} {l : Int} (h : x ∈ rangeD 0 l) : ∃ i : Nat, (i : Int) < l ∧ x = .int (i : Int) := by
  unfold rangeD at h
  obtain ⟨i, hi, e⟩ := List.mem_map.mp h
  rw [List.mem_range] at hi
  exact ⟨i, by omega, by rw [← e, Int.zero_add]⟩
theorem same_str {z : Str} {m : Nat} (h1 : PySem.PyData.strOk z = true) (h2 : z.length ≤ 1000) (q : ∀ S', Gr S S' → Q (.bl true) S') : run sub TT (m + 1) i__law_same [.str z, .str z] S Q E := by
  rw [run_eq at__law_same rfl]
  have hm0 : (0 : Nat) ≤ most := by decide
  have hm1 : z.length ≤ most := by rw [most_eq]; omega
  simp only [f__law_same, _law_same_1, _law_same_2, _law_same_3, wpS, wpE, wpEs, wpP, wpI, wpT, begin_, hxD, hxD.hxL, catch_, putAll, Ev.unpack, tgSem, wipe, o_add, o_sub, o_mul, o_div, o_mod, o_pow, o_tup, o_lst, o_rep, c_eq, c_ne, c_lt, c_le, c_gt, c_ge, c_isn, c_notn, c_isb, c_in, c_nin, q_int, q_bl, not_true_eq_false, not_false_eq_true, Bool.false_or, Bool.true_or, Bool.or_true, Bool.true_and, Bool.false_and, Bool.and_true, Bool.and_false,  id_eq, lst_new, boolsD, intsD, Option.map_some, List.all_cons, List.all_nil, List.map_append,  q_lit, String.reduceEq, decide_true, decide_false, Bool.not_true, Bool.not_false, Bool.true_eq_false, Bool.false_eq_true, eq_self, i_isn, i_isi, i_isb, i_iss, i_ist, i_isr, t_non, t_int, t_bl, t_str, t_tup, t_fz, b_abs, b_lent, b_lenf, b_lens, b_list, b_tuple, b_int, b_intb, b_sum, b_min2, b_max2, b_all, b_any, b_gcd, b_dict, m_app, m_ext, m_popi, m_pop, x_tup, x_fz, List.map_cons, List.map_nil, List.length_cons, List.length_nil, List.replicate, List.append_nil, List.cons_append, List.nil_append, List.getElem?_cons_zero, List.getElem?_cons_succ, List.set_cons_zero, List.set_cons_succ, Option.some.injEq, D.int.injEq, D.bl.injEq, D.str.injEq, D.tup.injEq, D.ref.injEq, exists_eq_left', exists_eq_left, exists_eq_right, true_and, and_true, Nat.reduceSub, Nat.reduceAdd, Nat.zero_add, reduceCtorEq, false_implies, true_implies, decide_eq_true_eq, decide_eq_false_iff_not, forall_const, List.any_cons, List.any_nil, Bool.or_false, subTy, pl1_0, pn1, pl2_0, pl2_1, pn2, pl3_0, pl3_1, pl3_2, pn3, pl4_0, pl4_1, pl4_2, pl4_3, pn4, pl5_0, pl5_1, pl5_2, pl5_3, pl5_4, pn5, pl6_0, pl6_1, pl6_2, pl6_3, pl6_4, pl6_5, pn6, pl7_0, pl7_1, pl7_2, pl7_3, pl7_4, pl7_5, pl7_6, pn7, pl8_0, pl8_1, pl8_2, pl8_3, pl8_4, pl8_5, pl8_6, pl8_7, pn8, pl9_0, pl9_1, pl9_2, pl9_3, pl9_4, pl9_5, pl9_6, pl9_7, pl9_8, pn9, hm1, srcRng]
  refine ⟨by omega, by omega, gather_R (R := Gr S) (fun _ => none) _ _ _ Gr.refl (fun _ _ => trivial) (fun x hx S1 g1 kk hk => ?_) (by rw [rangeD_length, most_eq]; simp; omega) fun S1 g1 => ⟨hm0, none_left g1 fun S' g => q S' g⟩⟩
  obtain ⟨i, hi, rfl⟩ := rangeD_mem hx
  simp only [wpS, wpE, wpEs, wpP, wpI, wpT, begin_, hxD, hxD.hxL, catch_, putAll, Ev.unpack, tgSem, wipe, o_add, o_sub, o_mul, o_div, o_mod, o_pow, o_tup, o_lst, o_rep, c_eq, c_ne, c_lt, c_le, c_gt, c_ge, c_isn, c_notn, c_isb, c_in, c_nin, q_int, q_bl, not_true_eq_false, not_false_eq_true, Bool.false_or, Bool.true_or, Bool.or_true, Bool.true_and, Bool.false_and, Bool.and_true, Bool.and_false,  id_eq, lst_new, boolsD, intsD, Option.map_some, List.all_cons, List.all_nil, List.map_append,  q_lit, String.reduceEq, decide_true, decide_false, Bool.not_true, Bool.not_false, Bool.true_eq_false, Bool.false_eq_true, eq_self, i_isn, i_isi, i_isb, i_iss, i_ist, i_isr, t_non, t_int, t_bl, t_str, t_tup, t_fz, b_abs, b_lent, b_lenf, b_lens, b_list, b_tuple, b_int, b_intb, b_sum, b_min2, b_max2, b_all, b_any, b_gcd, b_dict, m_app, m_ext, m_popi, m_pop, x_tup, x_fz, List.map_cons, List.map_nil, List.length_cons, List.length_nil, List.replicate, List.append_nil, List.cons_append, List.nil_append, List.getElem?_cons_zero, List.getElem?_cons_succ, List.set_cons_zero, List.set_cons_succ, Option.some.injEq, D.int.injEq, D.bl.injEq, D.str.injEq, D.tup.injEq, D.ref.injEq, exists_eq_left', exists_eq_left, exists_eq_right, true_and, and_true, Nat.reduceSub, Nat.reduceAdd, Nat.zero_add, reduceCtorEq, false_implies, true_implies, decide_eq_true_eq, decide_eq_false_iff_not, forall_const, List.any_cons, List.any_nil, Bool.or_false, subTy, pl1_0, pn1, pl2_0, pl2_1, pn2, pl3_0, pl3_1, pl3_2, pn3, pl4_0, pl4_1, pl4_2, pl4_3, pn4, pl5_0, pl5_1, pl5_2, pl5_3, pl5_4, pn5, pl6_0, pl6_1, pl6_2, pl6_3, pl6_4, pl6_5, pn6, pl7_0, pl7_1, pl7_2, pl7_3, pl7_4, pl7_5, pl7_6, pn7, pl8_0, pl8_1, pl8_2, pl8_3, pl8_4, pl8_5, pl8_6, pl8_7, pn8, pl9_0, pl9_1, pl9_2, pl9_3, pl9_4, pl9_5, pl9_6, pl9_7, pl9_8, pn9, s_str, hm1]
  have hlen : z.cps.toList.length = z.length := Array.length_toList
  have hi' : i < z.cps.toList.length := by omega
  refine ⟨_, i, _, rfl, place_ok (Int.natCast_nonneg _) (by omega), List.getElem?_eq_getElem (by simpa using hi'), hm1, ?_⟩
  have ec : cut z.cps.toList (some (i : Int)) (some ((i : Int) + 1)) = [z.cps.toList[i]] := by
    unfold cut clip
    dsimp only
    rw [if_neg (by omega), if_neg (by omega)]
    have e1 : min ((i : Int)).toNat z.cps.toList.length = i := by omega
    have e2 : min (((i : Int) + 1)).toNat z.cps.toList.length = i + 1 := by omega
    rw [e1, e2, show i + 1 - i = 1 by omega, List.drop_eq_getElem_cons hi']
    rfl
  rw [ec]
  have hk1 : PySem.PyData.strOk ⟨#[z.cps.toList[i]]⟩ = true := by
    unfold PySem.PyData.strOk at h1 ⊢
    rw [Array.all_eq_true'] at h1
    have := h1 z.cps.toList[i] (by rw [← Array.mem_toList_iff]; exact List.getElem_mem hi')
    simpa using this
  simp only [Int.toNat_natCast]
  rw [q_str hk1 hk1]
  simp only [decide_true, Bool.not_true, Bool.false_eq_true, false_implies, true_and, true_implies]
  exact hk S1 g1
theorem r__law_same : ∀ (d : Nat) {told due : D} {S : Sto} {Q : Po} {E : Xo} (m : Nat), d + 2 ≤ m → Sm b S d told due → (∀ S', Gr S S' → Q (.bl true) S') → run sub TT m i__law_same [told, due] S Q E := by
  intro d
  induction d with
  | zero =>
    intro told due S Q E m hm h q
    obtain ⟨m, rfl⟩ : ∃ j, m = j + 1 := ⟨m - 1, by omega⟩
    cases h with
    | non => rw [run_eq at__law_same rfl]; simp only [f__law_same, _law_same_1, wpS, wpE, wpEs, wpP, wpI, wpT, begin_, hxD, hxD.hxL, catch_, putAll, Ev.unpack, tgSem, wipe, o_add, o_sub, o_mul, o_div, o_mod, o_pow, o_tup, o_lst, o_rep, c_eq, c_ne, c_lt, c_le, c_gt, c_ge, c_isn, c_notn, c_isb, c_in, c_nin, q_int, q_bl, not_true_eq_false, not_false_eq_true, Bool.false_or, Bool.true_or, Bool.or_true, Bool.true_and, Bool.false_and, Bool.and_true, Bool.and_false,  id_eq, lst_new, boolsD, intsD, Option.map_some, List.all_cons, List.all_nil, List.map_append,  q_lit, String.reduceEq, decide_true, decide_false, Bool.not_true, Bool.not_false, Bool.true_eq_false, Bool.false_eq_true, eq_self, i_isn, i_isi, i_isb, i_iss, i_ist, i_isr, t_non, t_int, t_bl, t_str, t_tup, t_fz, b_abs, b_lent, b_lenf, b_lens, b_list, b_tuple, b_int, b_intb, b_sum, b_min2, b_max2, b_all, b_any, b_gcd, b_dict, m_app, m_ext, m_popi, m_pop, x_tup, x_fz, List.map_cons, List.map_nil, List.length_cons, List.length_nil, List.replicate, List.append_nil, List.cons_append, List.nil_append, List.getElem?_cons_zero, List.getElem?_cons_succ, List.set_cons_zero, List.set_cons_succ, Option.some.injEq, D.int.injEq, D.bl.injEq, D.str.injEq, D.tup.injEq, D.ref.injEq, exists_eq_left', exists_eq_left, exists_eq_right, true_and, and_true, Nat.reduceSub, Nat.reduceAdd, Nat.zero_add, reduceCtorEq, false_implies, true_implies, decide_eq_true_eq, decide_eq_false_iff_not, forall_const, List.any_cons, List.any_nil, Bool.or_false, subTy, pl1_0, pn1, pl2_0, pl2_1, pn2, pl3_0, pl3_1, pl3_2, pn3, pl4_0, pl4_1, pl4_2, pl4_3, pn4, pl5_0, pl5_1, pl5_2, pl5_3, pl5_4, pn5, pl6_0, pl6_1, pl6_2, pl6_3, pl6_4, pl6_5, pn6, pl7_0, pl7_1, pl7_2, pl7_3, pl7_4, pl7_5, pl7_6, pn7, pl8_0, pl8_1, pl8_2, pl8_3, pl8_4, pl8_5, pl8_6, pl8_7, pn8, pl9_0, pl9_1, pl9_2, pl9_3, pl9_4, pl9_5, pl9_6, pl9_7, pl9_8, pn9]; exact q S Gr.refl
    | bl x => rw [run_eq at__law_same rfl]; simp only [f__law_same, _law_same_1, wpS, wpE, wpEs, wpP, wpI, wpT, begin_, hxD, hxD.hxL, catch_, putAll, Ev.unpack, tgSem, wipe, o_add, o_sub, o_mul, o_div, o_mod, o_pow, o_tup, o_lst, o_rep, c_eq, c_ne, c_lt, c_le, c_gt, c_ge, c_isn, c_notn, c_isb, c_in, c_nin, q_int, q_bl, not_true_eq_false, not_false_eq_true, Bool.false_or, Bool.true_or, Bool.or_true, Bool.true_and, Bool.false_and, Bool.and_true, Bool.and_false,  id_eq, lst_new, boolsD, intsD, Option.map_some, List.all_cons, List.all_nil, List.map_append,  q_lit, String.reduceEq, decide_true, decide_false, Bool.not_true, Bool.not_false, Bool.true_eq_false, Bool.false_eq_true, eq_self, i_isn, i_isi, i_isb, i_iss, i_ist, i_isr, t_non, t_int, t_bl, t_str, t_tup, t_fz, b_abs, b_lent, b_lenf, b_lens, b_list, b_tuple, b_int, b_intb, b_sum, b_min2, b_max2, b_all, b_any, b_gcd, b_dict, m_app, m_ext, m_popi, m_pop, x_tup, x_fz, List.map_cons, List.map_nil, List.length_cons, List.length_nil, List.replicate, List.append_nil, List.cons_append, List.nil_append, List.getElem?_cons_zero, List.getElem?_cons_succ, List.set_cons_zero, List.set_cons_succ, Option.some.injEq, D.int.injEq, D.bl.injEq, D.str.injEq, D.tup.injEq, D.ref.injEq, exists_eq_left', exists_eq_left, exists_eq_right, true_and, and_true, Nat.reduceSub, Nat.reduceAdd, Nat.zero_add, reduceCtorEq, false_implies, true_implies, decide_eq_true_eq, decide_eq_false_iff_not, forall_const, List.any_cons, List.any_nil, Bool.or_false, subTy, pl1_0, pn1, pl2_0, pl2_1, pn2, pl3_0, pl3_1, pl3_2, pn3, pl4_0, pl4_1, pl4_2, pl4_3, pn4, pl5_0, pl5_1, pl5_2, pl5_3, pl5_4, pn5, pl6_0, pl6_1, pl6_2, pl6_3, pl6_4, pl6_5, pn6, pl7_0, pl7_1, pl7_2, pl7_3, pl7_4, pl7_5, pl7_6, pn7, pl8_0, pl8_1, pl8_2, pl8_3, pl8_4, pl8_5, pl8_6, pl8_7, pn8, pl9_0, pl9_1, pl9_2, pl9_3, pl9_4, pl9_5, pl9_6, pl9_7, pl9_8, pn9]; exact q S Gr.refl
    | int i => rw [run_eq at__law_same rfl]; simp only [f__law_same, _law_same_1, _law_same_2, wpS, wpE, wpEs, wpP, wpI, wpT, begin_, hxD, hxD.hxL, catch_, putAll, Ev.unpack, tgSem, wipe, o_add, o_sub, o_mul, o_div, o_mod, o_pow, o_tup, o_lst, o_rep, c_eq, c_ne, c_lt, c_le, c_gt, c_ge, c_isn, c_notn, c_isb, c_in, c_nin, q_int, q_bl, not_true_eq_false, not_false_eq_true, Bool.false_or, Bool.true_or, Bool.or_true, Bool.true_and, Bool.false_and, Bool.and_true, Bool.and_false,  id_eq, lst_new, boolsD, intsD, Option.map_some, List.all_cons, List.all_nil, List.map_append,  q_lit, String.reduceEq, decide_true, decide_false, Bool.not_true, Bool.not_false, Bool.true_eq_false, Bool.false_eq_true, eq_self, i_isn, i_isi, i_isb, i_iss, i_ist, i_isr, t_non, t_int, t_bl, t_str, t_tup, t_fz, b_abs, b_lent, b_lenf, b_lens, b_list, b_tuple, b_int, b_intb, b_sum, b_min2, b_max2, b_all, b_any, b_gcd, b_dict, m_app, m_ext, m_popi, m_pop, x_tup, x_fz, List.map_cons, List.map_nil, List.length_cons, List.length_nil, List.replicate, List.append_nil, List.cons_append, List.nil_append, List.getElem?_cons_zero, List.getElem?_cons_succ, List.set_cons_zero, List.set_cons_succ, Option.some.injEq, D.int.injEq, D.bl.injEq, D.str.injEq, D.tup.injEq, D.ref.injEq, exists_eq_left', exists_eq_left, exists_eq_right, true_and, and_true, Nat.reduceSub, Nat.reduceAdd, Nat.zero_add, reduceCtorEq, false_implies, true_implies, decide_eq_true_eq, decide_eq_false_iff_not, forall_const, List.any_cons, List.any_nil, Bool.or_false, subTy, pl1_0, pn1, pl2_0, pl2_1, pn2, pl3_0, pl3_1, pl3_2, pn3, pl4_0, pl4_1, pl4_2, pl4_3, pn4, pl5_0, pl5_1, pl5_2, pl5_3, pl5_4, pn5, pl6_0, pl6_1, pl6_2, pl6_3, pl6_4, pl6_5, pn6, pl7_0, pl7_1, pl7_2, pl7_3, pl7_4, pl7_5, pl7_6, pn7, pl8_0, pl8_1, pl8_2, pl8_3, pl8_4, pl8_5, pl8_6, pl8_7, pn8, pl9_0, pl9_1, pl9_2, pl9_3, pl9_4, pl9_5, pl9_6, pl9_7, pl9_8, pn9, Int.sub_self]; exact q S Gr.refl
    | str h1 h2 => exact same_str h1 h2 q
  | succ d ih =>
    intro told due S Q E m hm h q
    obtain ⟨m, rfl⟩ : ∃ j, m = j + 1 := ⟨m - 1, by omega⟩
    cases h with
    | non => rw [run_eq at__law_same rfl]; simp only [f__law_same, _law_same_1, wpS, wpE, wpEs, wpP, wpI, wpT, begin_, hxD, hxD.hxL, catch_, putAll, Ev.unpack, tgSem, wipe, o_add, o_sub, o_mul, o_div, o_mod, o_pow, o_tup, o_lst, o_rep, c_eq, c_ne, c_lt, c_le, c_gt, c_ge, c_isn, c_notn, c_isb, c_in, c_nin, q_int, q_bl, not_true_eq_false, not_false_eq_true, Bool.false_or, Bool.true_or, Bool.or_true, Bool.true_and, Bool.false_and, Bool.and_true, Bool.and_false,  id_eq, lst_new, boolsD, intsD, Option.map_some, List.all_cons, List.all_nil, List.map_append,  q_lit, String.reduceEq, decide_true, decide_false, Bool.not_true, Bool.not_false, Bool.true_eq_false, Bool.false_eq_true, eq_self, i_isn, i_isi, i_isb, i_iss, i_ist, i_isr, t_non, t_int, t_bl, t_str, t_tup, t_fz, b_abs, b_lent, b_lenf, b_lens, b_list, b_tuple, b_int, b_intb, b_sum, b_min2, b_max2, b_all, b_any, b_gcd, b_dict, m_app, m_ext, m_popi, m_pop, x_tup, x_fz, List.map_cons, List.map_nil, List.length_cons, List.length_nil, List.replicate, List.append_nil, List.cons_append, List.nil_append, List.getElem?_cons_zero, List.getElem?_cons_succ, List.set_cons_zero, List.set_cons_succ, Option.some.injEq, D.int.injEq, D.bl.injEq, D.str.injEq, D.tup.injEq, D.ref.injEq, exists_eq_left', exists_eq_left, exists_eq_right, true_and, and_true, Nat.reduceSub, Nat.reduceAdd, Nat.zero_add, reduceCtorEq, false_implies, true_implies, decide_eq_true_eq, decide_eq_false_iff_not, forall_const, List.any_cons, List.any_nil, Bool.or_false, subTy, pl1_0, pn1, pl2_0, pl2_1, pn2, pl3_0, pl3_1, pl3_2, pn3, pl4_0, pl4_1, pl4_2, pl4_3, pn4, pl5_0, pl5_1, pl5_2, pl5_3, pl5_4, pn5, pl6_0, pl6_1, pl6_2, pl6_3, pl6_4, pl6_5, pn6, pl7_0, pl7_1, pl7_2, pl7_3, pl7_4, pl7_5, pl7_6, pn7, pl8_0, pl8_1, pl8_2, pl8_3, pl8_4, pl8_5, pl8_6, pl8_7, pn8, pl9_0, pl9_1, pl9_2, pl9_3, pl9_4, pl9_5, pl9_6, pl9_7, pl9_8, pn9]; exact q S Gr.refl
    | bl x => rw [run_eq at__law_same rfl]; simp only [f__law_same, _law_same_1, wpS, wpE, wpEs, wpP, wpI, wpT, begin_, hxD, hxD.hxL, catch_, putAll, Ev.unpack, tgSem, wipe, o_add, o_sub, o_mul, o_div, o_mod, o_pow, o_tup, o_lst, o_rep, c_eq, c_ne, c_lt, c_le, c_gt, c_ge, c_isn, c_notn, c_isb, c_in, c_nin, q_int, q_bl, not_true_eq_false, not_false_eq_true, Bool.false_or, Bool.true_or, Bool.or_true, Bool.true_and, Bool.false_and, Bool.and_true, Bool.and_false,  id_eq, lst_new, boolsD, intsD, Option.map_some, List.all_cons, List.all_nil, List.map_append,  q_lit, String.reduceEq, decide_true, decide_false, Bool.not_true, Bool.not_false, Bool.true_eq_false, Bool.false_eq_true, eq_self, i_isn, i_isi, i_isb, i_iss, i_ist, i_isr, t_non, t_int, t_bl, t_str, t_tup, t_fz, b_abs, b_lent, b_lenf, b_lens, b_list, b_tuple, b_int, b_intb, b_sum, b_min2, b_max2, b_all, b_any, b_gcd, b_dict, m_app, m_ext, m_popi, m_pop, x_tup, x_fz, List.map_cons, List.map_nil, List.length_cons, List.length_nil, List.replicate, List.append_nil, List.cons_append, List.nil_append, List.getElem?_cons_zero, List.getElem?_cons_succ, List.set_cons_zero, List.set_cons_succ, Option.some.injEq, D.int.injEq, D.bl.injEq, D.str.injEq, D.tup.injEq, D.ref.injEq, exists_eq_left', exists_eq_left, exists_eq_right, true_and, and_true, Nat.reduceSub, Nat.reduceAdd, Nat.zero_add, reduceCtorEq, false_implies, true_implies, decide_eq_true_eq, decide_eq_false_iff_not, forall_const, List.any_cons, List.any_nil, Bool.or_false, subTy, pl1_0, pn1, pl2_0, pl2_1, pn2, pl3_0, pl3_1, pl3_2, pn3, pl4_0, pl4_1, pl4_2, pl4_3, pn4, pl5_0, pl5_1, pl5_2, pl5_3, pl5_4, pn5, pl6_0, pl6_1, pl6_2, pl6_3, pl6_4, pl6_5, pn6, pl7_0, pl7_1, pl7_2, pl7_3, pl7_4, pl7_5, pl7_6, pn7, pl8_0, pl8_1, pl8_2, pl8_3, pl8_4, pl8_5, pl8_6, pl8_7, pn8, pl9_0, pl9_1, pl9_2, pl9_3, pl9_4, pl9_5, pl9_6, pl9_7, pl9_8, pn9]; exact q S Gr.refl
    | int i => rw [run_eq at__law_same rfl]; simp only [f__law_same, _law_same_1, _law_same_2, wpS, wpE, wpEs, wpP, wpI, wpT, begin_, hxD, hxD.hxL, catch_, putAll, Ev.unpack, tgSem, wipe, o_add, o_sub, o_mul, o_div, o_mod, o_pow, o_tup, o_lst, o_rep, c_eq, c_ne, c_lt, c_le, c_gt, c_ge, c_isn, c_notn, c_isb, c_in, c_nin, q_int, q_bl, not_true_eq_false, not_false_eq_true, Bool.false_or, Bool.true_or, Bool.or_true, Bool.true_and, Bool.false_and, Bool.and_true, Bool.and_false,  id_eq, lst_new, boolsD, intsD, Option.map_some, List.all_cons, List.all_nil, List.map_append,  q_lit, String.reduceEq, decide_true, decide_false, Bool.not_true, Bool.not_false, Bool.true_eq_false, Bool.false_eq_true, eq_self, i_isn, i_isi, i_isb, i_iss, i_ist, i_isr, t_non, t_int, t_bl, t_str, t_tup, t_fz, b_abs, b_lent, b_lenf, b_lens, b_list, b_tuple, b_int, b_intb, b_sum, b_min2, b_max2, b_all, b_any, b_gcd, b_dict, m_app, m_ext, m_popi, m_pop, x_tup, x_fz, List.map_cons, List.map_nil, List.length_cons, List.length_nil, List.replicate, List.append_nil, List.cons_append, List.nil_append, List.getElem?_cons_zero, List.getElem?_cons_succ, List.set_cons_zero, List.set_cons_succ, Option.some.injEq, D.int.injEq, D.bl.injEq, D.str.injEq, D.tup.injEq, D.ref.injEq, exists_eq_left', exists_eq_left, exists_eq_right, true_and, and_true, Nat.reduceSub, Nat.reduceAdd, Nat.zero_add, reduceCtorEq, false_implies, true_implies, decide_eq_true_eq, decide_eq_false_iff_not, forall_const, List.any_cons, List.any_nil, Bool.or_false, subTy, pl1_0, pn1, pl2_0, pl2_1, pn2, pl3_0, pl3_1, pl3_2, pn3, pl4_0, pl4_1, pl4_2, pl4_3, pn4, pl5_0, pl5_1, pl5_2, pl5_3, pl5_4, pn5, pl6_0, pl6_1, pl6_2, pl6_3, pl6_4, pl6_5, pn6, pl7_0, pl7_1, pl7_2, pl7_3, pl7_4, pl7_5, pl7_6, pn7, pl8_0, pl8_1, pl8_2, pl8_3, pl8_4, pl8_5, pl8_6, pl8_7, pn8, pl9_0, pl9_1, pl9_2, pl9_3, pl9_4, pl9_5, pl9_6, pl9_7, pl9_8, pn9, Int.sub_self]; exact q S Gr.refl
    | str h1 h2 => exact same_str h1 h2 q
    | @tup _ xs ys hl hs =>
      rw [run_eq at__law_same rfl]
      have el := hs.len
      have hm0 : (0 : Nat) ≤ most := by decide
      simp only [f__law_same, _law_same_1, _law_same_2, _law_same_3, _law_same_4, _law_same_5, wpS, wpE, wpEs, wpP, wpI, wpT, begin_, hxD, hxD.hxL, catch_, putAll, Ev.unpack, tgSem, wipe, o_add, o_sub, o_mul, o_div, o_mod, o_pow, o_tup, o_lst, o_rep, c_eq, c_ne, c_lt, c_le, c_gt, c_ge, c_isn, c_notn, c_isb, c_in, c_nin, q_int, q_bl, not_true_eq_false, not_false_eq_true, Bool.false_or, Bool.true_or, Bool.or_true, Bool.true_and, Bool.false_and, Bool.and_true, Bool.and_false,  id_eq, lst_new, boolsD, intsD, Option.map_some, List.all_cons, List.all_nil, List.map_append,  q_lit, String.reduceEq, decide_true, decide_false, Bool.not_true, Bool.not_false, Bool.true_eq_false, Bool.false_eq_true, eq_self, i_isn, i_isi, i_isb, i_iss, i_ist, i_isr, t_non, t_int, t_bl, t_str, t_tup, t_fz, b_abs, b_lent, b_lenf, b_lens, b_list, b_tuple, b_int, b_intb, b_sum, b_min2, b_max2, b_all, b_any, b_gcd, b_dict, m_app, m_ext, m_popi, m_pop, x_tup, x_fz, List.map_cons, List.map_nil, List.length_cons, List.length_nil, List.replicate, List.append_nil, List.cons_append, List.nil_append, List.getElem?_cons_zero, List.getElem?_cons_succ, List.set_cons_zero, List.set_cons_succ, Option.some.injEq, D.int.injEq, D.bl.injEq, D.str.injEq, D.tup.injEq, D.ref.injEq, exists_eq_left', exists_eq_left, exists_eq_right, true_and, and_true, Nat.reduceSub, Nat.reduceAdd, Nat.zero_add, reduceCtorEq, false_implies, true_implies, decide_eq_true_eq, decide_eq_false_iff_not, forall_const, List.any_cons, List.any_nil, Bool.or_false, subTy, pl1_0, pn1, pl2_0, pl2_1, pn2, pl3_0, pl3_1, pl3_2, pn3, pl4_0, pl4_1, pl4_2, pl4_3, pn4, pl5_0, pl5_1, pl5_2, pl5_3, pl5_4, pn5, pl6_0, pl6_1, pl6_2, pl6_3, pl6_4, pl6_5, pn6, pl7_0, pl7_1, pl7_2, pl7_3, pl7_4, pl7_5, pl7_6, pn7, pl8_0, pl8_1, pl8_2, pl8_3, pl8_4, pl8_5, pl8_6, pl8_7, pn8, pl9_0, pl9_1, pl9_2, pl9_3, pl9_4, pl9_5, pl9_6, pl9_7, pl9_8, pn9, el]
      simp only [_law_same_6, wpS, wpE, wpEs, wpP, wpI, wpT, begin_, hxD, hxD.hxL, catch_, putAll, Ev.unpack, tgSem, wipe, o_add, o_sub, o_mul, o_div, o_mod, o_pow, o_tup, o_lst, o_rep, c_eq, c_ne, c_lt, c_le, c_gt, c_ge, c_isn, c_notn, c_isb, c_in, c_nin, q_int, q_bl, not_true_eq_false, not_false_eq_true, Bool.false_or, Bool.true_or, Bool.or_true, Bool.true_and, Bool.false_and, Bool.and_true, Bool.and_false,  id_eq, lst_new, boolsD, intsD, Option.map_some, List.all_cons, List.all_nil, List.map_append,  q_lit, String.reduceEq, decide_true, decide_false, Bool.not_true, Bool.not_false, Bool.true_eq_false, Bool.false_eq_true, eq_self, i_isn, i_isi, i_isb, i_iss, i_ist, i_isr, t_non, t_int, t_bl, t_str, t_tup, t_fz, b_abs, b_lent, b_lenf, b_lens, b_list, b_tuple, b_int, b_intb, b_sum, b_min2, b_max2, b_all, b_any, b_gcd, b_dict, m_app, m_ext, m_popi, m_pop, x_tup, x_fz, List.map_cons, List.map_nil, List.length_cons, List.length_nil, List.replicate, List.append_nil, List.cons_append, List.nil_append, List.getElem?_cons_zero, List.getElem?_cons_succ, List.set_cons_zero, List.set_cons_succ, Option.some.injEq, D.int.injEq, D.bl.injEq, D.str.injEq, D.tup.injEq, D.ref.injEq, exists_eq_left', exists_eq_left, exists_eq_right, true_and, and_true, Nat.reduceSub, Nat.reduceAdd, Nat.zero_add, reduceCtorEq, false_implies, true_implies, decide_eq_true_eq, decide_eq_false_iff_not, forall_const, List.any_cons, List.any_nil, Bool.or_false, subTy, pl1_0, pn1, pl2_0, pl2_1, pn2, pl3_0, pl3_1, pl3_2, pn3, pl4_0, pl4_1, pl4_2, pl4_3, pn4, pl5_0, pl5_1, pl5_2, pl5_3, pl5_4, pn5, pl6_0, pl6_1, pl6_2, pl6_3, pl6_4, pl6_5, pn6, pl7_0, pl7_1, pl7_2, pl7_3, pl7_4, pl7_5, pl7_6, pn7, pl8_0, pl8_1, pl8_2, pl8_3, pl8_4, pl8_5, pl8_6, pl8_7, pn8, pl9_0, pl9_1, pl9_2, pl9_3, pl9_4, pl9_5, pl9_6, pl9_7, pl9_8, pn9, srcRng]
      refine ⟨by omega, by omega, gather_R (R := Gr S) (fun _ => none) _ _ _ Gr.refl (fun _ _ => trivial) (fun x hx S1 g1 kk hk => ?_) (by rw [rangeD_length, most_eq]; simp; omega) fun S1 g1 => ⟨hm0, none_left g1 fun S' g => q S' g⟩⟩
      obtain ⟨i, hi, rfl⟩ := rangeD_mem hx
      simp only [wpS, wpE, wpEs, wpP, wpI, wpT, begin_, hxD, hxD.hxL, catch_, putAll, Ev.unpack, tgSem, wipe, o_add, o_sub, o_mul, o_div, o_mod, o_pow, o_tup, o_lst, o_rep, c_eq, c_ne, c_lt, c_le, c_gt, c_ge, c_isn, c_notn, c_isb, c_in, c_nin, q_int, q_bl, not_true_eq_false, not_false_eq_true, Bool.false_or, Bool.true_or, Bool.or_true, Bool.true_and, Bool.false_and, Bool.and_true, Bool.and_false,  id_eq, lst_new, boolsD, intsD, Option.map_some, List.all_cons, List.all_nil, List.map_append,  q_lit, String.reduceEq, decide_true, decide_false, Bool.not_true, Bool.not_false, Bool.true_eq_false, Bool.false_eq_true, eq_self, i_isn, i_isi, i_isb, i_iss, i_ist, i_isr, t_non, t_int, t_bl, t_str, t_tup, t_fz, b_abs, b_lent, b_lenf, b_lens, b_list, b_tuple, b_int, b_intb, b_sum, b_min2, b_max2, b_all, b_any, b_gcd, b_dict, m_app, m_ext, m_popi, m_pop, x_tup, x_fz, List.map_cons, List.map_nil, List.length_cons, List.length_nil, List.replicate, List.append_nil, List.cons_append, List.nil_append, List.getElem?_cons_zero, List.getElem?_cons_succ, List.set_cons_zero, List.set_cons_succ, Option.some.injEq, D.int.injEq, D.bl.injEq, D.str.injEq, D.tup.injEq, D.ref.injEq, exists_eq_left', exists_eq_left, exists_eq_right, true_and, and_true, Nat.reduceSub, Nat.reduceAdd, Nat.zero_add, reduceCtorEq, false_implies, true_implies, decide_eq_true_eq, decide_eq_false_iff_not, forall_const, List.any_cons, List.any_nil, Bool.or_false, subTy, pl1_0, pn1, pl2_0, pl2_1, pn2, pl3_0, pl3_1, pl3_2, pn3, pl4_0, pl4_1, pl4_2, pl4_3, pn4, pl5_0, pl5_1, pl5_2, pl5_3, pl5_4, pn5, pl6_0, pl6_1, pl6_2, pl6_3, pl6_4, pl6_5, pn6, pl7_0, pl7_1, pl7_2, pl7_3, pl7_4, pl7_5, pl7_6, pn7, pl8_0, pl8_1, pl8_2, pl8_3, pl8_4, pl8_5, pl8_6, pl8_7, pn8, pl9_0, pl9_1, pl9_2, pl9_3, pl9_4, pl9_5, pl9_6, pl9_7, pl9_8, pn9]
      have h1 : i < xs.length := by omega
      have h2 : i < ys.length := by omega
      rw [place_ok (Int.natCast_nonneg _) (by omega), place_ok (Int.natCast_nonneg _) (by omega)]
      simp only [Int.toNat_natCast, wpS, wpE, wpEs, wpP, wpI, wpT, begin_, hxD, hxD.hxL, catch_, putAll, Ev.unpack, tgSem, wipe, o_add, o_sub, o_mul, o_div, o_mod, o_pow, o_tup, o_lst, o_rep, c_eq, c_ne, c_lt, c_le, c_gt, c_ge, c_isn, c_notn, c_isb, c_in, c_nin, q_int, q_bl, not_true_eq_false, not_false_eq_true, Bool.false_or, Bool.true_or, Bool.or_true, Bool.true_and, Bool.false_and, Bool.and_true, Bool.and_false,  id_eq, lst_new, boolsD, intsD, Option.map_some, List.all_cons, List.all_nil, List.map_append,  q_lit, String.reduceEq, decide_true, decide_false, Bool.not_true, Bool.not_false, Bool.true_eq_false, Bool.false_eq_true, eq_self, i_isn, i_isi, i_isb, i_iss, i_ist, i_isr, t_non, t_int, t_bl, t_str, t_tup, t_fz, b_abs, b_lent, b_lenf, b_lens, b_list, b_tuple, b_int, b_intb, b_sum, b_min2, b_max2, b_all, b_any, b_gcd, b_dict, m_app, m_ext, m_popi, m_pop, x_tup, x_fz, List.map_cons, List.map_nil, List.length_cons, List.length_nil, List.replicate, List.append_nil, List.cons_append, List.nil_append, List.getElem?_cons_zero, List.getElem?_cons_succ, List.set_cons_zero, List.set_cons_succ, Option.some.injEq, D.int.injEq, D.bl.injEq, D.str.injEq, D.tup.injEq, D.ref.injEq, exists_eq_left', exists_eq_left, exists_eq_right, true_and, and_true, Nat.reduceSub, Nat.reduceAdd, Nat.zero_add, reduceCtorEq, false_implies, true_implies, decide_eq_true_eq, decide_eq_false_iff_not, forall_const, List.any_cons, List.any_nil, Bool.or_false, subTy, pl1_0, pn1, pl2_0, pl2_1, pn2, pl3_0, pl3_1, pl3_2, pn3, pl4_0, pl4_1, pl4_2, pl4_3, pn4, pl5_0, pl5_1, pl5_2, pl5_3, pl5_4, pn5, pl6_0, pl6_1, pl6_2, pl6_3, pl6_4, pl6_5, pn6, pl7_0, pl7_1, pl7_2, pl7_3, pl7_4, pl7_5, pl7_6, pn7, pl8_0, pl8_1, pl8_2, pl8_3, pl8_4, pl8_5, pl8_6, pl8_7, pn8, pl9_0, pl9_1, pl9_2, pl9_3, pl9_4, pl9_5, pl9_6, pl9_7, pl9_8, pn9, List.getElem?_eq_getElem h1, List.getElem?_eq_getElem h2]
      exact ih m (by omega) ((hs.get h1 h2).fr g1.fr) fun S2 g2 => ⟨true, rfl, fun z => (by cases z), fun _ => hk S2 (g1.trans g2)⟩
    | @lst _ a c xs ys n1 n2 l1 l2 hl hs =>
      rw [run_eq at__law_same rfl]
      have el := hs.len
      have hm0 : (0 : Nat) ≤ most := by decide
      simp only [f__law_same, _law_same_1, _law_same_2, _law_same_3, _law_same_4, _law_same_5, wpS, wpE, wpEs, wpP, wpI, wpT, begin_, hxD, hxD.hxL, catch_, putAll, Ev.unpack, tgSem, wipe, o_add, o_sub, o_mul, o_div, o_mod, o_pow, o_tup, o_lst, o_rep, c_eq, c_ne, c_lt, c_le, c_gt, c_ge, c_isn, c_notn, c_isb, c_in, c_nin, q_int, q_bl, not_true_eq_false, not_false_eq_true, Bool.false_or, Bool.true_or, Bool.or_true, Bool.true_and, Bool.false_and, Bool.and_true, Bool.and_false,  id_eq, lst_new, boolsD, intsD, Option.map_some, List.all_cons, List.all_nil, List.map_append,  q_lit, String.reduceEq, decide_true, decide_false, Bool.not_true, Bool.not_false, Bool.true_eq_false, Bool.false_eq_true, eq_self, i_isn, i_isi, i_isb, i_iss, i_ist, i_isr, t_non, t_int, t_bl, t_str, t_tup, t_fz, b_abs, b_lent, b_lenf, b_lens, b_list, b_tuple, b_int, b_intb, b_sum, b_min2, b_max2, b_all, b_any, b_gcd, b_dict, m_app, m_ext, m_popi, m_pop, x_tup, x_fz, List.map_cons, List.map_nil, List.length_cons, List.length_nil, List.replicate, List.append_nil, List.cons_append, List.nil_append, List.getElem?_cons_zero, List.getElem?_cons_succ, List.set_cons_zero, List.set_cons_succ, Option.some.injEq, D.int.injEq, D.bl.injEq, D.str.injEq, D.tup.injEq, D.ref.injEq, exists_eq_left', exists_eq_left, exists_eq_right, true_and, and_true, Nat.reduceSub, Nat.reduceAdd, Nat.zero_add, reduceCtorEq, false_implies, true_implies, decide_eq_true_eq, decide_eq_false_iff_not, forall_const, List.any_cons, List.any_nil, Bool.or_false, subTy, pl1_0, pn1, pl2_0, pl2_1, pn2, pl3_0, pl3_1, pl3_2, pn3, pl4_0, pl4_1, pl4_2, pl4_3, pn4, pl5_0, pl5_1, pl5_2, pl5_3, pl5_4, pn5, pl6_0, pl6_1, pl6_2, pl6_3, pl6_4, pl6_5, pn6, pl7_0, pl7_1, pl7_2, pl7_3, pl7_4, pl7_5, pl7_6, pn7, pl8_0, pl8_1, pl8_2, pl8_3, pl8_4, pl8_5, pl8_6, pl8_7, pn8, pl9_0, pl9_1, pl9_2, pl9_3, pl9_4, pl9_5, pl9_6, pl9_7, pl9_8, pn9, el, t_lst l1, t_lst l2, b_lenl l1, b_lenl l2]
      simp only [_law_same_6, wpS, wpE, wpEs, wpP, wpI, wpT, begin_, hxD, hxD.hxL, catch_, putAll, Ev.unpack, tgSem, wipe, o_add, o_sub, o_mul, o_div, o_mod, o_pow, o_tup, o_lst, o_rep, c_eq, c_ne, c_lt, c_le, c_gt, c_ge, c_isn, c_notn, c_isb, c_in, c_nin, q_int, q_bl, not_true_eq_false, not_false_eq_true, Bool.false_or, Bool.true_or, Bool.or_true, Bool.true_and, Bool.false_and, Bool.and_true, Bool.and_false,  id_eq, lst_new, boolsD, intsD, Option.map_some, List.all_cons, List.all_nil, List.map_append,  q_lit, String.reduceEq, decide_true, decide_false, Bool.not_true, Bool.not_false, Bool.true_eq_false, Bool.false_eq_true, eq_self, i_isn, i_isi, i_isb, i_iss, i_ist, i_isr, t_non, t_int, t_bl, t_str, t_tup, t_fz, b_abs, b_lent, b_lenf, b_lens, b_list, b_tuple, b_int, b_intb, b_sum, b_min2, b_max2, b_all, b_any, b_gcd, b_dict, m_app, m_ext, m_popi, m_pop, x_tup, x_fz, List.map_cons, List.map_nil, List.length_cons, List.length_nil, List.replicate, List.append_nil, List.cons_append, List.nil_append, List.getElem?_cons_zero, List.getElem?_cons_succ, List.set_cons_zero, List.set_cons_succ, Option.some.injEq, D.int.injEq, D.bl.injEq, D.str.injEq, D.tup.injEq, D.ref.injEq, exists_eq_left', exists_eq_left, exists_eq_right, true_and, and_true, Nat.reduceSub, Nat.reduceAdd, Nat.zero_add, reduceCtorEq, false_implies, true_implies, decide_eq_true_eq, decide_eq_false_iff_not, forall_const, List.any_cons, List.any_nil, Bool.or_false, subTy, pl1_0, pn1, pl2_0, pl2_1, pn2, pl3_0, pl3_1, pl3_2, pn3, pl4_0, pl4_1, pl4_2, pl4_3, pn4, pl5_0, pl5_1, pl5_2, pl5_3, pl5_4, pn5, pl6_0, pl6_1, pl6_2, pl6_3, pl6_4, pl6_5, pn6, pl7_0, pl7_1, pl7_2, pl7_3, pl7_4, pl7_5, pl7_6, pn7, pl8_0, pl8_1, pl8_2, pl8_3, pl8_4, pl8_5, pl8_6, pl8_7, pn8, pl9_0, pl9_1, pl9_2, pl9_3, pl9_4, pl9_5, pl9_6, pl9_7, pl9_8, pn9, srcRng, b_lenl l2]
      refine ⟨by omega, by omega, gather_R (R := Gr S) (fun _ => none) _ _ _ Gr.refl (fun _ _ => trivial) (fun x hx S1 g1 kk hk => ?_) (by rw [rangeD_length, most_eq]; simp; omega) fun S1 g1 => ⟨hm0, none_left g1 fun S' g => q S' g⟩⟩
      obtain ⟨i, hi, rfl⟩ := rangeD_mem hx
      have h1 : i < xs.length := by omega
      have h2 : i < ys.length := by omega
      simp only [wpS, wpE, wpEs, wpP, wpI, wpT, begin_, hxD, hxD.hxL, catch_, putAll, Ev.unpack, tgSem, wipe, o_add, o_sub, o_mul, o_div, o_mod, o_pow, o_tup, o_lst, o_rep, c_eq, c_ne, c_lt, c_le, c_gt, c_ge, c_isn, c_notn, c_isb, c_in, c_nin, q_int, q_bl, not_true_eq_false, not_false_eq_true, Bool.false_or, Bool.true_or, Bool.or_true, Bool.true_and, Bool.false_and, Bool.and_true, Bool.and_false,  id_eq, lst_new, boolsD, intsD, Option.map_some, List.all_cons, List.all_nil, List.map_append,  q_lit, String.reduceEq, decide_true, decide_false, Bool.not_true, Bool.not_false, Bool.true_eq_false, Bool.false_eq_true, eq_self, i_isn, i_isi, i_isb, i_iss, i_ist, i_isr, t_non, t_int, t_bl, t_str, t_tup, t_fz, b_abs, b_lent, b_lenf, b_lens, b_list, b_tuple, b_int, b_intb, b_sum, b_min2, b_max2, b_all, b_any, b_gcd, b_dict, m_app, m_ext, m_popi, m_pop, x_tup, x_fz, List.map_cons, List.map_nil, List.length_cons, List.length_nil, List.replicate, List.append_nil, List.cons_append, List.nil_append, List.getElem?_cons_zero, List.getElem?_cons_succ, List.set_cons_zero, List.set_cons_succ, Option.some.injEq, D.int.injEq, D.bl.injEq, D.str.injEq, D.tup.injEq, D.ref.injEq, exists_eq_left', exists_eq_left, exists_eq_right, true_and, and_true, Nat.reduceSub, Nat.reduceAdd, Nat.zero_add, reduceCtorEq, false_implies, true_implies, decide_eq_true_eq, decide_eq_false_iff_not, forall_const, List.any_cons, List.any_nil, Bool.or_false, subTy, pl1_0, pn1, pl2_0, pl2_1, pn2, pl3_0, pl3_1, pl3_2, pn3, pl4_0, pl4_1, pl4_2, pl4_3, pn4, pl5_0, pl5_1, pl5_2, pl5_3, pl5_4, pn5, pl6_0, pl6_1, pl6_2, pl6_3, pl6_4, pl6_5, pn6, pl7_0, pl7_1, pl7_2, pl7_3, pl7_4, pl7_5, pl7_6, pn7, pl8_0, pl8_1, pl8_2, pl8_3, pl8_4, pl8_5, pl8_6, pl8_7, pn8, pl9_0, pl9_1, pl9_2, pl9_3, pl9_4, pl9_5, pl9_6, pl9_7, pl9_8, pn9, x_lst (g1.lst l1), x_lst (g1.lst l2)]
      rw [place_ok (Int.natCast_nonneg _) (by omega), place_ok (Int.natCast_nonneg _) (by omega)]
      simp only [Int.toNat_natCast, wpS, wpE, wpEs, wpP, wpI, wpT, begin_, hxD, hxD.hxL, catch_, putAll, Ev.unpack, tgSem, wipe, o_add, o_sub, o_mul, o_div, o_mod, o_pow, o_tup, o_lst, o_rep, c_eq, c_ne, c_lt, c_le, c_gt, c_ge, c_isn, c_notn, c_isb, c_in, c_nin, q_int, q_bl, not_true_eq_false, not_false_eq_true, Bool.false_or, Bool.true_or, Bool.or_true, Bool.true_and, Bool.false_and, Bool.and_true, Bool.and_false,  id_eq, lst_new, boolsD, intsD, Option.map_some, List.all_cons, List.all_nil, List.map_append,  q_lit, String.reduceEq, decide_true, decide_false, Bool.not_true, Bool.not_false, Bool.true_eq_false, Bool.false_eq_true, eq_self, i_isn, i_isi, i_isb, i_iss, i_ist, i_isr, t_non, t_int, t_bl, t_str, t_tup, t_fz, b_abs, b_lent, b_lenf, b_lens, b_list, b_tuple, b_int, b_intb, b_sum, b_min2, b_max2, b_all, b_any, b_gcd, b_dict, m_app, m_ext, m_popi, m_pop, x_tup, x_fz, List.map_cons, List.map_nil, List.length_cons, List.length_nil, List.replicate, List.append_nil, List.cons_append, List.nil_append, List.getElem?_cons_zero, List.getElem?_cons_succ, List.set_cons_zero, List.set_cons_succ, Option.some.injEq, D.int.injEq, D.bl.injEq, D.str.injEq, D.tup.injEq, D.ref.injEq, exists_eq_left', exists_eq_left, exists_eq_right, true_and, and_true, Nat.reduceSub, Nat.reduceAdd, Nat.zero_add, reduceCtorEq, false_implies, true_implies, decide_eq_true_eq, decide_eq_false_iff_not, forall_const, List.any_cons, List.any_nil, Bool.or_false, subTy, pl1_0, pn1, pl2_0, pl2_1, pn2, pl3_0, pl3_1, pl3_2, pn3, pl4_0, pl4_1, pl4_2, pl4_3, pn4, pl5_0, pl5_1, pl5_2, pl5_3, pl5_4, pn5, pl6_0, pl6_1, pl6_2, pl6_3, pl6_4, pl6_5, pn6, pl7_0, pl7_1, pl7_2, pl7_3, pl7_4, pl7_5, pl7_6, pn7, pl8_0, pl8_1, pl8_2, pl8_3, pl8_4, pl8_5, pl8_6, pl8_7, pn8, pl9_0, pl9_1, pl9_2, pl9_3, pl9_4, pl9_5, pl9_6, pl9_7, pl9_8, pn9, List.getElem?_eq_getElem h1, List.getElem?_eq_getElem h2]
      exact ih m (by omega) ((hs.get h1 h2).fr g1.fr) fun S2 g2 => ⟨true, rfl, fun z => (by cases z), fun _ => hk S2 (g1.trans g2)⟩
end
end EvL
end
section
set_option Elab.async false
set_option linter.all false
set_option maxRecDepth 100000
set_option maxHeartbeats 400000
set_option exponentiation.threshold 20000
namespace EvL
open PySem (Str)
open Ev
section
variable {n : Nat} {S : Sto} {Q : Po} {E : Xo} {b k : Nat}
theorem half {a c : Nat} (h : c ≤ a) (h0 : c ≠ 0) : 2 * (c * (a % c)) ≤ a * c := by
  have h1 : a % c < c := Nat.mod_lt _ (by omega)
  have h2 : 2 * (a % c) ≤ a := by
    have := Nat.div_add_mod a c
    have hq : 1 ≤ a / c := Nat.div_pos h (by omega)
    have : c * 1 ≤ c * (a / c) := Nat.mul_le_mul_left c hq
    omega
  calc 2 * (c * (a % c)) = c * (2 * (a % c)) := by rw [Nat.mul_left_comm]
    _ ≤ c * a := Nat.mul_le_mul_left c h2
    _ = a * c := Nat.mul_comm _ _
theorem r__law_divisor {x y : Int} (hx : x.natAbs < 2 ^ 9000) (hy : y.natAbs < 2 ^ 9000) (q : Q (.int (Nat.gcd x.natAbs y.natAbs : Nat)) S) : run sub TT (n + 1) i__law_divisor [.int x, .int y] S Q E := by
  rw [run_eq at__law_divisor rfl]
  have ab : ∀ z : Int, (if z < 0 then -z else z) = (z.natAbs : Nat) := fun z => by split <;> omega
  simp only [f__law_divisor, _law_divisor_1, wpS, wpE, wpEs, wpP, wpI, wpT, begin_, hxD, hxD.hxL, catch_, putAll, Ev.unpack, tgSem, wipe, o_add, o_sub, o_mul, o_div, o_mod, o_pow, o_tup, o_lst, o_rep, c_eq, c_ne, c_lt, c_le, c_gt, c_ge, c_isn, c_notn, c_isb, c_in, c_nin, q_int, q_bl, not_true_eq_false, not_false_eq_true, Bool.false_or, Bool.true_or, Bool.or_true, Bool.true_and, Bool.false_and, Bool.and_true, Bool.and_false,  id_eq, lst_new, boolsD, intsD, Option.map_some, List.all_cons, List.all_nil, List.map_append,  q_lit, String.reduceEq, decide_true, decide_false, Bool.not_true, Bool.not_false, Bool.true_eq_false, Bool.false_eq_true, eq_self, i_isn, i_isi, i_isb, i_iss, i_ist, i_isr, t_non, t_int, t_bl, t_str, t_tup, t_fz, b_abs, b_lent, b_lenf, b_lens, b_list, b_tuple, b_int, b_intb, b_sum, b_min2, b_max2, b_all, b_any, b_gcd, b_dict, m_app, m_ext, m_popi, m_pop, x_tup, x_fz, List.map_cons, List.map_nil, List.length_cons, List.length_nil, List.replicate, List.append_nil, List.cons_append, List.nil_append, List.getElem?_cons_zero, List.getElem?_cons_succ, List.set_cons_zero, List.set_cons_succ, Option.some.injEq, D.int.injEq, D.bl.injEq, D.str.injEq, D.tup.injEq, D.ref.injEq, exists_eq_left', exists_eq_left, exists_eq_right, true_and, and_true, Nat.reduceSub, Nat.reduceAdd, Nat.zero_add, reduceCtorEq, false_implies, true_implies, decide_eq_true_eq, decide_eq_false_iff_not, forall_const, List.any_cons, List.any_nil, Bool.or_false, subTy, pl1_0, pn1, pl2_0, pl2_1, pn2, pl3_0, pl3_1, pl3_2, pn3, pl4_0, pl4_1, pl4_2, pl4_3, pn4, pl5_0, pl5_1, pl5_2, pl5_3, pl5_4, pn5, pl6_0, pl6_1, pl6_2, pl6_3, pl6_4, pl6_5, pn6, pl7_0, pl7_1, pl7_2, pl7_3, pl7_4, pl7_5, pl7_6, pn7, pl8_0, pl8_1, pl8_2, pl8_3, pl8_4, pl8_5, pl8_6, pl8_7, pn8, pl9_0, pl9_1, pl9_2, pl9_3, pl9_4, pl9_5, pl9_6, pl9_7, pl9_8, pn9, ab]
  simp only [_law_divisor_2, wpS, wpE, wpEs, wpP, wpI, wpT, begin_, hxD, hxD.hxL, catch_, putAll, Ev.unpack, tgSem, wipe, o_add, o_sub, o_mul, o_div, o_mod, o_pow, o_tup, o_lst, o_rep, c_eq, c_ne, c_lt, c_le, c_gt, c_ge, c_isn, c_notn, c_isb, c_in, c_nin, q_int, q_bl, not_true_eq_false, not_false_eq_true, Bool.false_or, Bool.true_or, Bool.or_true, Bool.true_and, Bool.false_and, Bool.and_true, Bool.and_false,  id_eq, lst_new, boolsD, intsD, Option.map_some, List.all_cons, List.all_nil, List.map_append,  q_lit, String.reduceEq, decide_true, decide_false, Bool.not_true, Bool.not_false, Bool.true_eq_false, Bool.false_eq_true, eq_self, i_isn, i_isi, i_isb, i_iss, i_ist, i_isr, t_non, t_int, t_bl, t_str, t_tup, t_fz, b_abs, b_lent, b_lenf, b_lens, b_list, b_tuple, b_int, b_intb, b_sum, b_min2, b_max2, b_all, b_any, b_gcd, b_dict, m_app, m_ext, m_popi, m_pop, x_tup, x_fz, List.map_cons, List.map_nil, List.length_cons, List.length_nil, List.replicate, List.append_nil, List.cons_append, List.nil_append, List.getElem?_cons_zero, List.getElem?_cons_succ, List.set_cons_zero, List.set_cons_succ, Option.some.injEq, D.int.injEq, D.bl.injEq, D.str.injEq, D.tup.injEq, D.ref.injEq, exists_eq_left', exists_eq_left, exists_eq_right, true_and, and_true, Nat.reduceSub, Nat.reduceAdd, Nat.zero_add, reduceCtorEq, false_implies, true_implies, decide_eq_true_eq, decide_eq_false_iff_not, forall_const, List.any_cons, List.any_nil, Bool.or_false, subTy, pl1_0, pn1, pl2_0, pl2_1, pn2, pl3_0, pl3_1, pl3_2, pn3, pl4_0, pl4_1, pl4_2, pl4_3, pn4, pl5_0, pl5_1, pl5_2, pl5_3, pl5_4, pn5, pl6_0, pl6_1, pl6_2, pl6_3, pl6_4, pl6_5, pn6, pl7_0, pl7_1, pl7_2, pl7_3, pl7_4, pl7_5, pl7_6, pn7, pl8_0, pl8_1, pl8_2, pl8_3, pl8_4, pl8_5, pl8_6, pl8_7, pn8, pl9_0, pl9_1, pl9_2, pl9_3, pl9_4, pl9_5, pl9_6, pl9_7, pl9_8, pn9, srcRng]
  refine ⟨by decide, by decide, ?_⟩
  let I : List D → Ev.Env → Sto → Prop := fun rest env S' => ∃ (a c : Nat) (t : Option D), env = [some (.int (a : Int)), some (.int (c : Int)), t] ∧ Nat.gcd a c = Nat.gcd x.natAbs y.natAbs ∧ ((c ≤ a ∧ a * c < 2 ^ rest.length) ∨ (1 ≤ rest.length ∧ a * c < 2 ^ (rest.length - 1))) ∧ S' = S
  refine walk_I I (fun _ _ _ _ => trivial) (fun z rest env S' hI N hN => ?_) (fun env S' hI => ?_) _ _ _ ⟨x.natAbs, y.natAbs, none, rfl, rfl, .inr ?_, rfl⟩
  · obtain ⟨a, c, t, rfl, h1, h2, rfl⟩ := hI
    simp only [wpS, wpE, wpEs, wpP, wpI, wpT, begin_, hxD, hxD.hxL, catch_, putAll, Ev.unpack, tgSem, wipe, o_add, o_sub, o_mul, o_div, o_mod, o_pow, o_tup, o_lst, o_rep, c_eq, c_ne, c_lt, c_le, c_gt, c_ge, c_isn, c_notn, c_isb, c_in, c_nin, q_int, q_bl, not_true_eq_false, not_false_eq_true, Bool.false_or, Bool.true_or, Bool.or_true, Bool.true_and, Bool.false_and, Bool.and_true, Bool.and_false,  id_eq, lst_new, boolsD, intsD, Option.map_some, List.all_cons, List.all_nil, List.map_append,  q_lit, String.reduceEq, decide_true, decide_false, Bool.not_true, Bool.not_false, Bool.true_eq_false, Bool.false_eq_true, eq_self, i_isn, i_isi, i_isb, i_iss, i_ist, i_isr, t_non, t_int, t_bl, t_str, t_tup, t_fz, b_abs, b_lent, b_lenf, b_lens, b_list, b_tuple, b_int, b_intb, b_sum, b_min2, b_max2, b_all, b_any, b_gcd, b_dict, m_app, m_ext, m_popi, m_pop, x_tup, x_fz, List.map_cons, List.map_nil, List.length_cons, List.length_nil, List.replicate, List.append_nil, List.cons_append, List.nil_append, List.getElem?_cons_zero, List.getElem?_cons_succ, List.set_cons_zero, List.set_cons_succ, Option.some.injEq, D.int.injEq, D.bl.injEq, D.str.injEq, D.tup.injEq, D.ref.injEq, exists_eq_left', exists_eq_left, exists_eq_right, true_and, and_true, Nat.reduceSub, Nat.reduceAdd, Nat.zero_add, reduceCtorEq, false_implies, true_implies, decide_eq_true_eq, decide_eq_false_iff_not, forall_const, List.any_cons, List.any_nil, Bool.or_false, subTy, pl1_0, pn1, pl2_0, pl2_1, pn2, pl3_0, pl3_1, pl3_2, pn3, pl4_0, pl4_1, pl4_2, pl4_3, pn4, pl5_0, pl5_1, pl5_2, pl5_3, pl5_4, pn5, pl6_0, pl6_1, pl6_2, pl6_3, pl6_4, pl6_5, pn6, pl7_0, pl7_1, pl7_2, pl7_3, pl7_4, pl7_5, pl7_6, pn7, pl8_0, pl8_1, pl8_2, pl8_3, pl8_4, pl8_5, pl8_6, pl8_7, pn8, pl9_0, pl9_1, pl9_2, pl9_3, pl9_4, pl9_5, pl9_6, pl9_7, pl9_8, pn9, _law_divisor_2b_1]
    refine ⟨fun h0 => ?_, fun h0 => ?_⟩
    · have : c = 0 := by omega
      subst this
      simp only [_law_divisor_3, wpS, wpE, wpEs, wpP, wpI, wpT, begin_, hxD, hxD.hxL, catch_, putAll, Ev.unpack, tgSem, wipe, o_add, o_sub, o_mul, o_div, o_mod, o_pow, o_tup, o_lst, o_rep, c_eq, c_ne, c_lt, c_le, c_gt, c_ge, c_isn, c_notn, c_isb, c_in, c_nin, q_int, q_bl, not_true_eq_false, not_false_eq_true, Bool.false_or, Bool.true_or, Bool.or_true, Bool.true_and, Bool.false_and, Bool.and_true, Bool.and_false,  id_eq, lst_new, boolsD, intsD, Option.map_some, List.all_cons, List.all_nil, List.map_append,  q_lit, String.reduceEq, decide_true, decide_false, Bool.not_true, Bool.not_false, Bool.true_eq_false, Bool.false_eq_true, eq_self, i_isn, i_isi, i_isb, i_iss, i_ist, i_isr, t_non, t_int, t_bl, t_str, t_tup, t_fz, b_abs, b_lent, b_lenf, b_lens, b_list, b_tuple, b_int, b_intb, b_sum, b_min2, b_max2, b_all, b_any, b_gcd, b_dict, m_app, m_ext, m_popi, m_pop, x_tup, x_fz, List.map_cons, List.map_nil, List.length_cons, List.length_nil, List.replicate, List.append_nil, List.cons_append, List.nil_append, List.getElem?_cons_zero, List.getElem?_cons_succ, List.set_cons_zero, List.set_cons_succ, Option.some.injEq, D.int.injEq, D.bl.injEq, D.str.injEq, D.tup.injEq, D.ref.injEq, exists_eq_left', exists_eq_left, exists_eq_right, true_and, and_true, Nat.reduceSub, Nat.reduceAdd, Nat.zero_add, reduceCtorEq, false_implies, true_implies, decide_eq_true_eq, decide_eq_false_iff_not, forall_const, List.any_cons, List.any_nil, Bool.or_false, subTy, pl1_0, pn1, pl2_0, pl2_1, pn2, pl3_0, pl3_1, pl3_2, pn3, pl4_0, pl4_1, pl4_2, pl4_3, pn4, pl5_0, pl5_1, pl5_2, pl5_3, pl5_4, pn5, pl6_0, pl6_1, pl6_2, pl6_3, pl6_4, pl6_5, pn6, pl7_0, pl7_1, pl7_2, pl7_3, pl7_4, pl7_5, pl7_6, pn7, pl8_0, pl8_1, pl8_2, pl8_3, pl8_4, pl8_5, pl8_6, pl8_7, pn8, pl9_0, pl9_1, pl9_2, pl9_3, pl9_4, pl9_5, pl9_6, pl9_7, pl9_8, pn9]
      rw [Nat.gcd_zero_right] at h1
      rw [h1]
      exact q
    · simp only [_law_divisor_2b_2, wpS, wpE, wpEs, wpP, wpI, wpT, begin_, hxD, hxD.hxL, catch_, putAll, Ev.unpack, tgSem, wipe, o_add, o_sub, o_mul, o_div, o_mod, o_pow, o_tup, o_lst, o_rep, c_eq, c_ne, c_lt, c_le, c_gt, c_ge, c_isn, c_notn, c_isb, c_in, c_nin, q_int, q_bl, not_true_eq_false, not_false_eq_true, Bool.false_or, Bool.true_or, Bool.or_true, Bool.true_and, Bool.false_and, Bool.and_true, Bool.and_false,  id_eq, lst_new, boolsD, intsD, Option.map_some, List.all_cons, List.all_nil, List.map_append,  q_lit, String.reduceEq, decide_true, decide_false, Bool.not_true, Bool.not_false, Bool.true_eq_false, Bool.false_eq_true, eq_self, i_isn, i_isi, i_isb, i_iss, i_ist, i_isr, t_non, t_int, t_bl, t_str, t_tup, t_fz, b_abs, b_lent, b_lenf, b_lens, b_list, b_tuple, b_int, b_intb, b_sum, b_min2, b_max2, b_all, b_any, b_gcd, b_dict, m_app, m_ext, m_popi, m_pop, x_tup, x_fz, List.map_cons, List.map_nil, List.length_cons, List.length_nil, List.replicate, List.append_nil, List.cons_append, List.nil_append, List.getElem?_cons_zero, List.getElem?_cons_succ, List.set_cons_zero, List.set_cons_succ, Option.some.injEq, D.int.injEq, D.bl.injEq, D.str.injEq, D.tup.injEq, D.ref.injEq, exists_eq_left', exists_eq_left, exists_eq_right, true_and, and_true, Nat.reduceSub, Nat.reduceAdd, Nat.zero_add, reduceCtorEq, false_implies, true_implies, decide_eq_true_eq, decide_eq_false_iff_not, forall_const, List.any_cons, List.any_nil, Bool.or_false, subTy, pl1_0, pn1, pl2_0, pl2_1, pn2, pl3_0, pl3_1, pl3_2, pn3, pl4_0, pl4_1, pl4_2, pl4_3, pn4, pl5_0, pl5_1, pl5_2, pl5_3, pl5_4, pn5, pl6_0, pl6_1, pl6_2, pl6_3, pl6_4, pl6_5, pn6, pl7_0, pl7_1, pl7_2, pl7_3, pl7_4, pl7_5, pl7_6, pn7, pl8_0, pl8_1, pl8_2, pl8_3, pl8_4, pl8_5, pl8_6, pl8_7, pn8, pl9_0, pl9_1, pl9_2, pl9_3, pl9_4, pl9_5, pl9_6, pl9_7, pl9_8, pn9, ne_eq, h0, not_false_eq_true]
      have hc : c ≠ 0 := by omega
      refine hN _ _ ⟨c, a % c, some z, ?_, ?_, .inl ⟨Nat.le_of_lt (Nat.mod_lt _ (by omega)), ?_⟩, rfl⟩
      · rw [Int.fmod_eq_emod_of_nonneg _ (by omega)]
        rfl
      · rw [← h1, Nat.gcd_comm a c, Nat.gcd_rec c a, Nat.gcd_comm]
      · rw [List.length_cons] at h2
        rcases h2 with ⟨h2, h3⟩ | ⟨_, h3⟩
        · have := half h2 hc
          rw [Nat.pow_succ] at h3
          omega
        · have h4 : a % c ≤ a := Nat.mod_le _ _
          have := Nat.mul_le_mul_left c h4
          rw [Nat.mul_comm c a] at this
          have e : rest.length + 1 - 1 = rest.length := by omega
          rw [e] at h3
          omega
  · obtain ⟨a, c, t, rfl, h1, h2, rfl⟩ := hI
    simp only [_law_divisor_3, wpS, wpE, wpEs, wpP, wpI, wpT, begin_, hxD, hxD.hxL, catch_, putAll, Ev.unpack, tgSem, wipe, o_add, o_sub, o_mul, o_div, o_mod, o_pow, o_tup, o_lst, o_rep, c_eq, c_ne, c_lt, c_le, c_gt, c_ge, c_isn, c_notn, c_isb, c_in, c_nin, q_int, q_bl, not_true_eq_false, not_false_eq_true, Bool.false_or, Bool.true_or, Bool.or_true, Bool.true_and, Bool.false_and, Bool.and_true, Bool.and_false,  id_eq, lst_new, boolsD, intsD, Option.map_some, List.all_cons, List.all_nil, List.map_append,  q_lit, String.reduceEq, decide_true, decide_false, Bool.not_true, Bool.not_false, Bool.true_eq_false, Bool.false_eq_true, eq_self, i_isn, i_isi, i_isb, i_iss, i_ist, i_isr, t_non, t_int, t_bl, t_str, t_tup, t_fz, b_abs, b_lent, b_lenf, b_lens, b_list, b_tuple, b_int, b_intb, b_sum, b_min2, b_max2, b_all, b_any, b_gcd, b_dict, m_app, m_ext, m_popi, m_pop, x_tup, x_fz, List.map_cons, List.map_nil, List.length_cons, List.length_nil, List.replicate, List.append_nil, List.cons_append, List.nil_append, List.getElem?_cons_zero, List.getElem?_cons_succ, List.set_cons_zero, List.set_cons_succ, Option.some.injEq, D.int.injEq, D.bl.injEq, D.str.injEq, D.tup.injEq, D.ref.injEq, exists_eq_left', exists_eq_left, exists_eq_right, true_and, and_true, Nat.reduceSub, Nat.reduceAdd, Nat.zero_add, reduceCtorEq, false_implies, true_implies, decide_eq_true_eq, decide_eq_false_iff_not, forall_const, List.any_cons, List.any_nil, Bool.or_false, subTy, pl1_0, pn1, pl2_0, pl2_1, pn2, pl3_0, pl3_1, pl3_2, pn3, pl4_0, pl4_1, pl4_2, pl4_3, pn4, pl5_0, pl5_1, pl5_2, pl5_3, pl5_4, pn5, pl6_0, pl6_1, pl6_2, pl6_3, pl6_4, pl6_5, pn6, pl7_0, pl7_1, pl7_2, pl7_3, pl7_4, pl7_5, pl7_6, pn7, pl8_0, pl8_1, pl8_2, pl8_3, pl8_4, pl8_5, pl8_6, pl8_7, pn8, pl9_0, pl9_1, pl9_2, pl9_3, pl9_4, pl9_5, pl9_6, pl9_7, pl9_8, pn9]
    have hc : c = 0 := by
      rcases h2 with ⟨h2, h3⟩ | ⟨h3, _⟩
      · have h4 : a * c < 1 := h3
        have : a * c = 0 := by omega
        rcases Nat.mul_eq_zero.mp this with h | h <;> omega
      · cases h3
    subst hc
    rw [Nat.gcd_zero_right] at h1
    rw [h1]
    exact q
  · rw [rangeD_length]
    have e : ((20000 : Int) - 0).toNat = 20000 := rfl
    rw [e]
    refine ⟨by decide, ?_⟩
    calc x.natAbs * y.natAbs < 2 ^ 9000 * 2 ^ 9000 := Nat.mul_lt_mul'' hx hy
      _ = 2 ^ (9000 + 9000) := (Nat.pow_add 2 9000 9000).symm
      _ ≤ 2 ^ (20000 - 1) := Nat.pow_le_pow_right (by decide) (by decide)
theorem r__law_fr {a c : Int} (h0 : c ≠ 0) (ha : a.natAbs < 2 ^ 8999) (hc : c.natAbs < 2 ^ 8999) (q : Q (FD (Rat.divInt a c)) S) : run sub TT (n + 2) i__law_fr [.int a, .int c] S Q E := by
  rw [run_eq at__law_fr rfl]
  simp only [f__law_fr, _law_fr_1, wpS, wpE, wpEs, wpP, wpI, wpT, begin_, hxD, hxD.hxL, catch_, putAll, Ev.unpack, tgSem, wipe, o_add, o_sub, o_mul, o_div, o_mod, o_pow, o_tup, o_lst, o_rep, c_eq, c_ne, c_lt, c_le, c_gt, c_ge, c_isn, c_notn, c_isb, c_in, c_nin, q_int, q_bl, not_true_eq_false, not_false_eq_true, Bool.false_or, Bool.true_or, Bool.or_true, Bool.true_and, Bool.false_and, Bool.and_true, Bool.and_false,  id_eq, lst_new, boolsD, intsD, Option.map_some, List.all_cons, List.all_nil, List.map_append,  q_lit, String.reduceEq, decide_true, decide_false, Bool.not_true, Bool.not_false, Bool.true_eq_false, Bool.false_eq_true, eq_self, i_isn, i_isi, i_isb, i_iss, i_ist, i_isr, t_non, t_int, t_bl, t_str, t_tup, t_fz, b_abs, b_lent, b_lenf, b_lens, b_list, b_tuple, b_int, b_intb, b_sum, b_min2, b_max2, b_all, b_any, b_gcd, b_dict, m_app, m_ext, m_popi, m_pop, x_tup, x_fz, List.map_cons, List.map_nil, List.length_cons, List.length_nil, List.replicate, List.append_nil, List.cons_append, List.nil_append, List.getElem?_cons_zero, List.getElem?_cons_succ, List.set_cons_zero, List.set_cons_succ, Option.some.injEq, D.int.injEq, D.bl.injEq, D.str.injEq, D.tup.injEq, D.ref.injEq, exists_eq_left', exists_eq_left, exists_eq_right, true_and, and_true, Nat.reduceSub, Nat.reduceAdd, Nat.zero_add, reduceCtorEq, false_implies, true_implies, decide_eq_true_eq, decide_eq_false_iff_not, forall_const, List.any_cons, List.any_nil, Bool.or_false, subTy, pl1_0, pn1, pl2_0, pl2_1, pn2, pl3_0, pl3_1, pl3_2, pn3, pl4_0, pl4_1, pl4_2, pl4_3, pn4, pl5_0, pl5_1, pl5_2, pl5_3, pl5_4, pn5, pl6_0, pl6_1, pl6_2, pl6_3, pl6_4, pl6_5, pn6, pl7_0, pl7_1, pl7_2, pl7_3, pl7_4, pl7_5, pl7_6, pn7, pl8_0, pl8_1, pl8_2, pl8_3, pl8_4, pl8_5, pl8_6, pl8_7, pn8, pl9_0, pl9_1, pl9_2, pl9_3, pl9_4, pl9_5, pl9_6, pl9_7, pl9_8, pn9]
  refine r__law_divisor (lt_up ha (by decide)) (lt_up hc (by decide)) ?_
  have hg := gcd_lt (a := a) h0 hc
  have hg0 := gcd_ne (a := a) h0
  have hd : ∀ i : Int, DivOk i (Nat.gcd a.natAbs c.natAbs : Nat) := fun i => div_ok (k := 8999) (by omega) hg (by decide)
  have m1 : MulOk 1 a := mul_ok (a := 1) (b := 8999) (by decide) ha (by decide)
  have m2 : MulOk (-1) a := mul_ok (a := 1) (b := 8999) (by decide) ha (by decide)
  have m3 : MulOk 1 c := mul_ok (a := 1) (b := 8999) (by decide) hc (by decide)
  have m4 : MulOk (-1) c := mul_ok (a := 1) (b := 8999) (by decide) hc (by decide)
  have hm : (2 : Nat) ≤ most := by decide
  simp only [_law_fr_2, _law_fr_3, wpS, wpE, wpEs, wpP, wpI, wpT, begin_, hxD, hxD.hxL, catch_, putAll, Ev.unpack, tgSem, wipe, o_add, o_sub, o_mul, o_div, o_mod, o_pow, o_tup, o_lst, o_rep, c_eq, c_ne, c_lt, c_le, c_gt, c_ge, c_isn, c_notn, c_isb, c_in, c_nin, q_int, q_bl, not_true_eq_false, not_false_eq_true, Bool.false_or, Bool.true_or, Bool.or_true, Bool.true_and, Bool.false_and, Bool.and_true, Bool.and_false,  id_eq, lst_new, boolsD, intsD, Option.map_some, List.all_cons, List.all_nil, List.map_append,  q_lit, String.reduceEq, decide_true, decide_false, Bool.not_true, Bool.not_false, Bool.true_eq_false, Bool.false_eq_true, eq_self, i_isn, i_isi, i_isb, i_iss, i_ist, i_isr, t_non, t_int, t_bl, t_str, t_tup, t_fz, b_abs, b_lent, b_lenf, b_lens, b_list, b_tuple, b_int, b_intb, b_sum, b_min2, b_max2, b_all, b_any, b_gcd, b_dict, m_app, m_ext, m_popi, m_pop, x_tup, x_fz, List.map_cons, List.map_nil, List.length_cons, List.length_nil, List.replicate, List.append_nil, List.cons_append, List.nil_append, List.getElem?_cons_zero, List.getElem?_cons_succ, List.set_cons_zero, List.set_cons_succ, Option.some.injEq, D.int.injEq, D.bl.injEq, D.str.injEq, D.tup.injEq, D.ref.injEq, exists_eq_left', exists_eq_left, exists_eq_right, true_and, and_true, Nat.reduceSub, Nat.reduceAdd, Nat.zero_add, reduceCtorEq, false_implies, true_implies, decide_eq_true_eq, decide_eq_false_iff_not, forall_const, List.any_cons, List.any_nil, Bool.or_false, subTy, pl1_0, pn1, pl2_0, pl2_1, pn2, pl3_0, pl3_1, pl3_2, pn3, pl4_0, pl4_1, pl4_2, pl4_3, pn4, pl5_0, pl5_1, pl5_2, pl5_3, pl5_4, pn5, pl6_0, pl6_1, pl6_2, pl6_3, pl6_4, pl6_5, pn6, pl7_0, pl7_1, pl7_2, pl7_3, pl7_4, pl7_5, pl7_6, pn7, pl8_0, pl8_1, pl8_2, pl8_3, pl8_4, pl8_5, pl8_6, pl8_7, pn8, pl9_0, pl9_1, pl9_2, pl9_3, pl9_4, pl9_5, pl9_6, pl9_7, pl9_8, pn9, hd, m1, m2, m3, m4, hm]
  refine ⟨fun h => ?_, fun h => ?_⟩
  · rw [Int.one_mul, Int.one_mul, fd_pos h]
    exact q
  · have hneg : c < 0 := by omega
    have d1 : ((Nat.gcd a.natAbs c.natAbs : Nat) : Int) ∣ a := Int.ofNat_dvd_left.mpr (Nat.gcd_dvd_left _ _)
    have d2 : ((Nat.gcd a.natAbs c.natAbs : Nat) : Int) ∣ c := Int.ofNat_dvd_left.mpr (Nat.gcd_dvd_right _ _)
    have e : ∀ z : Int, ((Nat.gcd a.natAbs c.natAbs : Nat) : Int) ∣ z → (-1 * z).fdiv (Nat.gcd a.natAbs c.natAbs : Nat) = z.fdiv (0 - (Nat.gcd a.natAbs c.natAbs : Nat)) := fun z hz => by
      rw [Int.zero_sub, Int.fdiv_eq_ediv_of_dvd (a := z) (by rw [Int.neg_dvd]; exact hz), Int.ediv_neg, Int.fdiv_eq_ediv_of_nonneg _ (by omega), Int.neg_one_mul, Int.neg_ediv_of_dvd hz]
    rw [e a d1, e c d2, fd_neg hneg]
    exact q
theorem r__law_add {x y : Rat} (hx : Sz 4000 x) (hy : Sz 4000 y) (q : Q (FD (x + y)) S) : run sub TT (n + 3) i__law_add [FD x, FD y] S Q E := by
  rw [run_eq at__law_add rfl]
  have m1 := mul_ok hx.num hy.den (by decide)
  have m2 := mul_ok hy.num hx.den (by decide)
  have m3 := mul_ok hx.den hy.den (by decide)
  have m4 := mul_ok hx.num hy.num (by decide)
  have m5 := mul_ok hx.den hy.num (by decide)
  simp only [f__law_add, _law_add_1, FD, wpS, wpE, wpEs, wpP, wpI, wpT, begin_, hxD, hxD.hxL, catch_, putAll, Ev.unpack, tgSem, wipe, o_add, o_sub, o_mul, o_div, o_mod, o_pow, o_tup, o_lst, o_rep, c_eq, c_ne, c_lt, c_le, c_gt, c_ge, c_isn, c_notn, c_isb, c_in, c_nin, q_int, q_bl, not_true_eq_false, not_false_eq_true, Bool.false_or, Bool.true_or, Bool.or_true, Bool.true_and, Bool.false_and, Bool.and_true, Bool.and_false,  id_eq, lst_new, boolsD, intsD, Option.map_some, List.all_cons, List.all_nil, List.map_append,  q_lit, String.reduceEq, decide_true, decide_false, Bool.not_true, Bool.not_false, Bool.true_eq_false, Bool.false_eq_true, eq_self, i_isn, i_isi, i_isb, i_iss, i_ist, i_isr, t_non, t_int, t_bl, t_str, t_tup, t_fz, b_abs, b_lent, b_lenf, b_lens, b_list, b_tuple, b_int, b_intb, b_sum, b_min2, b_max2, b_all, b_any, b_gcd, b_dict, m_app, m_ext, m_popi, m_pop, x_tup, x_fz, List.map_cons, List.map_nil, List.length_cons, List.length_nil, List.replicate, List.append_nil, List.cons_append, List.nil_append, List.getElem?_cons_zero, List.getElem?_cons_succ, List.set_cons_zero, List.set_cons_succ, Option.some.injEq, D.int.injEq, D.bl.injEq, D.str.injEq, D.tup.injEq, D.ref.injEq, exists_eq_left', exists_eq_left, exists_eq_right, true_and, and_true, Nat.reduceSub, Nat.reduceAdd, Nat.zero_add, reduceCtorEq, false_implies, true_implies, decide_eq_true_eq, decide_eq_false_iff_not, forall_const, List.any_cons, List.any_nil, Bool.or_false, subTy, pl1_0, pn1, pl2_0, pl2_1, pn2, pl3_0, pl3_1, pl3_2, pn3, pl4_0, pl4_1, pl4_2, pl4_3, pn4, pl5_0, pl5_1, pl5_2, pl5_3, pl5_4, pn5, pl6_0, pl6_1, pl6_2, pl6_3, pl6_4, pl6_5, pn6, pl7_0, pl7_1, pl7_2, pl7_3, pl7_4, pl7_5, pl7_6, pn7, pl8_0, pl8_1, pl8_2, pl8_3, pl8_4, pl8_5, pl8_6, pl8_7, pn8, pl9_0, pl9_1, pl9_2, pl9_3, pl9_4, pl9_5, pl9_6, pl9_7, pl9_8, pn9, m1, m2, m3, m4, m5]
  refine r__law_fr (a := x.num * y.den + y.num * x.den) (c := x.den * y.den) (Int.mul_ne_zero (den_ne x) (den_ne y)) (lt_up (add_lt (mul_lt hx.num hy.den) (mul_lt hy.num hx.den)) (by decide)) (lt_up (mul_lt hx.den hy.den) (by decide)) ?_
  rw [add_eq]
  exact q
theorem r__law_mul {x y : Rat} (hx : Sz 4000 x) (hy : Sz 4000 y) (q : Q (FD (x * y)) S) : run sub TT (n + 3) i__law_mul [FD x, FD y] S Q E := by
  rw [run_eq at__law_mul rfl]
  have m1 := mul_ok hx.num hy.den (by decide)
  have m2 := mul_ok hy.num hx.den (by decide)
  have m3 := mul_ok hx.den hy.den (by decide)
  have m4 := mul_ok hx.num hy.num (by decide)
  have m5 := mul_ok hx.den hy.num (by decide)
  simp only [f__law_mul, _law_mul_1, FD, wpS, wpE, wpEs, wpP, wpI, wpT, begin_, hxD, hxD.hxL, catch_, putAll, Ev.unpack, tgSem, wipe, o_add, o_sub, o_mul, o_div, o_mod, o_pow, o_tup, o_lst, o_rep, c_eq, c_ne, c_lt, c_le, c_gt, c_ge, c_isn, c_notn, c_isb, c_in, c_nin, q_int, q_bl, not_true_eq_false, not_false_eq_true, Bool.false_or, Bool.true_or, Bool.or_true, Bool.true_and, Bool.false_and, Bool.and_true, Bool.and_false,  id_eq, lst_new, boolsD, intsD, Option.map_some, List.all_cons, List.all_nil, List.map_append,  q_lit, String.reduceEq, decide_true, decide_false, Bool.not_true, Bool.not_false, Bool.true_eq_false, Bool.false_eq_true, eq_self, i_isn, i_isi, i_isb, i_iss, i_ist, i_isr, t_non, t_int, t_bl, t_str, t_tup, t_fz, b_abs, b_lent, b_lenf, b_lens, b_list, b_tuple, b_int, b_intb, b_sum, b_min2, b_max2, b_all, b_any, b_gcd, b_dict, m_app, m_ext, m_popi, m_pop, x_tup, x_fz, List.map_cons, List.map_nil, List.length_cons, List.length_nil, List.replicate, List.append_nil, List.cons_append, List.nil_append, List.getElem?_cons_zero, List.getElem?_cons_succ, List.set_cons_zero, List.set_cons_succ, Option.some.injEq, D.int.injEq, D.bl.injEq, D.str.injEq, D.tup.injEq, D.ref.injEq, exists_eq_left', exists_eq_left, exists_eq_right, true_and, and_true, Nat.reduceSub, Nat.reduceAdd, Nat.zero_add, reduceCtorEq, false_implies, true_implies, decide_eq_true_eq, decide_eq_false_iff_not, forall_const, List.any_cons, List.any_nil, Bool.or_false, subTy, pl1_0, pn1, pl2_0, pl2_1, pn2, pl3_0, pl3_1, pl3_2, pn3, pl4_0, pl4_1, pl4_2, pl4_3, pn4, pl5_0, pl5_1, pl5_2, pl5_3, pl5_4, pn5, pl6_0, pl6_1, pl6_2, pl6_3, pl6_4, pl6_5, pn6, pl7_0, pl7_1, pl7_2, pl7_3, pl7_4, pl7_5, pl7_6, pn7, pl8_0, pl8_1, pl8_2, pl8_3, pl8_4, pl8_5, pl8_6, pl8_7, pn8, pl9_0, pl9_1, pl9_2, pl9_3, pl9_4, pl9_5, pl9_6, pl9_7, pl9_8, pn9, m1, m2, m3, m4, m5]
  refine r__law_fr (a := x.num * y.num) (c := x.den * y.den) (Int.mul_ne_zero (den_ne x) (den_ne y)) (lt_up (mul_lt hx.num hy.num) (by decide)) (lt_up (mul_lt hx.den hy.den) (by decide)) ?_
  rw [mul_eq]
  exact q
theorem r__law_div {x y : Rat} (hx : Sz 4000 x) (hy : Sz 4000 y) (h0 : y ≠ 0) (q : Q (FD (x / y)) S) : run sub TT (n + 3) i__law_div [FD x, FD y] S Q E := by
  rw [run_eq at__law_div rfl]
  have m1 := mul_ok hx.num hy.den (by decide)
  have m2 := mul_ok hy.num hx.den (by decide)
  have m3 := mul_ok hx.den hy.den (by decide)
  have m4 := mul_ok hx.num hy.num (by decide)
  have m5 := mul_ok hx.den hy.num (by decide)
  simp only [f__law_div, _law_div_1, FD, wpS, wpE, wpEs, wpP, wpI, wpT, begin_, hxD, hxD.hxL, catch_, putAll, Ev.unpack, tgSem, wipe, o_add, o_sub, o_mul, o_div, o_mod, o_pow, o_tup, o_lst, o_rep, c_eq, c_ne, c_lt, c_le, c_gt, c_ge, c_isn, c_notn, c_isb, c_in, c_nin, q_int, q_bl, not_true_eq_false, not_false_eq_true, Bool.false_or, Bool.true_or, Bool.or_true, Bool.true_and, Bool.false_and, Bool.and_true, Bool.and_false,  id_eq, lst_new, boolsD, intsD, Option.map_some, List.all_cons, List.all_nil, List.map_append,  q_lit, String.reduceEq, decide_true, decide_false, Bool.not_true, Bool.not_false, Bool.true_eq_false, Bool.false_eq_true, eq_self, i_isn, i_isi, i_isb, i_iss, i_ist, i_isr, t_non, t_int, t_bl, t_str, t_tup, t_fz, b_abs, b_lent, b_lenf, b_lens, b_list, b_tuple, b_int, b_intb, b_sum, b_min2, b_max2, b_all, b_any, b_gcd, b_dict, m_app, m_ext, m_popi, m_pop, x_tup, x_fz, List.map_cons, List.map_nil, List.length_cons, List.length_nil, List.replicate, List.append_nil, List.cons_append, List.nil_append, List.getElem?_cons_zero, List.getElem?_cons_succ, List.set_cons_zero, List.set_cons_succ, Option.some.injEq, D.int.injEq, D.bl.injEq, D.str.injEq, D.tup.injEq, D.ref.injEq, exists_eq_left', exists_eq_left, exists_eq_right, true_and, and_true, Nat.reduceSub, Nat.reduceAdd, Nat.zero_add, reduceCtorEq, false_implies, true_implies, decide_eq_true_eq, decide_eq_false_iff_not, forall_const, List.any_cons, List.any_nil, Bool.or_false, subTy, pl1_0, pn1, pl2_0, pl2_1, pn2, pl3_0, pl3_1, pl3_2, pn3, pl4_0, pl4_1, pl4_2, pl4_3, pn4, pl5_0, pl5_1, pl5_2, pl5_3, pl5_4, pn5, pl6_0, pl6_1, pl6_2, pl6_3, pl6_4, pl6_5, pn6, pl7_0, pl7_1, pl7_2, pl7_3, pl7_4, pl7_5, pl7_6, pn7, pl8_0, pl8_1, pl8_2, pl8_3, pl8_4, pl8_5, pl8_6, pl8_7, pn8, pl9_0, pl9_1, pl9_2, pl9_3, pl9_4, pl9_5, pl9_6, pl9_7, pl9_8, pn9, m1, m2, m3, m4, m5]
  refine r__law_fr (a := x.num * y.den) (c := x.den * y.num) (Int.mul_ne_zero (den_ne x) (num_ne h0)) (lt_up (mul_lt hx.num hy.den) (by decide)) (lt_up (mul_lt hx.den hy.num) (by decide)) ?_
  rw [div_eq]
  exact q
theorem r__law_neg {x : Rat} : run sub TT (n + 1) i__law_neg [FD x] S Q E = Q (FD (-x)) S := by
  rw [run_eq at__law_neg rfl]
  have : (2 : Nat) ≤ most := by decide
  simp only [f__law_neg, _law_neg_1, FD, wpS, wpE, wpEs, wpP, wpI, wpT, begin_, hxD, hxD.hxL, catch_, putAll, Ev.unpack, tgSem, wipe, o_add, o_sub, o_mul, o_div, o_mod, o_pow, o_tup, o_lst, o_rep, c_eq, c_ne, c_lt, c_le, c_gt, c_ge, c_isn, c_notn, c_isb, c_in, c_nin, q_int, q_bl, not_true_eq_false, not_false_eq_true, Bool.false_or, Bool.true_or, Bool.or_true, Bool.true_and, Bool.false_and, Bool.and_true, Bool.and_false,  id_eq, lst_new, boolsD, intsD, Option.map_some, List.all_cons, List.all_nil, List.map_append,  q_lit, String.reduceEq, decide_true, decide_false, Bool.not_true, Bool.not_false, Bool.true_eq_false, Bool.false_eq_true, eq_self, i_isn, i_isi, i_isb, i_iss, i_ist, i_isr, t_non, t_int, t_bl, t_str, t_tup, t_fz, b_abs, b_lent, b_lenf, b_lens, b_list, b_tuple, b_int, b_intb, b_sum, b_min2, b_max2, b_all, b_any, b_gcd, b_dict, m_app, m_ext, m_popi, m_pop, x_tup, x_fz, List.map_cons, List.map_nil, List.length_cons, List.length_nil, List.replicate, List.append_nil, List.cons_append, List.nil_append, List.getElem?_cons_zero, List.getElem?_cons_succ, List.set_cons_zero, List.set_cons_succ, Option.some.injEq, D.int.injEq, D.bl.injEq, D.str.injEq, D.tup.injEq, D.ref.injEq, exists_eq_left', exists_eq_left, exists_eq_right, true_and, and_true, Nat.reduceSub, Nat.reduceAdd, Nat.zero_add, reduceCtorEq, false_implies, true_implies, decide_eq_true_eq, decide_eq_false_iff_not, forall_const, List.any_cons, List.any_nil, Bool.or_false, subTy, pl1_0, pn1, pl2_0, pl2_1, pn2, pl3_0, pl3_1, pl3_2, pn3, pl4_0, pl4_1, pl4_2, pl4_3, pn4, pl5_0, pl5_1, pl5_2, pl5_3, pl5_4, pn5, pl6_0, pl6_1, pl6_2, pl6_3, pl6_4, pl6_5, pn6, pl7_0, pl7_1, pl7_2, pl7_3, pl7_4, pl7_5, pl7_6, pn7, pl8_0, pl8_1, pl8_2, pl8_3, pl8_4, pl8_5, pl8_6, pl8_7, pn8, pl9_0, pl9_1, pl9_2, pl9_3, pl9_4, pl9_5, pl9_6, pl9_7, pl9_8, pn9, this, Rat.neg_num, Rat.neg_den, Int.zero_sub]
theorem r__law_less {x y : Rat} (hx : Sz 4000 x) (hy : Sz 4000 y) : run sub TT (n + 1) i__law_less [FD x, FD y] S Q E = Q (.bl (decide (x < y))) S := by
  rw [run_eq at__law_less rfl]
  have m1 := mul_ok hx.num hy.den (by decide)
  have m2 := mul_ok hy.num hx.den (by decide)
  simp only [f__law_less, _law_less_1, FD, wpS, wpE, wpEs, wpP, wpI, wpT, begin_, hxD, hxD.hxL, catch_, putAll, Ev.unpack, tgSem, wipe, o_add, o_sub, o_mul, o_div, o_mod, o_pow, o_tup, o_lst, o_rep, c_eq, c_ne, c_lt, c_le, c_gt, c_ge, c_isn, c_notn, c_isb, c_in, c_nin, q_int, q_bl, not_true_eq_false, not_false_eq_true, Bool.false_or, Bool.true_or, Bool.or_true, Bool.true_and, Bool.false_and, Bool.and_true, Bool.and_false,  id_eq, lst_new, boolsD, intsD, Option.map_some, List.all_cons, List.all_nil, List.map_append,  q_lit, String.reduceEq, decide_true, decide_false, Bool.not_true, Bool.not_false, Bool.true_eq_false, Bool.false_eq_true, eq_self, i_isn, i_isi, i_isb, i_iss, i_ist, i_isr, t_non, t_int, t_bl, t_str, t_tup, t_fz, b_abs, b_lent, b_lenf, b_lens, b_list, b_tuple, b_int, b_intb, b_sum, b_min2, b_max2, b_all, b_any, b_gcd, b_dict, m_app, m_ext, m_popi, m_pop, x_tup, x_fz, List.map_cons, List.map_nil, List.length_cons, List.length_nil, List.replicate, List.append_nil, List.cons_append, List.nil_append, List.getElem?_cons_zero, List.getElem?_cons_succ, List.set_cons_zero, List.set_cons_succ, Option.some.injEq, D.int.injEq, D.bl.injEq, D.str.injEq, D.tup.injEq, D.ref.injEq, exists_eq_left', exists_eq_left, exists_eq_right, true_and, and_true, Nat.reduceSub, Nat.reduceAdd, Nat.zero_add, reduceCtorEq, false_implies, true_implies, decide_eq_true_eq, decide_eq_false_iff_not, forall_const, List.any_cons, List.any_nil, Bool.or_false, subTy, pl1_0, pn1, pl2_0, pl2_1, pn2, pl3_0, pl3_1, pl3_2, pn3, pl4_0, pl4_1, pl4_2, pl4_3, pn4, pl5_0, pl5_1, pl5_2, pl5_3, pl5_4, pn5, pl6_0, pl6_1, pl6_2, pl6_3, pl6_4, pl6_5, pn6, pl7_0, pl7_1, pl7_2, pl7_3, pl7_4, pl7_5, pl7_6, pn7, pl8_0, pl8_1, pl8_2, pl8_3, pl8_4, pl8_5, pl8_6, pl8_7, pn8, pl9_0, pl9_1, pl9_2, pl9_3, pl9_4, pl9_5, pl9_6, pl9_7, pl9_8, pn9, m1, m2, lt_eq]
end
end EvL
end
section
set_option Elab.async false
set_option linter.all false
set_option maxRecDepth 100000
set_option maxHeartbeats 400000
set_option exponentiation.threshold 20000
namespace EvL
open PySem (Str)
open Ev
section
variable {n : Nat} {S : Sto} {Q : Po} {E : Xo} {b k : Nat}
def rootI (a : Nat) : D := if isq a * isq a = a then .int (isq a : Nat) else .non
theorem nat_up {a k : Nat} (h : a < 2 ^ k) : ((a : Nat) : Int).natAbs < 2 ^ k := h
theorem sq_lt {l h : Nat} (H : l * l < h * h) : l < h := by
  rcases Nat.lt_or_ge l h with g | g
  · exact g
  · have := Nat.mul_le_mul g g
    omega
theorem r__law_root {a : Nat} (ha : a < 2 ^ 8000) (q : Q (rootI a) S) : run sub TT (n + 1) i__law_root [.int (a : Nat)] S Q E := by
  rw [run_eq at__law_root rfl]
  have tail : ∀ (h : Nat) (t : Option D), a < h * h → h ≤ 2 ^ 4001 → wpS (run sub TT n) sub (.seq _law_root_3 _law_root_4) [some (.int (a : Nat)), some (.int 0), some (.int (h : Nat)), t, none] S ⟨fun _ S1 => Q .non S1, Q, fun _ _ => False, fun _ _ => False, E⟩ := by
    intro h t h1 h2
    simp only [_law_root_3, wpS, wpE, wpEs, wpP, wpI, wpT, begin_, hxD, hxD.hxL, catch_, putAll, Ev.unpack, tgSem, wipe, o_add, o_sub, o_mul, o_div, o_mod, o_pow, o_tup, o_lst, o_rep, c_eq, c_ne, c_lt, c_le, c_gt, c_ge, c_isn, c_notn, c_isb, c_in, c_nin, q_int, q_bl, not_true_eq_false, not_false_eq_true, Bool.false_or, Bool.true_or, Bool.or_true, Bool.true_and, Bool.false_and, Bool.and_true, Bool.and_false,  id_eq, lst_new, boolsD, intsD, Option.map_some, List.all_cons, List.all_nil, List.map_append,  q_lit, String.reduceEq, decide_true, decide_false, Bool.not_true, Bool.not_false, Bool.true_eq_false, Bool.false_eq_true, eq_self, i_isn, i_isi, i_isb, i_iss, i_ist, i_isr, t_non, t_int, t_bl, t_str, t_tup, t_fz, b_abs, b_lent, b_lenf, b_lens, b_list, b_tuple, b_int, b_intb, b_sum, b_min2, b_max2, b_all, b_any, b_gcd, b_dict, m_app, m_ext, m_popi, m_pop, x_tup, x_fz, List.map_cons, List.map_nil, List.length_cons, List.length_nil, List.replicate, List.append_nil, List.cons_append, List.nil_append, List.getElem?_cons_zero, List.getElem?_cons_succ, List.set_cons_zero, List.set_cons_succ, Option.some.injEq, D.int.injEq, D.bl.injEq, D.str.injEq, D.tup.injEq, D.ref.injEq, exists_eq_left', exists_eq_left, exists_eq_right, true_and, and_true, Nat.reduceSub, Nat.reduceAdd, Nat.zero_add, reduceCtorEq, false_implies, true_implies, decide_eq_true_eq, decide_eq_false_iff_not, forall_const, List.any_cons, List.any_nil, Bool.or_false, subTy, pl1_0, pn1, pl2_0, pl2_1, pn2, pl3_0, pl3_1, pl3_2, pn3, pl4_0, pl4_1, pl4_2, pl4_3, pn4, pl5_0, pl5_1, pl5_2, pl5_3, pl5_4, pn5, pl6_0, pl6_1, pl6_2, pl6_3, pl6_4, pl6_5, pn6, pl7_0, pl7_1, pl7_2, pl7_3, pl7_4, pl7_5, pl7_6, pn7, pl8_0, pl8_1, pl8_2, pl8_3, pl8_4, pl8_5, pl8_6, pl8_7, pn8, pl9_0, pl9_1, pl9_2, pl9_3, pl9_4, pl9_5, pl9_6, pl9_7, pl9_8, pn9, srcRng]
    refine ⟨by decide, by decide, ?_⟩
    have fin : ∀ (l h : Nat) (t u : Option D), l * l ≤ a → a < h * h → h < l + 2 → wpS (run sub TT n) sub _law_root_4 [some (.int (a : Nat)), some (.int (l : Nat)), some (.int (h : Nat)), t, u] S ⟨fun _ S1 => Q .non S1, Q, fun _ _ => False, fun _ _ => False, E⟩ := by
      intro l h t u h1 h2 h3
      have h4 := sq_lt (Nat.lt_of_le_of_lt h1 h2)
      have e : h = l + 1 := by omega
      subst e
      have e : l = isq a := isq_uniq h1 h2
      have hl : l < 2 ^ 8000 := by
        have : l ≤ l * l := Nat.le_mul_self l
        omega
      have m1 : MulOk (l : Nat) (l : Nat) := mul_ok (nat_up hl) (nat_up hl) (by decide)
      simp only [_law_root_4, wpS, wpE, wpEs, wpP, wpI, wpT, begin_, hxD, hxD.hxL, catch_, putAll, Ev.unpack, tgSem, wipe, o_add, o_sub, o_mul, o_div, o_mod, o_pow, o_tup, o_lst, o_rep, c_eq, c_ne, c_lt, c_le, c_gt, c_ge, c_isn, c_notn, c_isb, c_in, c_nin, q_int, q_bl, not_true_eq_false, not_false_eq_true, Bool.false_or, Bool.true_or, Bool.or_true, Bool.true_and, Bool.false_and, Bool.and_true, Bool.and_false,  id_eq, lst_new, boolsD, intsD, Option.map_some, List.all_cons, List.all_nil, List.map_append,  q_lit, String.reduceEq, decide_true, decide_false, Bool.not_true, Bool.not_false, Bool.true_eq_false, Bool.false_eq_true, eq_self, i_isn, i_isi, i_isb, i_iss, i_ist, i_isr, t_non, t_int, t_bl, t_str, t_tup, t_fz, b_abs, b_lent, b_lenf, b_lens, b_list, b_tuple, b_int, b_intb, b_sum, b_min2, b_max2, b_all, b_any, b_gcd, b_dict, m_app, m_ext, m_popi, m_pop, x_tup, x_fz, List.map_cons, List.map_nil, List.length_cons, List.length_nil, List.replicate, List.append_nil, List.cons_append, List.nil_append, List.getElem?_cons_zero, List.getElem?_cons_succ, List.set_cons_zero, List.set_cons_succ, Option.some.injEq, D.int.injEq, D.bl.injEq, D.str.injEq, D.tup.injEq, D.ref.injEq, exists_eq_left', exists_eq_left, exists_eq_right, true_and, and_true, Nat.reduceSub, Nat.reduceAdd, Nat.zero_add, reduceCtorEq, false_implies, true_implies, decide_eq_true_eq, decide_eq_false_iff_not, forall_const, List.any_cons, List.any_nil, Bool.or_false, subTy, pl1_0, pn1, pl2_0, pl2_1, pn2, pl3_0, pl3_1, pl3_2, pn3, pl4_0, pl4_1, pl4_2, pl4_3, pn4, pl5_0, pl5_1, pl5_2, pl5_3, pl5_4, pn5, pl6_0, pl6_1, pl6_2, pl6_3, pl6_4, pl6_5, pn6, pl7_0, pl7_1, pl7_2, pl7_3, pl7_4, pl7_5, pl7_6, pn7, pl8_0, pl8_1, pl8_2, pl8_3, pl8_4, pl8_5, pl8_6, pl8_7, pn8, pl9_0, pl9_1, pl9_2, pl9_3, pl9_4, pl9_5, pl9_6, pl9_7, pl9_8, pn9, m1]
      unfold rootI at q
      rw [← e] at q
      refine ⟨fun h => ?_, fun h => ?_⟩
      · rw [if_pos (by exact_mod_cast h)] at q
        exact q
      · rw [if_neg (fun h' => h (by exact_mod_cast h'))] at q
        exact q
    let I : List D → Ev.Env → Sto → Prop := fun rest env S' => ∃ (l h g : Nat) (t u : Option D), env = [some (.int (a : Nat)), some (.int (l : Nat)), some (.int (h : Nat)), t, u] ∧ l * l ≤ a ∧ a < h * h ∧ h ≤ 2 ^ 4001 ∧ h ≤ l + 2 ^ g ∧ g + 1 ≤ rest.length ∧ S' = S
    refine walk_I I (fun _ _ _ _ => trivial) (fun z rest env S' hI N hN => ?_) (fun env S' hI => ?_) _ _ _ ⟨0, h, 4001, t, none, rfl, by omega, h1, h2, by omega, ?_, rfl⟩
    · obtain ⟨l, h, g, t, u, rfl, h1, h2, h3, h4, h5, rfl⟩ := hI
      simp only [_law_root_3b_1, wpS, wpE, wpEs, wpP, wpI, wpT, begin_, hxD, hxD.hxL, catch_, putAll, Ev.unpack, tgSem, wipe, o_add, o_sub, o_mul, o_div, o_mod, o_pow, o_tup, o_lst, o_rep, c_eq, c_ne, c_lt, c_le, c_gt, c_ge, c_isn, c_notn, c_isb, c_in, c_nin, q_int, q_bl, not_true_eq_false, not_false_eq_true, Bool.false_or, Bool.true_or, Bool.or_true, Bool.true_and, Bool.false_and, Bool.and_true, Bool.and_false,  id_eq, lst_new, boolsD, intsD, Option.map_some, List.all_cons, List.all_nil, List.map_append,  q_lit, String.reduceEq, decide_true, decide_false, Bool.not_true, Bool.not_false, Bool.true_eq_false, Bool.false_eq_true, eq_self, i_isn, i_isi, i_isb, i_iss, i_ist, i_isr, t_non, t_int, t_bl, t_str, t_tup, t_fz, b_abs, b_lent, b_lenf, b_lens, b_list, b_tuple, b_int, b_intb, b_sum, b_min2, b_max2, b_all, b_any, b_gcd, b_dict, m_app, m_ext, m_popi, m_pop, x_tup, x_fz, List.map_cons, List.map_nil, List.length_cons, List.length_nil, List.replicate, List.append_nil, List.cons_append, List.nil_append, List.getElem?_cons_zero, List.getElem?_cons_succ, List.set_cons_zero, List.set_cons_succ, Option.some.injEq, D.int.injEq, D.bl.injEq, D.str.injEq, D.tup.injEq, D.ref.injEq, exists_eq_left', exists_eq_left, exists_eq_right, true_and, and_true, Nat.reduceSub, Nat.reduceAdd, Nat.zero_add, reduceCtorEq, false_implies, true_implies, decide_eq_true_eq, decide_eq_false_iff_not, forall_const, List.any_cons, List.any_nil, Bool.or_false, subTy, pl1_0, pn1, pl2_0, pl2_1, pn2, pl3_0, pl3_1, pl3_2, pn3, pl4_0, pl4_1, pl4_2, pl4_3, pn4, pl5_0, pl5_1, pl5_2, pl5_3, pl5_4, pn5, pl6_0, pl6_1, pl6_2, pl6_3, pl6_4, pl6_5, pn6, pl7_0, pl7_1, pl7_2, pl7_3, pl7_4, pl7_5, pl7_6, pn7, pl8_0, pl8_1, pl8_2, pl8_3, pl8_4, pl8_5, pl8_6, pl8_7, pn8, pl9_0, pl9_1, pl9_2, pl9_3, pl9_4, pl9_5, pl9_6, pl9_7, pl9_8, pn9]
      refine ⟨fun hb => fin l h _ _ h1 h2 (by omega), fun hb => ?_⟩
      have hl : l < h := sq_lt (Nat.lt_of_le_of_lt h1 h2)
      have d1 : DivOk ((l : Nat) + (h : Nat) : Int) 2 := div_ok (k := 10) (by decide) (by decide) (by decide)
      simp only [_law_root_3b_2, wpS, wpE, wpEs, wpP, wpI, wpT, begin_, hxD, hxD.hxL, catch_, putAll, Ev.unpack, tgSem, wipe, o_add, o_sub, o_mul, o_div, o_mod, o_pow, o_tup, o_lst, o_rep, c_eq, c_ne, c_lt, c_le, c_gt, c_ge, c_isn, c_notn, c_isb, c_in, c_nin, q_int, q_bl, not_true_eq_false, not_false_eq_true, Bool.false_or, Bool.true_or, Bool.or_true, Bool.true_and, Bool.false_and, Bool.and_true, Bool.and_false,  id_eq, lst_new, boolsD, intsD, Option.map_some, List.all_cons, List.all_nil, List.map_append,  q_lit, String.reduceEq, decide_true, decide_false, Bool.not_true, Bool.not_false, Bool.true_eq_false, Bool.false_eq_true, eq_self, i_isn, i_isi, i_isb, i_iss, i_ist, i_isr, t_non, t_int, t_bl, t_str, t_tup, t_fz, b_abs, b_lent, b_lenf, b_lens, b_list, b_tuple, b_int, b_intb, b_sum, b_min2, b_max2, b_all, b_any, b_gcd, b_dict, m_app, m_ext, m_popi, m_pop, x_tup, x_fz, List.map_cons, List.map_nil, List.length_cons, List.length_nil, List.replicate, List.append_nil, List.cons_append, List.nil_append, List.getElem?_cons_zero, List.getElem?_cons_succ, List.set_cons_zero, List.set_cons_succ, Option.some.injEq, D.int.injEq, D.bl.injEq, D.str.injEq, D.tup.injEq, D.ref.injEq, exists_eq_left', exists_eq_left, exists_eq_right, true_and, and_true, Nat.reduceSub, Nat.reduceAdd, Nat.zero_add, reduceCtorEq, false_implies, true_implies, decide_eq_true_eq, decide_eq_false_iff_not, forall_const, List.any_cons, List.any_nil, Bool.or_false, subTy, pl1_0, pn1, pl2_0, pl2_1, pn2, pl3_0, pl3_1, pl3_2, pn3, pl4_0, pl4_1, pl4_2, pl4_3, pn4, pl5_0, pl5_1, pl5_2, pl5_3, pl5_4, pn5, pl6_0, pl6_1, pl6_2, pl6_3, pl6_4, pl6_5, pn6, pl7_0, pl7_1, pl7_2, pl7_3, pl7_4, pl7_5, pl7_6, pn7, pl8_0, pl8_1, pl8_2, pl8_3, pl8_4, pl8_5, pl8_6, pl8_7, pn8, pl9_0, pl9_1, pl9_2, pl9_3, pl9_4, pl9_5, pl9_6, pl9_7, pl9_8, pn9, d1]
      have em : ((l : Int) + (h : Int)).fdiv 2 = (((l + h) / 2 : Nat) : Int) := by
        rw [Int.fdiv_eq_ediv_of_nonneg _ (by decide)]
        omega
      rw [em]
      generalize hm : (l + h) / 2 = m
      have hm0 : l < m := by omega
      have hm1 : m < h := by omega
      have hmm : m < 2 ^ 4001 := by omega
      have m1 : MulOk (m : Nat) (m : Nat) := mul_ok (nat_up hmm) (nat_up hmm) (by decide)
      simp only [_law_root_3b_3, wpS, wpE, wpEs, wpP, wpI, wpT, begin_, hxD, hxD.hxL, catch_, putAll, Ev.unpack, tgSem, wipe, o_add, o_sub, o_mul, o_div, o_mod, o_pow, o_tup, o_lst, o_rep, c_eq, c_ne, c_lt, c_le, c_gt, c_ge, c_isn, c_notn, c_isb, c_in, c_nin, q_int, q_bl, not_true_eq_false, not_false_eq_true, Bool.false_or, Bool.true_or, Bool.or_true, Bool.true_and, Bool.false_and, Bool.and_true, Bool.and_false,  id_eq, lst_new, boolsD, intsD, Option.map_some, List.all_cons, List.all_nil, List.map_append,  q_lit, String.reduceEq, decide_true, decide_false, Bool.not_true, Bool.not_false, Bool.true_eq_false, Bool.false_eq_true, eq_self, i_isn, i_isi, i_isb, i_iss, i_ist, i_isr, t_non, t_int, t_bl, t_str, t_tup, t_fz, b_abs, b_lent, b_lenf, b_lens, b_list, b_tuple, b_int, b_intb, b_sum, b_min2, b_max2, b_all, b_any, b_gcd, b_dict, m_app, m_ext, m_popi, m_pop, x_tup, x_fz, List.map_cons, List.map_nil, List.length_cons, List.length_nil, List.replicate, List.append_nil, List.cons_append, List.nil_append, List.getElem?_cons_zero, List.getElem?_cons_succ, List.set_cons_zero, List.set_cons_succ, Option.some.injEq, D.int.injEq, D.bl.injEq, D.str.injEq, D.tup.injEq, D.ref.injEq, exists_eq_left', exists_eq_left, exists_eq_right, true_and, and_true, Nat.reduceSub, Nat.reduceAdd, Nat.zero_add, reduceCtorEq, false_implies, true_implies, decide_eq_true_eq, decide_eq_false_iff_not, forall_const, List.any_cons, List.any_nil, Bool.or_false, subTy, pl1_0, pn1, pl2_0, pl2_1, pn2, pl3_0, pl3_1, pl3_2, pn3, pl4_0, pl4_1, pl4_2, pl4_3, pn4, pl5_0, pl5_1, pl5_2, pl5_3, pl5_4, pn5, pl6_0, pl6_1, pl6_2, pl6_3, pl6_4, pl6_5, pn6, pl7_0, pl7_1, pl7_2, pl7_3, pl7_4, pl7_5, pl7_6, pn7, pl8_0, pl8_1, pl8_2, pl8_3, pl8_4, pl8_5, pl8_6, pl8_7, pn8, pl9_0, pl9_1, pl9_2, pl9_3, pl9_4, pl9_5, pl9_6, pl9_7, pl9_8, pn9, m1]
      have hg : 1 ≤ g := by
        rcases Nat.eq_zero_or_pos g with e | e
        · subst e
          omega
        · exact e
      obtain ⟨g, rfl⟩ : ∃ j, g = j + 1 := ⟨g - 1, by omega⟩
      rw [Nat.pow_succ] at h4
      rw [List.length_cons] at h5
      have two : (2 : Nat) ≤ most := by decide
      refine ⟨fun hc => ?_, fun hc => ?_⟩
      · refine ⟨two, hN _ _ ⟨m, h, g, _, _, rfl, by exact_mod_cast hc, h2, h3, by omega, by omega, rfl⟩⟩
      · have hc' : a < m * m := by
          have : ¬ m * m ≤ a := fun h' => hc (by exact_mod_cast h')
          omega
        refine ⟨two, hN _ _ ⟨l, m, g, _, _, rfl, h1, hc', by omega, by omega, by omega, rfl⟩⟩
    · obtain ⟨l, h, g, t, u, rfl, h1, h2, h3, h4, h5, rfl⟩ := hI
      simp at h5
    · rw [rangeD_length]
      decide
  simp only [f__law_root, _law_root_1, wpS, wpE, wpEs, wpP, wpI, wpT, begin_, hxD, hxD.hxL, catch_, putAll, Ev.unpack, tgSem, wipe, o_add, o_sub, o_mul, o_div, o_mod, o_pow, o_tup, o_lst, o_rep, c_eq, c_ne, c_lt, c_le, c_gt, c_ge, c_isn, c_notn, c_isb, c_in, c_nin, q_int, q_bl, not_true_eq_false, not_false_eq_true, Bool.false_or, Bool.true_or, Bool.or_true, Bool.true_and, Bool.false_and, Bool.and_true, Bool.and_false,  id_eq, lst_new, boolsD, intsD, Option.map_some, List.all_cons, List.all_nil, List.map_append,  q_lit, String.reduceEq, decide_true, decide_false, Bool.not_true, Bool.not_false, Bool.true_eq_false, Bool.false_eq_true, eq_self, i_isn, i_isi, i_isb, i_iss, i_ist, i_isr, t_non, t_int, t_bl, t_str, t_tup, t_fz, b_abs, b_lent, b_lenf, b_lens, b_list, b_tuple, b_int, b_intb, b_sum, b_min2, b_max2, b_all, b_any, b_gcd, b_dict, m_app, m_ext, m_popi, m_pop, x_tup, x_fz, List.map_cons, List.map_nil, List.length_cons, List.length_nil, List.replicate, List.append_nil, List.cons_append, List.nil_append, List.getElem?_cons_zero, List.getElem?_cons_succ, List.set_cons_zero, List.set_cons_succ, Option.some.injEq, D.int.injEq, D.bl.injEq, D.str.injEq, D.tup.injEq, D.ref.injEq, exists_eq_left', exists_eq_left, exists_eq_right, true_and, and_true, Nat.reduceSub, Nat.reduceAdd, Nat.zero_add, reduceCtorEq, false_implies, true_implies, decide_eq_true_eq, decide_eq_false_iff_not, forall_const, List.any_cons, List.any_nil, Bool.or_false, subTy, pl1_0, pn1, pl2_0, pl2_1, pn2, pl3_0, pl3_1, pl3_2, pn3, pl4_0, pl4_1, pl4_2, pl4_3, pn4, pl5_0, pl5_1, pl5_2, pl5_3, pl5_4, pn5, pl6_0, pl6_1, pl6_2, pl6_3, pl6_4, pl6_5, pn6, pl7_0, pl7_1, pl7_2, pl7_3, pl7_4, pl7_5, pl7_6, pn7, pl8_0, pl8_1, pl8_2, pl8_3, pl8_4, pl8_5, pl8_6, pl8_7, pn8, pl9_0, pl9_1, pl9_2, pl9_3, pl9_4, pl9_5, pl9_6, pl9_7, pl9_8, pn9]
  simp only [_law_root_2, wpS, wpE, wpEs, wpP, wpI, wpT, begin_, hxD, hxD.hxL, catch_, putAll, Ev.unpack, tgSem, wipe, o_add, o_sub, o_mul, o_div, o_mod, o_pow, o_tup, o_lst, o_rep, c_eq, c_ne, c_lt, c_le, c_gt, c_ge, c_isn, c_notn, c_isb, c_in, c_nin, q_int, q_bl, not_true_eq_false, not_false_eq_true, Bool.false_or, Bool.true_or, Bool.or_true, Bool.true_and, Bool.false_and, Bool.and_true, Bool.and_false,  id_eq, lst_new, boolsD, intsD, Option.map_some, List.all_cons, List.all_nil, List.map_append,  q_lit, String.reduceEq, decide_true, decide_false, Bool.not_true, Bool.not_false, Bool.true_eq_false, Bool.false_eq_true, eq_self, i_isn, i_isi, i_isb, i_iss, i_ist, i_isr, t_non, t_int, t_bl, t_str, t_tup, t_fz, b_abs, b_lent, b_lenf, b_lens, b_list, b_tuple, b_int, b_intb, b_sum, b_min2, b_max2, b_all, b_any, b_gcd, b_dict, m_app, m_ext, m_popi, m_pop, x_tup, x_fz, List.map_cons, List.map_nil, List.length_cons, List.length_nil, List.replicate, List.append_nil, List.cons_append, List.nil_append, List.getElem?_cons_zero, List.getElem?_cons_succ, List.set_cons_zero, List.set_cons_succ, Option.some.injEq, D.int.injEq, D.bl.injEq, D.str.injEq, D.tup.injEq, D.ref.injEq, exists_eq_left', exists_eq_left, exists_eq_right, true_and, and_true, Nat.reduceSub, Nat.reduceAdd, Nat.zero_add, reduceCtorEq, false_implies, true_implies, decide_eq_true_eq, decide_eq_false_iff_not, forall_const, List.any_cons, List.any_nil, Bool.or_false, subTy, pl1_0, pn1, pl2_0, pl2_1, pn2, pl3_0, pl3_1, pl3_2, pn3, pl4_0, pl4_1, pl4_2, pl4_3, pn4, pl5_0, pl5_1, pl5_2, pl5_3, pl5_4, pn5, pl6_0, pl6_1, pl6_2, pl6_3, pl6_4, pl6_5, pn6, pl7_0, pl7_1, pl7_2, pl7_3, pl7_4, pl7_5, pl7_6, pn7, pl8_0, pl8_1, pl8_2, pl8_3, pl8_4, pl8_5, pl8_6, pl8_7, pn8, pl9_0, pl9_1, pl9_2, pl9_3, pl9_4, pl9_5, pl9_6, pl9_7, pl9_8, pn9, srcRng]
  refine ⟨by decide, by decide, ?_⟩
  let I : List D → Ev.Env → Sto → Prop := fun rest env S' => ∃ (i : Nat) (t : Option D), env = [some (.int (a : Nat)), some (.int 0), some (.int (2 ^ i : Nat)), t, none] ∧ i ≤ 4001 ∧ rest.length + i = 40000 ∧ S' = S
  refine walk_I I (fun _ _ _ _ => trivial) (fun z rest env S' hI N hN => ?_) (fun env S' hI => ?_) _ _ _ ⟨0, none, rfl, by omega, by rw [rangeD_length]; rfl, rfl⟩
  · obtain ⟨i, t, rfl, h1, h2, rfl⟩ := hI
    have hp : 2 ^ i < 2 ^ 4002 := Nat.pow_lt_pow_right (by decide) (by omega)
    have m1 : MulOk (2 ^ i : Nat) (2 ^ i : Nat) := mul_ok (nat_up hp) (nat_up hp) (by decide)
    have m2 : MulOk 2 (2 ^ i : Nat) := mul_ok (a := 2) (by decide) (nat_up hp) (by decide)
    simp only [_law_root_2b_1, _law_root_2b_2, wpS, wpE, wpEs, wpP, wpI, wpT, begin_, hxD, hxD.hxL, catch_, putAll, Ev.unpack, tgSem, wipe, o_add, o_sub, o_mul, o_div, o_mod, o_pow, o_tup, o_lst, o_rep, c_eq, c_ne, c_lt, c_le, c_gt, c_ge, c_isn, c_notn, c_isb, c_in, c_nin, q_int, q_bl, not_true_eq_false, not_false_eq_true, Bool.false_or, Bool.true_or, Bool.or_true, Bool.true_and, Bool.false_and, Bool.and_true, Bool.and_false,  id_eq, lst_new, boolsD, intsD, Option.map_some, List.all_cons, List.all_nil, List.map_append,  q_lit, String.reduceEq, decide_true, decide_false, Bool.not_true, Bool.not_false, Bool.true_eq_false, Bool.false_eq_true, eq_self, i_isn, i_isi, i_isb, i_iss, i_ist, i_isr, t_non, t_int, t_bl, t_str, t_tup, t_fz, b_abs, b_lent, b_lenf, b_lens, b_list, b_tuple, b_int, b_intb, b_sum, b_min2, b_max2, b_all, b_any, b_gcd, b_dict, m_app, m_ext, m_popi, m_pop, x_tup, x_fz, List.map_cons, List.map_nil, List.length_cons, List.length_nil, List.replicate, List.append_nil, List.cons_append, List.nil_append, List.getElem?_cons_zero, List.getElem?_cons_succ, List.set_cons_zero, List.set_cons_succ, Option.some.injEq, D.int.injEq, D.bl.injEq, D.str.injEq, D.tup.injEq, D.ref.injEq, exists_eq_left', exists_eq_left, exists_eq_right, true_and, and_true, Nat.reduceSub, Nat.reduceAdd, Nat.zero_add, reduceCtorEq, false_implies, true_implies, decide_eq_true_eq, decide_eq_false_iff_not, forall_const, List.any_cons, List.any_nil, Bool.or_false, subTy, pl1_0, pn1, pl2_0, pl2_1, pn2, pl3_0, pl3_1, pl3_2, pn3, pl4_0, pl4_1, pl4_2, pl4_3, pn4, pl5_0, pl5_1, pl5_2, pl5_3, pl5_4, pn5, pl6_0, pl6_1, pl6_2, pl6_3, pl6_4, pl6_5, pn6, pl7_0, pl7_1, pl7_2, pl7_3, pl7_4, pl7_5, pl7_6, pn7, pl8_0, pl8_1, pl8_2, pl8_3, pl8_4, pl8_5, pl8_6, pl8_7, pn8, pl9_0, pl9_1, pl9_2, pl9_3, pl9_4, pl9_5, pl9_6, pl9_7, pl9_8, pn9, m1, m2]
    refine ⟨fun hb => ?_, fun hb => ?_⟩
    · have t' := tail (2 ^ i) (some z) (by exact_mod_cast hb) (Nat.pow_le_pow_right (by decide) h1)
      simp only [wpS, wpE, wpEs, wpP, wpI, wpT, begin_, hxD, hxD.hxL, catch_, putAll, Ev.unpack, tgSem, wipe, o_add, o_sub, o_mul, o_div, o_mod, o_pow, o_tup, o_lst, o_rep, c_eq, c_ne, c_lt, c_le, c_gt, c_ge, c_isn, c_notn, c_isb, c_in, c_nin, q_int, q_bl, not_true_eq_false, not_false_eq_true, Bool.false_or, Bool.true_or, Bool.or_true, Bool.true_and, Bool.false_and, Bool.and_true, Bool.and_false,  id_eq, lst_new, boolsD, intsD, Option.map_some, List.all_cons, List.all_nil, List.map_append,  q_lit, String.reduceEq, decide_true, decide_false, Bool.not_true, Bool.not_false, Bool.true_eq_false, Bool.false_eq_true, eq_self, i_isn, i_isi, i_isb, i_iss, i_ist, i_isr, t_non, t_int, t_bl, t_str, t_tup, t_fz, b_abs, b_lent, b_lenf, b_lens, b_list, b_tuple, b_int, b_intb, b_sum, b_min2, b_max2, b_all, b_any, b_gcd, b_dict, m_app, m_ext, m_popi, m_pop, x_tup, x_fz, List.map_cons, List.map_nil, List.length_cons, List.length_nil, List.replicate, List.append_nil, List.cons_append, List.nil_append, List.getElem?_cons_zero, List.getElem?_cons_succ, List.set_cons_zero, List.set_cons_succ, Option.some.injEq, D.int.injEq, D.bl.injEq, D.str.injEq, D.tup.injEq, D.ref.injEq, exists_eq_left', exists_eq_left, exists_eq_right, true_and, and_true, Nat.reduceSub, Nat.reduceAdd, Nat.zero_add, reduceCtorEq, false_implies, true_implies, decide_eq_true_eq, decide_eq_false_iff_not, forall_const, List.any_cons, List.any_nil, Bool.or_false, subTy, pl1_0, pn1, pl2_0, pl2_1, pn2, pl3_0, pl3_1, pl3_2, pn3, pl4_0, pl4_1, pl4_2, pl4_3, pn4, pl5_0, pl5_1, pl5_2, pl5_3, pl5_4, pn5, pl6_0, pl6_1, pl6_2, pl6_3, pl6_4, pl6_5, pn6, pl7_0, pl7_1, pl7_2, pl7_3, pl7_4, pl7_5, pl7_6, pn7, pl8_0, pl8_1, pl8_2, pl8_3, pl8_4, pl8_5, pl8_6, pl8_7, pn8, pl9_0, pl9_1, pl9_2, pl9_3, pl9_4, pl9_5, pl9_6, pl9_7, pl9_8, pn9] at t'
      exact t'
    · rw [List.length_cons] at h2
      have hs : 2 ^ i * 2 ^ i ≤ a := by
        have : ¬ a < 2 ^ i * 2 ^ i := fun h' => hb (by exact_mod_cast h')
        omega
      have hi : i < 4000 := by
        rcases Nat.lt_or_ge i 4000 with g | g
        · exact g
        · have e : 2 ^ 8000 ≤ 2 ^ (i + i) := Nat.pow_le_pow_right (by decide) (by omega)
          rw [Nat.pow_add] at e
          omega
      refine hN _ _ ⟨i + 1, some z, ?_, by omega, by omega, rfl⟩
      have e : (2 : Int) * (2 ^ i : Nat) = (2 ^ (i + 1) : Nat) := by
        rw [Nat.pow_succ]
        omega
      rw [e]
  · obtain ⟨i, t, rfl, h1, h2, rfl⟩ := hI
    simp at h2
    omega
end
end EvL
end
section
set_option Elab.async false
set_option linter.all false
set_option maxRecDepth 100000
set_option maxHeartbeats 400000
set_option exponentiation.threshold 20000
namespace EvL
open PySem (Str)
open Ev
section
variable {n : Nat} {S : Sto} {Q : Po} {E : Xo} {b k : Nat}
theorem rootI_pos {a : Nat} (h : isq a * isq a = a) : rootI a = .int (isq a : Nat) := if_pos h
theorem rootI_neg {a : Nat} (h : ¬ isq a * isq a = a) : rootI a = .non := if_neg h
theorem r__law_sqrt {x : Rat} (hx : Sz 4000 x) (q : Q (rootV x) S) : run sub TT (n + 2) i__law_sqrt [FD x] S Q E := by
  rw [run_eq at__law_sqrt rfl]
  have hn := hx.1
  have hd : x.den < 2 ^ 8000 := lt_up hx.2 (by decide)
  unfold rootV at q
  simp only [f__law_sqrt, _law_sqrt_1, FD, wpS, wpE, wpEs, wpP, wpI, wpT, begin_, hxD, hxD.hxL, catch_, putAll, Ev.unpack, tgSem, wipe, o_add, o_sub, o_mul, o_div, o_mod, o_pow, o_tup, o_lst, o_rep, c_eq, c_ne, c_lt, c_le, c_gt, c_ge, c_isn, c_notn, c_isb, c_in, c_nin, q_int, q_bl, not_true_eq_false, not_false_eq_true, Bool.false_or, Bool.true_or, Bool.or_true, Bool.true_and, Bool.false_and, Bool.and_true, Bool.and_false,  id_eq, lst_new, boolsD, intsD, Option.map_some, List.all_cons, List.all_nil, List.map_append,  q_lit, String.reduceEq, decide_true, decide_false, Bool.not_true, Bool.not_false, Bool.true_eq_false, Bool.false_eq_true, eq_self, i_isn, i_isi, i_isb, i_iss, i_ist, i_isr, t_non, t_int, t_bl, t_str, t_tup, t_fz, b_abs, b_lent, b_lenf, b_lens, b_list, b_tuple, b_int, b_intb, b_sum, b_min2, b_max2, b_all, b_any, b_gcd, b_dict, m_app, m_ext, m_popi, m_pop, x_tup, x_fz, List.map_cons, List.map_nil, List.length_cons, List.length_nil, List.replicate, List.append_nil, List.cons_append, List.nil_append, List.getElem?_cons_zero, List.getElem?_cons_succ, List.set_cons_zero, List.set_cons_succ, Option.some.injEq, D.int.injEq, D.bl.injEq, D.str.injEq, D.tup.injEq, D.ref.injEq, exists_eq_left', exists_eq_left, exists_eq_right, true_and, and_true, Nat.reduceSub, Nat.reduceAdd, Nat.zero_add, reduceCtorEq, false_implies, true_implies, decide_eq_true_eq, decide_eq_false_iff_not, forall_const, List.any_cons, List.any_nil, Bool.or_false, subTy, pl1_0, pn1, pl2_0, pl2_1, pn2, pl3_0, pl3_1, pl3_2, pn3, pl4_0, pl4_1, pl4_2, pl4_3, pn4, pl5_0, pl5_1, pl5_2, pl5_3, pl5_4, pn5, pl6_0, pl6_1, pl6_2, pl6_3, pl6_4, pl6_5, pn6, pl7_0, pl7_1, pl7_2, pl7_3, pl7_4, pl7_5, pl7_6, pn7, pl8_0, pl8_1, pl8_2, pl8_3, pl8_4, pl8_5, pl8_6, pl8_7, pn8, pl9_0, pl9_1, pl9_2, pl9_3, pl9_4, pl9_5, pl9_6, pl9_7, pl9_8, pn9]
  refine ⟨fun h => ?_, fun h => ?_⟩
  · rw [if_pos h] at q
    exact q
  · rw [if_neg h] at q
    obtain ⟨a, ha⟩ : ∃ a : Nat, x.num = (a : Int) := ⟨x.num.toNat, by omega⟩
    have hn2 : a < 2 ^ 8000 := lt_up (show a < 2 ^ 4000 by omega) (by decide)
    rw [ha] at q ⊢
    rw [Int.toNat_natCast] at q
    refine r__law_root hn2 ?_
    by_cases c1 : isq a * isq a = a
    · rw [rootI_pos c1]
      simp only [wpS, wpE, wpEs, wpP, wpI, wpT, begin_, hxD, hxD.hxL, catch_, putAll, Ev.unpack, tgSem, wipe, o_add, o_sub, o_mul, o_div, o_mod, o_pow, o_tup, o_lst, o_rep, c_eq, c_ne, c_lt, c_le, c_gt, c_ge, c_isn, c_notn, c_isb, c_in, c_nin, q_int, q_bl, not_true_eq_false, not_false_eq_true, Bool.false_or, Bool.true_or, Bool.or_true, Bool.true_and, Bool.false_and, Bool.and_true, Bool.and_false,  id_eq, lst_new, boolsD, intsD, Option.map_some, List.all_cons, List.all_nil, List.map_append,  q_lit, String.reduceEq, decide_true, decide_false, Bool.not_true, Bool.not_false, Bool.true_eq_false, Bool.false_eq_true, eq_self, i_isn, i_isi, i_isb, i_iss, i_ist, i_isr, t_non, t_int, t_bl, t_str, t_tup, t_fz, b_abs, b_lent, b_lenf, b_lens, b_list, b_tuple, b_int, b_intb, b_sum, b_min2, b_max2, b_all, b_any, b_gcd, b_dict, m_app, m_ext, m_popi, m_pop, x_tup, x_fz, List.map_cons, List.map_nil, List.length_cons, List.length_nil, List.replicate, List.append_nil, List.cons_append, List.nil_append, List.getElem?_cons_zero, List.getElem?_cons_succ, List.set_cons_zero, List.set_cons_succ, Option.some.injEq, D.int.injEq, D.bl.injEq, D.str.injEq, D.tup.injEq, D.ref.injEq, exists_eq_left', exists_eq_left, exists_eq_right, true_and, and_true, Nat.reduceSub, Nat.reduceAdd, Nat.zero_add, reduceCtorEq, false_implies, true_implies, decide_eq_true_eq, decide_eq_false_iff_not, forall_const, List.any_cons, List.any_nil, Bool.or_false, subTy, pl1_0, pn1, pl2_0, pl2_1, pn2, pl3_0, pl3_1, pl3_2, pn3, pl4_0, pl4_1, pl4_2, pl4_3, pn4, pl5_0, pl5_1, pl5_2, pl5_3, pl5_4, pn5, pl6_0, pl6_1, pl6_2, pl6_3, pl6_4, pl6_5, pn6, pl7_0, pl7_1, pl7_2, pl7_3, pl7_4, pl7_5, pl7_6, pn7, pl8_0, pl8_1, pl8_2, pl8_3, pl8_4, pl8_5, pl8_6, pl8_7, pn8, pl9_0, pl9_1, pl9_2, pl9_3, pl9_4, pl9_5, pl9_6, pl9_7, pl9_8, pn9]
      refine r__law_root hd ?_
      by_cases c2 : isq x.den * isq x.den = x.den
      · rw [rootI_pos c2]
        simp only [wpS, wpE, wpEs, wpP, wpI, wpT, begin_, hxD, hxD.hxL, catch_, putAll, Ev.unpack, tgSem, wipe, o_add, o_sub, o_mul, o_div, o_mod, o_pow, o_tup, o_lst, o_rep, c_eq, c_ne, c_lt, c_le, c_gt, c_ge, c_isn, c_notn, c_isb, c_in, c_nin, q_int, q_bl, not_true_eq_false, not_false_eq_true, Bool.false_or, Bool.true_or, Bool.or_true, Bool.true_and, Bool.false_and, Bool.and_true, Bool.and_false,  id_eq, lst_new, boolsD, intsD, Option.map_some, List.all_cons, List.all_nil, List.map_append,  q_lit, String.reduceEq, decide_true, decide_false, Bool.not_true, Bool.not_false, Bool.true_eq_false, Bool.false_eq_true, eq_self, i_isn, i_isi, i_isb, i_iss, i_ist, i_isr, t_non, t_int, t_bl, t_str, t_tup, t_fz, b_abs, b_lent, b_lenf, b_lens, b_list, b_tuple, b_int, b_intb, b_sum, b_min2, b_max2, b_all, b_any, b_gcd, b_dict, m_app, m_ext, m_popi, m_pop, x_tup, x_fz, List.map_cons, List.map_nil, List.length_cons, List.length_nil, List.replicate, List.append_nil, List.cons_append, List.nil_append, List.getElem?_cons_zero, List.getElem?_cons_succ, List.set_cons_zero, List.set_cons_succ, Option.some.injEq, D.int.injEq, D.bl.injEq, D.str.injEq, D.tup.injEq, D.ref.injEq, exists_eq_left', exists_eq_left, exists_eq_right, true_and, and_true, Nat.reduceSub, Nat.reduceAdd, Nat.zero_add, reduceCtorEq, false_implies, true_implies, decide_eq_true_eq, decide_eq_false_iff_not, forall_const, List.any_cons, List.any_nil, Bool.or_false, subTy, pl1_0, pn1, pl2_0, pl2_1, pn2, pl3_0, pl3_1, pl3_2, pn3, pl4_0, pl4_1, pl4_2, pl4_3, pn4, pl5_0, pl5_1, pl5_2, pl5_3, pl5_4, pn5, pl6_0, pl6_1, pl6_2, pl6_3, pl6_4, pl6_5, pn6, pl7_0, pl7_1, pl7_2, pl7_3, pl7_4, pl7_5, pl7_6, pn7, pl8_0, pl8_1, pl8_2, pl8_3, pl8_4, pl8_5, pl8_6, pl8_7, pn8, pl9_0, pl9_1, pl9_2, pl9_3, pl9_4, pl9_5, pl9_6, pl9_7, pl9_8, pn9, _law_sqrt_2]
        refine r__law_root hn2 ?_
        refine r__law_root hd ?_
        rw [rootI_pos c1, rootI_pos c2]
        rw [if_pos ⟨c1, c2⟩] at q
        exact ⟨by decide, q⟩
      · rw [rootI_neg c2]
        simp only [wpS, wpE, wpEs, wpP, wpI, wpT, begin_, hxD, hxD.hxL, catch_, putAll, Ev.unpack, tgSem, wipe, o_add, o_sub, o_mul, o_div, o_mod, o_pow, o_tup, o_lst, o_rep, c_eq, c_ne, c_lt, c_le, c_gt, c_ge, c_isn, c_notn, c_isb, c_in, c_nin, q_int, q_bl, not_true_eq_false, not_false_eq_true, Bool.false_or, Bool.true_or, Bool.or_true, Bool.true_and, Bool.false_and, Bool.and_true, Bool.and_false,  id_eq, lst_new, boolsD, intsD, Option.map_some, List.all_cons, List.all_nil, List.map_append,  q_lit, String.reduceEq, decide_true, decide_false, Bool.not_true, Bool.not_false, Bool.true_eq_false, Bool.false_eq_true, eq_self, i_isn, i_isi, i_isb, i_iss, i_ist, i_isr, t_non, t_int, t_bl, t_str, t_tup, t_fz, b_abs, b_lent, b_lenf, b_lens, b_list, b_tuple, b_int, b_intb, b_sum, b_min2, b_max2, b_all, b_any, b_gcd, b_dict, m_app, m_ext, m_popi, m_pop, x_tup, x_fz, List.map_cons, List.map_nil, List.length_cons, List.length_nil, List.replicate, List.append_nil, List.cons_append, List.nil_append, List.getElem?_cons_zero, List.getElem?_cons_succ, List.set_cons_zero, List.set_cons_succ, Option.some.injEq, D.int.injEq, D.bl.injEq, D.str.injEq, D.tup.injEq, D.ref.injEq, exists_eq_left', exists_eq_left, exists_eq_right, true_and, and_true, Nat.reduceSub, Nat.reduceAdd, Nat.zero_add, reduceCtorEq, false_implies, true_implies, decide_eq_true_eq, decide_eq_false_iff_not, forall_const, List.any_cons, List.any_nil, Bool.or_false, subTy, pl1_0, pn1, pl2_0, pl2_1, pn2, pl3_0, pl3_1, pl3_2, pn3, pl4_0, pl4_1, pl4_2, pl4_3, pn4, pl5_0, pl5_1, pl5_2, pl5_3, pl5_4, pn5, pl6_0, pl6_1, pl6_2, pl6_3, pl6_4, pl6_5, pn6, pl7_0, pl7_1, pl7_2, pl7_3, pl7_4, pl7_5, pl7_6, pn7, pl8_0, pl8_1, pl8_2, pl8_3, pl8_4, pl8_5, pl8_6, pl8_7, pn8, pl9_0, pl9_1, pl9_2, pl9_3, pl9_4, pl9_5, pl9_6, pl9_7, pl9_8, pn9]
        rw [if_neg (fun z => c2 z.2)] at q
        exact q
    · rw [rootI_neg c1]
      simp only [wpS, wpE, wpEs, wpP, wpI, wpT, begin_, hxD, hxD.hxL, catch_, putAll, Ev.unpack, tgSem, wipe, o_add, o_sub, o_mul, o_div, o_mod, o_pow, o_tup, o_lst, o_rep, c_eq, c_ne, c_lt, c_le, c_gt, c_ge, c_isn, c_notn, c_isb, c_in, c_nin, q_int, q_bl, not_true_eq_false, not_false_eq_true, Bool.false_or, Bool.true_or, Bool.or_true, Bool.true_and, Bool.false_and, Bool.and_true, Bool.and_false,  id_eq, lst_new, boolsD, intsD, Option.map_some, List.all_cons, List.all_nil, List.map_append,  q_lit, String.reduceEq, decide_true, decide_false, Bool.not_true, Bool.not_false, Bool.true_eq_false, Bool.false_eq_true, eq_self, i_isn, i_isi, i_isb, i_iss, i_ist, i_isr, t_non, t_int, t_bl, t_str, t_tup, t_fz, b_abs, b_lent, b_lenf, b_lens, b_list, b_tuple, b_int, b_intb, b_sum, b_min2, b_max2, b_all, b_any, b_gcd, b_dict, m_app, m_ext, m_popi, m_pop, x_tup, x_fz, List.map_cons, List.map_nil, List.length_cons, List.length_nil, List.replicate, List.append_nil, List.cons_append, List.nil_append, List.getElem?_cons_zero, List.getElem?_cons_succ, List.set_cons_zero, List.set_cons_succ, Option.some.injEq, D.int.injEq, D.bl.injEq, D.str.injEq, D.tup.injEq, D.ref.injEq, exists_eq_left', exists_eq_left, exists_eq_right, true_and, and_true, Nat.reduceSub, Nat.reduceAdd, Nat.zero_add, reduceCtorEq, false_implies, true_implies, decide_eq_true_eq, decide_eq_false_iff_not, forall_const, List.any_cons, List.any_nil, Bool.or_false, subTy, pl1_0, pn1, pl2_0, pl2_1, pn2, pl3_0, pl3_1, pl3_2, pn3, pl4_0, pl4_1, pl4_2, pl4_3, pn4, pl5_0, pl5_1, pl5_2, pl5_3, pl5_4, pn5, pl6_0, pl6_1, pl6_2, pl6_3, pl6_4, pl6_5, pn6, pl7_0, pl7_1, pl7_2, pl7_3, pl7_4, pl7_5, pl7_6, pn7, pl8_0, pl8_1, pl8_2, pl8_3, pl8_4, pl8_5, pl8_6, pl8_7, pn8, pl9_0, pl9_1, pl9_2, pl9_3, pl9_4, pl9_5, pl9_6, pl9_7, pl9_8, pn9]
      rw [if_neg (fun z => c1 z.1)] at q
      exact q
theorem isFr_len {xs : List D} (h : xs.length ≠ 2) : isFr (.tup xs) = false := by
  cases hd : isFr (.tup xs) with
  | false => rfl
  | true =>
    obtain ⟨x, e⟩ := isFr_iff.mp hd
    cases e
    exact absurd rfl h
theorem r__law_is_fraction {d : D} (h : Wf1 S d) (hz : ∀ a b : Int, d = .tup [.int a, .int b] → a.natAbs < 2 ^ 9000 ∧ b.natAbs < 2 ^ 9000) (q : Q (.bl (isFr d)) S) : run sub TT (n + 2) i__law_is_fraction [d] S Q E := by
  rw [run_eq at__law_is_fraction rfl]
  obtain ⟨⟨t, ht⟩, hw⟩ := h
  by_cases hd : ∃ xs, d = .tup xs
  · obtain ⟨xs, rfl⟩ := hd
    simp only [f__law_is_fraction, _law_is_fraction_1, wpS, wpE, wpEs, wpP, wpI, wpT, begin_, hxD, hxD.hxL, catch_, putAll, Ev.unpack, tgSem, wipe, o_add, o_sub, o_mul, o_div, o_mod, o_pow, o_tup, o_lst, o_rep, c_eq, c_ne, c_lt, c_le, c_gt, c_ge, c_isn, c_notn, c_isb, c_in, c_nin, q_int, q_bl, not_true_eq_false, not_false_eq_true, Bool.false_or, Bool.true_or, Bool.or_true, Bool.true_and, Bool.false_and, Bool.and_true, Bool.and_false,  id_eq, lst_new, boolsD, intsD, Option.map_some, List.all_cons, List.all_nil, List.map_append,  q_lit, String.reduceEq, decide_true, decide_false, Bool.not_true, Bool.not_false, Bool.true_eq_false, Bool.false_eq_true, eq_self, i_isn, i_isi, i_isb, i_iss, i_ist, i_isr, t_non, t_int, t_bl, t_str, t_tup, t_fz, b_abs, b_lent, b_lenf, b_lens, b_list, b_tuple, b_int, b_intb, b_sum, b_min2, b_max2, b_all, b_any, b_gcd, b_dict, m_app, m_ext, m_popi, m_pop, x_tup, x_fz, List.map_cons, List.map_nil, List.length_cons, List.length_nil, List.replicate, List.append_nil, List.cons_append, List.nil_append, List.getElem?_cons_zero, List.getElem?_cons_succ, List.set_cons_zero, List.set_cons_succ, Option.some.injEq, D.int.injEq, D.bl.injEq, D.str.injEq, D.tup.injEq, D.ref.injEq, exists_eq_left', exists_eq_left, exists_eq_right, true_and, and_true, Nat.reduceSub, Nat.reduceAdd, Nat.zero_add, reduceCtorEq, false_implies, true_implies, decide_eq_true_eq, decide_eq_false_iff_not, forall_const, List.any_cons, List.any_nil, Bool.or_false, subTy, pl1_0, pn1, pl2_0, pl2_1, pn2, pl3_0, pl3_1, pl3_2, pn3, pl4_0, pl4_1, pl4_2, pl4_3, pn4, pl5_0, pl5_1, pl5_2, pl5_3, pl5_4, pn5, pl6_0, pl6_1, pl6_2, pl6_3, pl6_4, pl6_5, pn6, pl7_0, pl7_1, pl7_2, pl7_3, pl7_4, pl7_5, pl7_6, pn7, pl8_0, pl8_1, pl8_2, pl8_3, pl8_4, pl8_5, pl8_6, pl8_7, pn8, pl9_0, pl9_1, pl9_2, pl9_3, pl9_4, pl9_5, pl9_6, pl9_7, pl9_8, pn9]
    by_cases hl : xs.length = 2
    rotate_left
    · rw [isFr_len hl] at q
      refine ⟨fun _ => q, fun h => ?_⟩
      exfalso
      simp at h
      omega
    match xs, hl with
    | [x, y], _ =>
      simp only [wpS, wpE, wpEs, wpP, wpI, wpT, begin_, hxD, hxD.hxL, catch_, putAll, Ev.unpack, tgSem, wipe, o_add, o_sub, o_mul, o_div, o_mod, o_pow, o_tup, o_lst, o_rep, c_eq, c_ne, c_lt, c_le, c_gt, c_ge, c_isn, c_notn, c_isb, c_in, c_nin, q_int, q_bl, not_true_eq_false, not_false_eq_true, Bool.false_or, Bool.true_or, Bool.or_true, Bool.true_and, Bool.false_and, Bool.and_true, Bool.and_false,  id_eq, lst_new, boolsD, intsD, Option.map_some, List.all_cons, List.all_nil, List.map_append,  q_lit, String.reduceEq, decide_true, decide_false, Bool.not_true, Bool.not_false, Bool.true_eq_false, Bool.false_eq_true, eq_self, i_isn, i_isi, i_isb, i_iss, i_ist, i_isr, t_non, t_int, t_bl, t_str, t_tup, t_fz, b_abs, b_lent, b_lenf, b_lens, b_list, b_tuple, b_int, b_intb, b_sum, b_min2, b_max2, b_all, b_any, b_gcd, b_dict, m_app, m_ext, m_popi, m_pop, x_tup, x_fz, List.map_cons, List.map_nil, List.length_cons, List.length_nil, List.replicate, List.append_nil, List.cons_append, List.nil_append, List.getElem?_cons_zero, List.getElem?_cons_succ, List.set_cons_zero, List.set_cons_succ, Option.some.injEq, D.int.injEq, D.bl.injEq, D.str.injEq, D.tup.injEq, D.ref.injEq, exists_eq_left', exists_eq_left, exists_eq_right, true_and, and_true, Nat.reduceSub, Nat.reduceAdd, Nat.zero_add, reduceCtorEq, false_implies, true_implies, decide_eq_true_eq, decide_eq_false_iff_not, forall_const, List.any_cons, List.any_nil, Bool.or_false, subTy, pl1_0, pn1, pl2_0, pl2_1, pn2, pl3_0, pl3_1, pl3_2, pn3, pl4_0, pl4_1, pl4_2, pl4_3, pn4, pl5_0, pl5_1, pl5_2, pl5_3, pl5_4, pn5, pl6_0, pl6_1, pl6_2, pl6_3, pl6_4, pl6_5, pn6, pl7_0, pl7_1, pl7_2, pl7_3, pl7_4, pl7_5, pl7_6, pn7, pl8_0, pl8_1, pl8_2, pl8_3, pl8_4, pl8_5, pl8_6, pl8_7, pn8, pl9_0, pl9_1, pl9_2, pl9_3, pl9_4, pl9_5, pl9_6, pl9_7, pl9_8, pn9]
      refine ⟨fun h => absurd h (by decide), fun _ => ?_⟩
      obtain ⟨tx, hx⟩ := hw _ rfl x (by simp)
      obtain ⟨ty, hy⟩ := hw _ rfl y (by simp)
      rw [r__law_is_int hx]
      simp only [wpS, wpE, wpEs, wpP, wpI, wpT, begin_, hxD, hxD.hxL, catch_, putAll, Ev.unpack, tgSem, wipe, o_add, o_sub, o_mul, o_div, o_mod, o_pow, o_tup, o_lst, o_rep, c_eq, c_ne, c_lt, c_le, c_gt, c_ge, c_isn, c_notn, c_isb, c_in, c_nin, q_int, q_bl, not_true_eq_false, not_false_eq_true, Bool.false_or, Bool.true_or, Bool.or_true, Bool.true_and, Bool.false_and, Bool.and_true, Bool.and_false,  id_eq, lst_new, boolsD, intsD, Option.map_some, List.all_cons, List.all_nil, List.map_append,  q_lit, String.reduceEq, decide_true, decide_false, Bool.not_true, Bool.not_false, Bool.true_eq_false, Bool.false_eq_true, eq_self, i_isn, i_isi, i_isb, i_iss, i_ist, i_isr, t_non, t_int, t_bl, t_str, t_tup, t_fz, b_abs, b_lent, b_lenf, b_lens, b_list, b_tuple, b_int, b_intb, b_sum, b_min2, b_max2, b_all, b_any, b_gcd, b_dict, m_app, m_ext, m_popi, m_pop, x_tup, x_fz, List.map_cons, List.map_nil, List.length_cons, List.length_nil, List.replicate, List.append_nil, List.cons_append, List.nil_append, List.getElem?_cons_zero, List.getElem?_cons_succ, List.set_cons_zero, List.set_cons_succ, Option.some.injEq, D.int.injEq, D.bl.injEq, D.str.injEq, D.tup.injEq, D.ref.injEq, exists_eq_left', exists_eq_left, exists_eq_right, true_and, and_true, Nat.reduceSub, Nat.reduceAdd, Nat.zero_add, reduceCtorEq, false_implies, true_implies, decide_eq_true_eq, decide_eq_false_iff_not, forall_const, List.any_cons, List.any_nil, Bool.or_false, subTy, pl1_0, pn1, pl2_0, pl2_1, pn2, pl3_0, pl3_1, pl3_2, pn3, pl4_0, pl4_1, pl4_2, pl4_3, pn4, pl5_0, pl5_1, pl5_2, pl5_3, pl5_4, pn5, pl6_0, pl6_1, pl6_2, pl6_3, pl6_4, pl6_5, pn6, pl7_0, pl7_1, pl7_2, pl7_3, pl7_4, pl7_5, pl7_6, pn7, pl8_0, pl8_1, pl8_2, pl8_3, pl8_4, pl8_5, pl8_6, pl8_7, pn8, pl9_0, pl9_1, pl9_2, pl9_3, pl9_4, pl9_5, pl9_6, pl9_7, pl9_8, pn9]
      cases hix : isInt x with
      | false =>
        simp only [wpS, wpE, wpEs, wpP, wpI, wpT, begin_, hxD, hxD.hxL, catch_, putAll, Ev.unpack, tgSem, wipe, o_add, o_sub, o_mul, o_div, o_mod, o_pow, o_tup, o_lst, o_rep, c_eq, c_ne, c_lt, c_le, c_gt, c_ge, c_isn, c_notn, c_isb, c_in, c_nin, q_int, q_bl, not_true_eq_false, not_false_eq_true, Bool.false_or, Bool.true_or, Bool.or_true, Bool.true_and, Bool.false_and, Bool.and_true, Bool.and_false,  id_eq, lst_new, boolsD, intsD, Option.map_some, List.all_cons, List.all_nil, List.map_append,  q_lit, String.reduceEq, decide_true, decide_false, Bool.not_true, Bool.not_false, Bool.true_eq_false, Bool.false_eq_true, eq_self, i_isn, i_isi, i_isb, i_iss, i_ist, i_isr, t_non, t_int, t_bl, t_str, t_tup, t_fz, b_abs, b_lent, b_lenf, b_lens, b_list, b_tuple, b_int, b_intb, b_sum, b_min2, b_max2, b_all, b_any, b_gcd, b_dict, m_app, m_ext, m_popi, m_pop, x_tup, x_fz, List.map_cons, List.map_nil, List.length_cons, List.length_nil, List.replicate, List.append_nil, List.cons_append, List.nil_append, List.getElem?_cons_zero, List.getElem?_cons_succ, List.set_cons_zero, List.set_cons_succ, Option.some.injEq, D.int.injEq, D.bl.injEq, D.str.injEq, D.tup.injEq, D.ref.injEq, exists_eq_left', exists_eq_left, exists_eq_right, true_and, and_true, Nat.reduceSub, Nat.reduceAdd, Nat.zero_add, reduceCtorEq, false_implies, true_implies, decide_eq_true_eq, decide_eq_false_iff_not, forall_const, List.any_cons, List.any_nil, Bool.or_false, subTy, pl1_0, pn1, pl2_0, pl2_1, pn2, pl3_0, pl3_1, pl3_2, pn3, pl4_0, pl4_1, pl4_2, pl4_3, pn4, pl5_0, pl5_1, pl5_2, pl5_3, pl5_4, pn5, pl6_0, pl6_1, pl6_2, pl6_3, pl6_4, pl6_5, pn6, pl7_0, pl7_1, pl7_2, pl7_3, pl7_4, pl7_5, pl7_6, pn7, pl8_0, pl8_1, pl8_2, pl8_3, pl8_4, pl8_5, pl8_6, pl8_7, pn8, pl9_0, pl9_1, pl9_2, pl9_3, pl9_4, pl9_5, pl9_6, pl9_7, pl9_8, pn9]
        have hf : isFr (.tup [x, y]) = false := by
          cases hd : isFr (.tup [x, y]) with
          | false => rfl
          | true =>
            obtain ⟨x, e⟩ := isFr_iff.mp hd
            cases e
            cases hix
        rw [hf] at q
        exact q
      | true =>
        simp only [wpS, wpE, wpEs, wpP, wpI, wpT, begin_, hxD, hxD.hxL, catch_, putAll, Ev.unpack, tgSem, wipe, o_add, o_sub, o_mul, o_div, o_mod, o_pow, o_tup, o_lst, o_rep, c_eq, c_ne, c_lt, c_le, c_gt, c_ge, c_isn, c_notn, c_isb, c_in, c_nin, q_int, q_bl, not_true_eq_false, not_false_eq_true, Bool.false_or, Bool.true_or, Bool.or_true, Bool.true_and, Bool.false_and, Bool.and_true, Bool.and_false,  id_eq, lst_new, boolsD, intsD, Option.map_some, List.all_cons, List.all_nil, List.map_append,  q_lit, String.reduceEq, decide_true, decide_false, Bool.not_true, Bool.not_false, Bool.true_eq_false, Bool.false_eq_true, eq_self, i_isn, i_isi, i_isb, i_iss, i_ist, i_isr, t_non, t_int, t_bl, t_str, t_tup, t_fz, b_abs, b_lent, b_lenf, b_lens, b_list, b_tuple, b_int, b_intb, b_sum, b_min2, b_max2, b_all, b_any, b_gcd, b_dict, m_app, m_ext, m_popi, m_pop, x_tup, x_fz, List.map_cons, List.map_nil, List.length_cons, List.length_nil, List.replicate, List.append_nil, List.cons_append, List.nil_append, List.getElem?_cons_zero, List.getElem?_cons_succ, List.set_cons_zero, List.set_cons_succ, Option.some.injEq, D.int.injEq, D.bl.injEq, D.str.injEq, D.tup.injEq, D.ref.injEq, exists_eq_left', exists_eq_left, exists_eq_right, true_and, and_true, Nat.reduceSub, Nat.reduceAdd, Nat.zero_add, reduceCtorEq, false_implies, true_implies, decide_eq_true_eq, decide_eq_false_iff_not, forall_const, List.any_cons, List.any_nil, Bool.or_false, subTy, pl1_0, pn1, pl2_0, pl2_1, pn2, pl3_0, pl3_1, pl3_2, pn3, pl4_0, pl4_1, pl4_2, pl4_3, pn4, pl5_0, pl5_1, pl5_2, pl5_3, pl5_4, pn5, pl6_0, pl6_1, pl6_2, pl6_3, pl6_4, pl6_5, pn6, pl7_0, pl7_1, pl7_2, pl7_3, pl7_4, pl7_5, pl7_6, pn7, pl8_0, pl8_1, pl8_2, pl8_3, pl8_4, pl8_5, pl8_6, pl8_7, pn8, pl9_0, pl9_1, pl9_2, pl9_3, pl9_4, pl9_5, pl9_6, pl9_7, pl9_8, pn9]
        rw [r__law_is_int hy]
        simp only [wpS, wpE, wpEs, wpP, wpI, wpT, begin_, hxD, hxD.hxL, catch_, putAll, Ev.unpack, tgSem, wipe, o_add, o_sub, o_mul, o_div, o_mod, o_pow, o_tup, o_lst, o_rep, c_eq, c_ne, c_lt, c_le, c_gt, c_ge, c_isn, c_notn, c_isb, c_in, c_nin, q_int, q_bl, not_true_eq_false, not_false_eq_true, Bool.false_or, Bool.true_or, Bool.or_true, Bool.true_and, Bool.false_and, Bool.and_true, Bool.and_false,  id_eq, lst_new, boolsD, intsD, Option.map_some, List.all_cons, List.all_nil, List.map_append,  q_lit, String.reduceEq, decide_true, decide_false, Bool.not_true, Bool.not_false, Bool.true_eq_false, Bool.false_eq_true, eq_self, i_isn, i_isi, i_isb, i_iss, i_ist, i_isr, t_non, t_int, t_bl, t_str, t_tup, t_fz, b_abs, b_lent, b_lenf, b_lens, b_list, b_tuple, b_int, b_intb, b_sum, b_min2, b_max2, b_all, b_any, b_gcd, b_dict, m_app, m_ext, m_popi, m_pop, x_tup, x_fz, List.map_cons, List.map_nil, List.length_cons, List.length_nil, List.replicate, List.append_nil, List.cons_append, List.nil_append, List.getElem?_cons_zero, List.getElem?_cons_succ, List.set_cons_zero, List.set_cons_succ, Option.some.injEq, D.int.injEq, D.bl.injEq, D.str.injEq, D.tup.injEq, D.ref.injEq, exists_eq_left', exists_eq_left, exists_eq_right, true_and, and_true, Nat.reduceSub, Nat.reduceAdd, Nat.zero_add, reduceCtorEq, false_implies, true_implies, decide_eq_true_eq, decide_eq_false_iff_not, forall_const, List.any_cons, List.any_nil, Bool.or_false, subTy, pl1_0, pn1, pl2_0, pl2_1, pn2, pl3_0, pl3_1, pl3_2, pn3, pl4_0, pl4_1, pl4_2, pl4_3, pn4, pl5_0, pl5_1, pl5_2, pl5_3, pl5_4, pn5, pl6_0, pl6_1, pl6_2, pl6_3, pl6_4, pl6_5, pn6, pl7_0, pl7_1, pl7_2, pl7_3, pl7_4, pl7_5, pl7_6, pn7, pl8_0, pl8_1, pl8_2, pl8_3, pl8_4, pl8_5, pl8_6, pl8_7, pn8, pl9_0, pl9_1, pl9_2, pl9_3, pl9_4, pl9_5, pl9_6, pl9_7, pl9_8, pn9]
        cases hiy : isInt y with
        | false =>
          simp only [wpS, wpE, wpEs, wpP, wpI, wpT, begin_, hxD, hxD.hxL, catch_, putAll, Ev.unpack, tgSem, wipe, o_add, o_sub, o_mul, o_div, o_mod, o_pow, o_tup, o_lst, o_rep, c_eq, c_ne, c_lt, c_le, c_gt, c_ge, c_isn, c_notn, c_isb, c_in, c_nin, q_int, q_bl, not_true_eq_false, not_false_eq_true, Bool.false_or, Bool.true_or, Bool.or_true, Bool.true_and, Bool.false_and, Bool.and_true, Bool.and_false,  id_eq, lst_new, boolsD, intsD, Option.map_some, List.all_cons, List.all_nil, List.map_append,  q_lit, String.reduceEq, decide_true, decide_false, Bool.not_true, Bool.not_false, Bool.true_eq_false, Bool.false_eq_true, eq_self, i_isn, i_isi, i_isb, i_iss, i_ist, i_isr, t_non, t_int, t_bl, t_str, t_tup, t_fz, b_abs, b_lent, b_lenf, b_lens, b_list, b_tuple, b_int, b_intb, b_sum, b_min2, b_max2, b_all, b_any, b_gcd, b_dict, m_app, m_ext, m_popi, m_pop, x_tup, x_fz, List.map_cons, List.map_nil, List.length_cons, List.length_nil, List.replicate, List.append_nil, List.cons_append, List.nil_append, List.getElem?_cons_zero, List.getElem?_cons_succ, List.set_cons_zero, List.set_cons_succ, Option.some.injEq, D.int.injEq, D.bl.injEq, D.str.injEq, D.tup.injEq, D.ref.injEq, exists_eq_left', exists_eq_left, exists_eq_right, true_and, and_true, Nat.reduceSub, Nat.reduceAdd, Nat.zero_add, reduceCtorEq, false_implies, true_implies, decide_eq_true_eq, decide_eq_false_iff_not, forall_const, List.any_cons, List.any_nil, Bool.or_false, subTy, pl1_0, pn1, pl2_0, pl2_1, pn2, pl3_0, pl3_1, pl3_2, pn3, pl4_0, pl4_1, pl4_2, pl4_3, pn4, pl5_0, pl5_1, pl5_2, pl5_3, pl5_4, pn5, pl6_0, pl6_1, pl6_2, pl6_3, pl6_4, pl6_5, pn6, pl7_0, pl7_1, pl7_2, pl7_3, pl7_4, pl7_5, pl7_6, pn7, pl8_0, pl8_1, pl8_2, pl8_3, pl8_4, pl8_5, pl8_6, pl8_7, pn8, pl9_0, pl9_1, pl9_2, pl9_3, pl9_4, pl9_5, pl9_6, pl9_7, pl9_8, pn9]
          have hf : isFr (.tup [x, y]) = false := by
            cases hd : isFr (.tup [x, y]) with
            | false => rfl
            | true =>
              obtain ⟨x, e⟩ := isFr_iff.mp hd
              cases e
              cases hiy
          rw [hf] at q
          exact q
        | true =>
          cases x with
          | int a =>
            cases y with
            | int b =>
              obtain ⟨z1, z2⟩ := hz a b rfl
              simp only [wpS, wpE, wpEs, wpP, wpI, wpT, begin_, hxD, hxD.hxL, catch_, putAll, Ev.unpack, tgSem, wipe, o_add, o_sub, o_mul, o_div, o_mod, o_pow, o_tup, o_lst, o_rep, c_eq, c_ne, c_lt, c_le, c_gt, c_ge, c_isn, c_notn, c_isb, c_in, c_nin, q_int, q_bl, not_true_eq_false, not_false_eq_true, Bool.false_or, Bool.true_or, Bool.or_true, Bool.true_and, Bool.false_and, Bool.and_true, Bool.and_false,  id_eq, lst_new, boolsD, intsD, Option.map_some, List.all_cons, List.all_nil, List.map_append,  q_lit, String.reduceEq, decide_true, decide_false, Bool.not_true, Bool.not_false, Bool.true_eq_false, Bool.false_eq_true, eq_self, i_isn, i_isi, i_isb, i_iss, i_ist, i_isr, t_non, t_int, t_bl, t_str, t_tup, t_fz, b_abs, b_lent, b_lenf, b_lens, b_list, b_tuple, b_int, b_intb, b_sum, b_min2, b_max2, b_all, b_any, b_gcd, b_dict, m_app, m_ext, m_popi, m_pop, x_tup, x_fz, List.map_cons, List.map_nil, List.length_cons, List.length_nil, List.replicate, List.append_nil, List.cons_append, List.nil_append, List.getElem?_cons_zero, List.getElem?_cons_succ, List.set_cons_zero, List.set_cons_succ, Option.some.injEq, D.int.injEq, D.bl.injEq, D.str.injEq, D.tup.injEq, D.ref.injEq, exists_eq_left', exists_eq_left, exists_eq_right, true_and, and_true, Nat.reduceSub, Nat.reduceAdd, Nat.zero_add, reduceCtorEq, false_implies, true_implies, decide_eq_true_eq, decide_eq_false_iff_not, forall_const, List.any_cons, List.any_nil, Bool.or_false, subTy, pl1_0, pn1, pl2_0, pl2_1, pn2, pl3_0, pl3_1, pl3_2, pn3, pl4_0, pl4_1, pl4_2, pl4_3, pn4, pl5_0, pl5_1, pl5_2, pl5_3, pl5_4, pn5, pl6_0, pl6_1, pl6_2, pl6_3, pl6_4, pl6_5, pn6, pl7_0, pl7_1, pl7_2, pl7_3, pl7_4, pl7_5, pl7_6, pn7, pl8_0, pl8_1, pl8_2, pl8_3, pl8_4, pl8_5, pl8_6, pl8_7, pn8, pl9_0, pl9_1, pl9_2, pl9_3, pl9_4, pl9_5, pl9_6, pl9_7, pl9_8, pn9, _law_is_fraction_2]
              have e : isFr (.tup [.int a, .int b]) = (decide (0 < b) && decide (Nat.gcd a.natAbs b.natAbs = 1)) := rfl
              rw [e] at q
              refine ⟨fun h => ?_, fun h => ?_⟩
              · refine r__law_divisor z1 z2 ?_
                have : decide (((a.natAbs.gcd b.natAbs : Nat) : Int) = 1) = decide (Nat.gcd a.natAbs b.natAbs = 1) := by
                  by_cases z : Nat.gcd a.natAbs b.natAbs = 1 <;> simp [z] <;> omega
                rw [q_int, this]
                rw [decide_eq_true h] at q
                exact q
              · rw [decide_eq_false h] at q
                exact q
            | _ => cases hiy
          | _ => cases hix
  · have hf : isFr d = false := by
      cases d with
      | tup xs => exact absurd ⟨xs, rfl⟩ hd
      | _ => rfl
    rw [hf] at q
    simp only [f__law_is_fraction, _law_is_fraction_1, wpS, wpE, wpEs, wpP, wpI, wpT, begin_, hxD, hxD.hxL, catch_, putAll, Ev.unpack, tgSem, wipe, o_add, o_sub, o_mul, o_div, o_mod, o_pow, o_tup, o_lst, o_rep, c_eq, c_ne, c_lt, c_le, c_gt, c_ge, c_isn, c_notn, c_isb, c_in, c_nin, q_int, q_bl, not_true_eq_false, not_false_eq_true, Bool.false_or, Bool.true_or, Bool.or_true, Bool.true_and, Bool.false_and, Bool.and_true, Bool.and_false,  id_eq, lst_new, boolsD, intsD, Option.map_some, List.all_cons, List.all_nil, List.map_append,  q_lit, String.reduceEq, decide_true, decide_false, Bool.not_true, Bool.not_false, Bool.true_eq_false, Bool.false_eq_true, eq_self, i_isn, i_isi, i_isb, i_iss, i_ist, i_isr, t_non, t_int, t_bl, t_str, t_tup, t_fz, b_abs, b_lent, b_lenf, b_lens, b_list, b_tuple, b_int, b_intb, b_sum, b_min2, b_max2, b_all, b_any, b_gcd, b_dict, m_app, m_ext, m_popi, m_pop, x_tup, x_fz, List.map_cons, List.map_nil, List.length_cons, List.length_nil, List.replicate, List.append_nil, List.cons_append, List.nil_append, List.getElem?_cons_zero, List.getElem?_cons_succ, List.set_cons_zero, List.set_cons_succ, Option.some.injEq, D.int.injEq, D.bl.injEq, D.str.injEq, D.tup.injEq, D.ref.injEq, exists_eq_left', exists_eq_left, exists_eq_right, true_and, and_true, Nat.reduceSub, Nat.reduceAdd, Nat.zero_add, reduceCtorEq, false_implies, true_implies, decide_eq_true_eq, decide_eq_false_iff_not, forall_const, List.any_cons, List.any_nil, Bool.or_false, subTy, pl1_0, pn1, pl2_0, pl2_1, pn2, pl3_0, pl3_1, pl3_2, pn3, pl4_0, pl4_1, pl4_2, pl4_3, pn4, pl5_0, pl5_1, pl5_2, pl5_3, pl5_4, pn5, pl6_0, pl6_1, pl6_2, pl6_3, pl6_4, pl6_5, pn6, pl7_0, pl7_1, pl7_2, pl7_3, pl7_4, pl7_5, pl7_6, pn7, pl8_0, pl8_1, pl8_2, pl8_3, pl8_4, pl8_5, pl8_6, pl8_7, pn8, pl9_0, pl9_1, pl9_2, pl9_3, pl9_4, pl9_5, pl9_6, pl9_7, pl9_8, pn9, ht]
    have ht' : subTy t .tup = false := by
      cases d with
      | tup xs => exact absurd ⟨xs, rfl⟩ hd
      | ref m =>
        unfold tyOf at ht
        dsimp only at ht
        split at ht <;> cases ht <;> rfl
      | _ => cases ht <;> rfl
    cases t <;> first | exact absurd ht' (by decide) | (simp only [wpS, wpE, wpEs, wpP, wpI, wpT, begin_, hxD, hxD.hxL, catch_, putAll, Ev.unpack, tgSem, wipe, o_add, o_sub, o_mul, o_div, o_mod, o_pow, o_tup, o_lst, o_rep, c_eq, c_ne, c_lt, c_le, c_gt, c_ge, c_isn, c_notn, c_isb, c_in, c_nin, q_int, q_bl, not_true_eq_false, not_false_eq_true, Bool.false_or, Bool.true_or, Bool.or_true, Bool.true_and, Bool.false_and, Bool.and_true, Bool.and_false,  id_eq, lst_new, boolsD, intsD, Option.map_some, List.all_cons, List.all_nil, List.map_append,  q_lit, String.reduceEq, decide_true, decide_false, Bool.not_true, Bool.not_false, Bool.true_eq_false, Bool.false_eq_true, eq_self, i_isn, i_isi, i_isb, i_iss, i_ist, i_isr, t_non, t_int, t_bl, t_str, t_tup, t_fz, b_abs, b_lent, b_lenf, b_lens, b_list, b_tuple, b_int, b_intb, b_sum, b_min2, b_max2, b_all, b_any, b_gcd, b_dict, m_app, m_ext, m_popi, m_pop, x_tup, x_fz, List.map_cons, List.map_nil, List.length_cons, List.length_nil, List.replicate, List.append_nil, List.cons_append, List.nil_append, List.getElem?_cons_zero, List.getElem?_cons_succ, List.set_cons_zero, List.set_cons_succ, Option.some.injEq, D.int.injEq, D.bl.injEq, D.str.injEq, D.tup.injEq, D.ref.injEq, exists_eq_left', exists_eq_left, exists_eq_right, true_and, and_true, Nat.reduceSub, Nat.reduceAdd, Nat.zero_add, reduceCtorEq, false_implies, true_implies, decide_eq_true_eq, decide_eq_false_iff_not, forall_const, List.any_cons, List.any_nil, Bool.or_false, subTy, pl1_0, pn1, pl2_0, pl2_1, pn2, pl3_0, pl3_1, pl3_2, pn3, pl4_0, pl4_1, pl4_2, pl4_3, pn4, pl5_0, pl5_1, pl5_2, pl5_3, pl5_4, pn5, pl6_0, pl6_1, pl6_2, pl6_3, pl6_4, pl6_5, pn6, pl7_0, pl7_1, pl7_2, pl7_3, pl7_4, pl7_5, pl7_6, pn7, pl8_0, pl8_1, pl8_2, pl8_3, pl8_4, pl8_5, pl8_6, pl8_7, pn8, pl9_0, pl9_1, pl9_2, pl9_3, pl9_4, pl9_5, pl9_6, pl9_7, pl9_8, pn9]; exact q)
end
end EvL
end
section
set_option Elab.async false
set_option linter.all false
set_option maxRecDepth 100000
set_option maxHeartbeats 400000
set_option exponentiation.threshold 20000
namespace EvL
open PySem (Str)
open Ev
section
variable {n : Nat} {S : Sto} {Q : Po} {E : Xo} {b k : Nat}
theorem four (d : Int) (h0 : 0 ≤ d) (h1 : d < 4) : d = 0 ∨ d = 1 ∨ d = 2 ∨ d = 3 := by omega
theorem r__law_integer (hb : Box S b k) (hk : k + 3 ≤ 2 ^ 30) (q : ∀ S' z, z.natAbs < 2 ^ 70 → Box S' b (k + 3) → Fr b S S' → Q (.int z) S') : run sub TT (n + 2) i__law_integer [.ref b] S Q E := by
  rw [run_eq at__law_integer rfl]
  have four4 : (4 : Nat) ≤ most := by decide
  have two2 : (2 : Nat) ≤ most := by decide
  simp only [f__law_integer, _law_integer_1, wpS, wpE, wpEs, wpP, wpI, wpT, begin_, hxD, hxD.hxL, catch_, putAll, Ev.unpack, tgSem, wipe, o_add, o_sub, o_mul, o_div, o_mod, o_pow, o_tup, o_lst, o_rep, c_eq, c_ne, c_lt, c_le, c_gt, c_ge, c_isn, c_notn, c_isb, c_in, c_nin, q_int, q_bl, not_true_eq_false, not_false_eq_true, Bool.false_or, Bool.true_or, Bool.or_true, Bool.true_and, Bool.false_and, Bool.and_true, Bool.and_false,  id_eq, lst_new, boolsD, intsD, Option.map_some, List.all_cons, List.all_nil, List.map_append,  q_lit, String.reduceEq, decide_true, decide_false, Bool.not_true, Bool.not_false, Bool.true_eq_false, Bool.false_eq_true, eq_self, i_isn, i_isi, i_isb, i_iss, i_ist, i_isr, t_non, t_int, t_bl, t_str, t_tup, t_fz, b_abs, b_lent, b_lenf, b_lens, b_list, b_tuple, b_int, b_intb, b_sum, b_min2, b_max2, b_all, b_any, b_gcd, b_dict, m_app, m_ext, m_popi, m_pop, x_tup, x_fz, List.map_cons, List.map_nil, List.length_cons, List.length_nil, List.replicate, List.append_nil, List.cons_append, List.nil_append, List.getElem?_cons_zero, List.getElem?_cons_succ, List.set_cons_zero, List.set_cons_succ, Option.some.injEq, D.int.injEq, D.bl.injEq, D.str.injEq, D.tup.injEq, D.ref.injEq, exists_eq_left', exists_eq_left, exists_eq_right, true_and, and_true, Nat.reduceSub, Nat.reduceAdd, Nat.zero_add, reduceCtorEq, false_implies, true_implies, decide_eq_true_eq, decide_eq_false_iff_not, forall_const, List.any_cons, List.any_nil, Bool.or_false, subTy, pl1_0, pn1, pl2_0, pl2_1, pn2, pl3_0, pl3_1, pl3_2, pn3, pl4_0, pl4_1, pl4_2, pl4_3, pn4, pl5_0, pl5_1, pl5_2, pl5_3, pl5_4, pn5, pl6_0, pl6_1, pl6_2, pl6_3, pl6_4, pl6_5, pn6, pl7_0, pl7_1, pl7_2, pl7_3, pl7_4, pl7_5, pl7_6, pn7, pl8_0, pl8_1, pl8_2, pl8_3, pl8_4, pl8_5, pl8_6, pl8_7, pn8, pl9_0, pl9_1, pl9_2, pl9_3, pl9_4, pl9_5, pl9_6, pl9_7, pl9_8, pn9]
  refine r__law_take hb (by omega) (by decide) (by decide) fun S1 d h0 h1 hb1 fr1 => ?_
  simp only [_law_integer_2, wpS, wpE, wpEs, wpP, wpI, wpT, begin_, hxD, hxD.hxL, catch_, putAll, Ev.unpack, tgSem, wipe, o_add, o_sub, o_mul, o_div, o_mod, o_pow, o_tup, o_lst, o_rep, c_eq, c_ne, c_lt, c_le, c_gt, c_ge, c_isn, c_notn, c_isb, c_in, c_nin, q_int, q_bl, not_true_eq_false, not_false_eq_true, Bool.false_or, Bool.true_or, Bool.or_true, Bool.true_and, Bool.false_and, Bool.and_true, Bool.and_false,  id_eq, lst_new, boolsD, intsD, Option.map_some, List.all_cons, List.all_nil, List.map_append,  q_lit, String.reduceEq, decide_true, decide_false, Bool.not_true, Bool.not_false, Bool.true_eq_false, Bool.false_eq_true, eq_self, i_isn, i_isi, i_isb, i_iss, i_ist, i_isr, t_non, t_int, t_bl, t_str, t_tup, t_fz, b_abs, b_lent, b_lenf, b_lens, b_list, b_tuple, b_int, b_intb, b_sum, b_min2, b_max2, b_all, b_any, b_gcd, b_dict, m_app, m_ext, m_popi, m_pop, x_tup, x_fz, List.map_cons, List.map_nil, List.length_cons, List.length_nil, List.replicate, List.append_nil, List.cons_append, List.nil_append, List.getElem?_cons_zero, List.getElem?_cons_succ, List.set_cons_zero, List.set_cons_succ, Option.some.injEq, D.int.injEq, D.bl.injEq, D.str.injEq, D.tup.injEq, D.ref.injEq, exists_eq_left', exists_eq_left, exists_eq_right, true_and, and_true, Nat.reduceSub, Nat.reduceAdd, Nat.zero_add, reduceCtorEq, false_implies, true_implies, decide_eq_true_eq, decide_eq_false_iff_not, forall_const, List.any_cons, List.any_nil, Bool.or_false, subTy, pl1_0, pn1, pl2_0, pl2_1, pn2, pl3_0, pl3_1, pl3_2, pn3, pl4_0, pl4_1, pl4_2, pl4_3, pn4, pl5_0, pl5_1, pl5_2, pl5_3, pl5_4, pn5, pl6_0, pl6_1, pl6_2, pl6_3, pl6_4, pl6_5, pn6, pl7_0, pl7_1, pl7_2, pl7_3, pl7_4, pl7_5, pl7_6, pn7, pl8_0, pl8_1, pl8_2, pl8_3, pl8_4, pl8_5, pl8_6, pl8_7, pn8, pl9_0, pl9_1, pl9_2, pl9_3, pl9_4, pl9_5, pl9_6, pl9_7, pl9_8, pn9, four4]
  refine ⟨fun h4 => ?_, fun h4 => ?_⟩
  · rcases four d h0 h4 with rfl | rfl | rfl | rfl <;> rw [x_lst lst_new] <;> simp only [wpS, wpE, wpEs, wpP, wpI, wpT, begin_, hxD, hxD.hxL, catch_, putAll, Ev.unpack, tgSem, wipe, o_add, o_sub, o_mul, o_div, o_mod, o_pow, o_tup, o_lst, o_rep, c_eq, c_ne, c_lt, c_le, c_gt, c_ge, c_isn, c_notn, c_isb, c_in, c_nin, q_int, q_bl, not_true_eq_false, not_false_eq_true, Bool.false_or, Bool.true_or, Bool.or_true, Bool.true_and, Bool.false_and, Bool.and_true, Bool.and_false,  id_eq, lst_new, boolsD, intsD, Option.map_some, List.all_cons, List.all_nil, List.map_append,  q_lit, String.reduceEq, decide_true, decide_false, Bool.not_true, Bool.not_false, Bool.true_eq_false, Bool.false_eq_true, eq_self, i_isn, i_isi, i_isb, i_iss, i_ist, i_isr, t_non, t_int, t_bl, t_str, t_tup, t_fz, b_abs, b_lent, b_lenf, b_lens, b_list, b_tuple, b_int, b_intb, b_sum, b_min2, b_max2, b_all, b_any, b_gcd, b_dict, m_app, m_ext, m_popi, m_pop, x_tup, x_fz, List.map_cons, List.map_nil, List.length_cons, List.length_nil, List.replicate, List.append_nil, List.cons_append, List.nil_append, List.getElem?_cons_zero, List.getElem?_cons_succ, List.set_cons_zero, List.set_cons_succ, Option.some.injEq, D.int.injEq, D.bl.injEq, D.str.injEq, D.tup.injEq, D.ref.injEq, exists_eq_left', exists_eq_left, exists_eq_right, true_and, and_true, Nat.reduceSub, Nat.reduceAdd, Nat.zero_add, reduceCtorEq, false_implies, true_implies, decide_eq_true_eq, decide_eq_false_iff_not, forall_const, List.any_cons, List.any_nil, Bool.or_false, subTy, pl1_0, pn1, pl2_0, pl2_1, pn2, pl3_0, pl3_1, pl3_2, pn3, pl4_0, pl4_1, pl4_2, pl4_3, pn4, pl5_0, pl5_1, pl5_2, pl5_3, pl5_4, pn5, pl6_0, pl6_1, pl6_2, pl6_3, pl6_4, pl6_5, pn6, pl7_0, pl7_1, pl7_2, pl7_3, pl7_4, pl7_5, pl7_6, pn7, pl8_0, pl8_1, pl8_2, pl8_3, pl8_4, pl8_5, pl8_6, pl8_7, pn8, pl9_0, pl9_1, pl9_2, pl9_3, pl9_4, pl9_5, pl9_6, pl9_7, pl9_8, pn9] <;> refine r__law_take (hb1.gr Gr.one) (by omega) (by decide) (by decide) fun S2 e e0 e1 hb2 fr2 => ?_ <;> rw [x_lst lst_new] <;> simp only [wpS, wpE, wpEs, wpP, wpI, wpT, begin_, hxD, hxD.hxL, catch_, putAll, Ev.unpack, tgSem, wipe, o_add, o_sub, o_mul, o_div, o_mod, o_pow, o_tup, o_lst, o_rep, c_eq, c_ne, c_lt, c_le, c_gt, c_ge, c_isn, c_notn, c_isb, c_in, c_nin, q_int, q_bl, not_true_eq_false, not_false_eq_true, Bool.false_or, Bool.true_or, Bool.or_true, Bool.true_and, Bool.false_and, Bool.and_true, Bool.and_false,  id_eq, lst_new, boolsD, intsD, Option.map_some, List.all_cons, List.all_nil, List.map_append,  q_lit, String.reduceEq, decide_true, decide_false, Bool.not_true, Bool.not_false, Bool.true_eq_false, Bool.false_eq_true, eq_self, i_isn, i_isi, i_isb, i_iss, i_ist, i_isr, t_non, t_int, t_bl, t_str, t_tup, t_fz, b_abs, b_lent, b_lenf, b_lens, b_list, b_tuple, b_int, b_intb, b_sum, b_min2, b_max2, b_all, b_any, b_gcd, b_dict, m_app, m_ext, m_popi, m_pop, x_tup, x_fz, List.map_cons, List.map_nil, List.length_cons, List.length_nil, List.replicate, List.append_nil, List.cons_append, List.nil_append, List.getElem?_cons_zero, List.getElem?_cons_succ, List.set_cons_zero, List.set_cons_succ, Option.some.injEq, D.int.injEq, D.bl.injEq, D.str.injEq, D.tup.injEq, D.ref.injEq, exists_eq_left', exists_eq_left, exists_eq_right, true_and, and_true, Nat.reduceSub, Nat.reduceAdd, Nat.zero_add, reduceCtorEq, false_implies, true_implies, decide_eq_true_eq, decide_eq_false_iff_not, forall_const, List.any_cons, List.any_nil, Bool.or_false, subTy, pl1_0, pn1, pl2_0, pl2_1, pn2, pl3_0, pl3_1, pl3_2, pn3, pl4_0, pl4_1, pl4_2, pl4_3, pn4, pl5_0, pl5_1, pl5_2, pl5_3, pl5_4, pn5, pl6_0, pl6_1, pl6_2, pl6_3, pl6_4, pl6_5, pn6, pl7_0, pl7_1, pl7_2, pl7_3, pl7_4, pl7_5, pl7_6, pn7, pl8_0, pl8_1, pl8_2, pl8_3, pl8_4, pl8_5, pl8_6, pl8_7, pn8, pl9_0, pl9_1, pl9_2, pl9_3, pl9_4, pl9_5, pl9_6, pl9_7, pl9_8, pn9] <;>
      refine q _ _ ?_ ((hb2.mono (by omega)).gr Gr.one) (((fr1.trans Gr.one.fr).trans fr2).trans Gr.one.fr) <;> omega
  · have p1 : PowOk 10 9 := ⟨by decide, by decide, by decide⟩
    have p2 : PowOk 10 20 := ⟨by decide, by decide, by decide⟩
    have p3 : PowOk 10 6 := ⟨by decide, by decide, by decide⟩
    simp only [_law_integer_3, wpS, wpE, wpEs, wpP, wpI, wpT, begin_, hxD, hxD.hxL, catch_, putAll, Ev.unpack, tgSem, wipe, o_add, o_sub, o_mul, o_div, o_mod, o_pow, o_tup, o_lst, o_rep, c_eq, c_ne, c_lt, c_le, c_gt, c_ge, c_isn, c_notn, c_isb, c_in, c_nin, q_int, q_bl, not_true_eq_false, not_false_eq_true, Bool.false_or, Bool.true_or, Bool.or_true, Bool.true_and, Bool.false_and, Bool.and_true, Bool.and_false,  id_eq, lst_new, boolsD, intsD, Option.map_some, List.all_cons, List.all_nil, List.map_append,  q_lit, String.reduceEq, decide_true, decide_false, Bool.not_true, Bool.not_false, Bool.true_eq_false, Bool.false_eq_true, eq_self, i_isn, i_isi, i_isb, i_iss, i_ist, i_isr, t_non, t_int, t_bl, t_str, t_tup, t_fz, b_abs, b_lent, b_lenf, b_lens, b_list, b_tuple, b_int, b_intb, b_sum, b_min2, b_max2, b_all, b_any, b_gcd, b_dict, m_app, m_ext, m_popi, m_pop, x_tup, x_fz, List.map_cons, List.map_nil, List.length_cons, List.length_nil, List.replicate, List.append_nil, List.cons_append, List.nil_append, List.getElem?_cons_zero, List.getElem?_cons_succ, List.set_cons_zero, List.set_cons_succ, Option.some.injEq, D.int.injEq, D.bl.injEq, D.str.injEq, D.tup.injEq, D.ref.injEq, exists_eq_left', exists_eq_left, exists_eq_right, true_and, and_true, Nat.reduceSub, Nat.reduceAdd, Nat.zero_add, reduceCtorEq, false_implies, true_implies, decide_eq_true_eq, decide_eq_false_iff_not, forall_const, List.any_cons, List.any_nil, Bool.or_false, subTy, pl1_0, pn1, pl2_0, pl2_1, pn2, pl3_0, pl3_1, pl3_2, pn3, pl4_0, pl4_1, pl4_2, pl4_3, pn4, pl5_0, pl5_1, pl5_2, pl5_3, pl5_4, pn5, pl6_0, pl6_1, pl6_2, pl6_3, pl6_4, pl6_5, pn6, pl7_0, pl7_1, pl7_2, pl7_3, pl7_4, pl7_5, pl7_6, pn7, pl8_0, pl8_1, pl8_2, pl8_3, pl8_4, pl8_5, pl8_6, pl8_7, pn8, pl9_0, pl9_1, pl9_2, pl9_3, pl9_4, pl9_5, pl9_6, pl9_7, pl9_8, pn9, p1, p2, p3, two2]
    have hd : d = 4 ∨ d = 5 := by omega
    rcases hd with rfl | rfl
    · rw [show (4 : Int) - 4 = 0 by decide, x_lst lst_new]
      simp only [wpS, wpE, wpEs, wpP, wpI, wpT, begin_, hxD, hxD.hxL, catch_, putAll, Ev.unpack, tgSem, wipe, o_add, o_sub, o_mul, o_div, o_mod, o_pow, o_tup, o_lst, o_rep, c_eq, c_ne, c_lt, c_le, c_gt, c_ge, c_isn, c_notn, c_isb, c_in, c_nin, q_int, q_bl, not_true_eq_false, not_false_eq_true, Bool.false_or, Bool.true_or, Bool.or_true, Bool.true_and, Bool.false_and, Bool.and_true, Bool.and_false,  id_eq, lst_new, boolsD, intsD, Option.map_some, List.all_cons, List.all_nil, List.map_append,  q_lit, String.reduceEq, decide_true, decide_false, Bool.not_true, Bool.not_false, Bool.true_eq_false, Bool.false_eq_true, eq_self, i_isn, i_isi, i_isb, i_iss, i_ist, i_isr, t_non, t_int, t_bl, t_str, t_tup, t_fz, b_abs, b_lent, b_lenf, b_lens, b_list, b_tuple, b_int, b_intb, b_sum, b_min2, b_max2, b_all, b_any, b_gcd, b_dict, m_app, m_ext, m_popi, m_pop, x_tup, x_fz, List.map_cons, List.map_nil, List.length_cons, List.length_nil, List.replicate, List.append_nil, List.cons_append, List.nil_append, List.getElem?_cons_zero, List.getElem?_cons_succ, List.set_cons_zero, List.set_cons_succ, Option.some.injEq, D.int.injEq, D.bl.injEq, D.str.injEq, D.tup.injEq, D.ref.injEq, exists_eq_left', exists_eq_left, exists_eq_right, true_and, and_true, Nat.reduceSub, Nat.reduceAdd, Nat.zero_add, reduceCtorEq, false_implies, true_implies, decide_eq_true_eq, decide_eq_false_iff_not, forall_const, List.any_cons, List.any_nil, Bool.or_false, subTy, pl1_0, pn1, pl2_0, pl2_1, pn2, pl3_0, pl3_1, pl3_2, pn3, pl4_0, pl4_1, pl4_2, pl4_3, pn4, pl5_0, pl5_1, pl5_2, pl5_3, pl5_4, pn5, pl6_0, pl6_1, pl6_2, pl6_3, pl6_4, pl6_5, pn6, pl7_0, pl7_1, pl7_2, pl7_3, pl7_4, pl7_5, pl7_6, pn7, pl8_0, pl8_1, pl8_2, pl8_3, pl8_4, pl8_5, pl8_6, pl8_7, pn8, pl9_0, pl9_1, pl9_2, pl9_3, pl9_4, pl9_5, pl9_6, pl9_7, pl9_8, pn9]
      refine r__law_take (hb1.gr Gr.one) (by omega) (by decide) (by decide) fun S2 e e0 e1 hb2 fr2 => ?_
      simp only [_law_integer_4, wpS, wpE, wpEs, wpP, wpI, wpT, begin_, hxD, hxD.hxL, catch_, putAll, Ev.unpack, tgSem, wipe, o_add, o_sub, o_mul, o_div, o_mod, o_pow, o_tup, o_lst, o_rep, c_eq, c_ne, c_lt, c_le, c_gt, c_ge, c_isn, c_notn, c_isb, c_in, c_nin, q_int, q_bl, not_true_eq_false, not_false_eq_true, Bool.false_or, Bool.true_or, Bool.or_true, Bool.true_and, Bool.false_and, Bool.and_true, Bool.and_false,  id_eq, lst_new, boolsD, intsD, Option.map_some, List.all_cons, List.all_nil, List.map_append,  q_lit, String.reduceEq, decide_true, decide_false, Bool.not_true, Bool.not_false, Bool.true_eq_false, Bool.false_eq_true, eq_self, i_isn, i_isi, i_isb, i_iss, i_ist, i_isr, t_non, t_int, t_bl, t_str, t_tup, t_fz, b_abs, b_lent, b_lenf, b_lens, b_list, b_tuple, b_int, b_intb, b_sum, b_min2, b_max2, b_all, b_any, b_gcd, b_dict, m_app, m_ext, m_popi, m_pop, x_tup, x_fz, List.map_cons, List.map_nil, List.length_cons, List.length_nil, List.replicate, List.append_nil, List.cons_append, List.nil_append, List.getElem?_cons_zero, List.getElem?_cons_succ, List.set_cons_zero, List.set_cons_succ, Option.some.injEq, D.int.injEq, D.bl.injEq, D.str.injEq, D.tup.injEq, D.ref.injEq, exists_eq_left', exists_eq_left, exists_eq_right, true_and, and_true, Nat.reduceSub, Nat.reduceAdd, Nat.zero_add, reduceCtorEq, false_implies, true_implies, decide_eq_true_eq, decide_eq_false_iff_not, forall_const, List.any_cons, List.any_nil, Bool.or_false, subTy, pl1_0, pn1, pl2_0, pl2_1, pn2, pl3_0, pl3_1, pl3_2, pn3, pl4_0, pl4_1, pl4_2, pl4_3, pn4, pl5_0, pl5_1, pl5_2, pl5_3, pl5_4, pn5, pl6_0, pl6_1, pl6_2, pl6_3, pl6_4, pl6_5, pn6, pl7_0, pl7_1, pl7_2, pl7_3, pl7_4, pl7_5, pl7_6, pn7, pl8_0, pl8_1, pl8_2, pl8_3, pl8_4, pl8_5, pl8_6, pl8_7, pn8, pl9_0, pl9_1, pl9_2, pl9_3, pl9_4, pl9_5, pl9_6, pl9_7, pl9_8, pn9]
      refine r__law_take hb2 (by omega) (by decide) (by decide) fun S3 f f0 f1 hb3 fr3 => ?_
      have fr := ((fr1.trans Gr.one.fr).trans fr2).trans fr3
      have e1' : e < 1000000 := e1
      have hv : (10 : Int) ^ Int.toNat 9 = 1000000000 := by decide
      rw [hv]
      simp only [wpS, wpE, wpEs, wpP, wpI, wpT, begin_, hxD, hxD.hxL, catch_, putAll, Ev.unpack, tgSem, wipe, o_add, o_sub, o_mul, o_div, o_mod, o_pow, o_tup, o_lst, o_rep, c_eq, c_ne, c_lt, c_le, c_gt, c_ge, c_isn, c_notn, c_isb, c_in, c_nin, q_int, q_bl, not_true_eq_false, not_false_eq_true, Bool.false_or, Bool.true_or, Bool.or_true, Bool.true_and, Bool.false_and, Bool.and_true, Bool.and_false,  id_eq, lst_new, boolsD, intsD, Option.map_some, List.all_cons, List.all_nil, List.map_append,  q_lit, String.reduceEq, decide_true, decide_false, Bool.not_true, Bool.not_false, Bool.true_eq_false, Bool.false_eq_true, eq_self, i_isn, i_isi, i_isb, i_iss, i_ist, i_isr, t_non, t_int, t_bl, t_str, t_tup, t_fz, b_abs, b_lent, b_lenf, b_lens, b_list, b_tuple, b_int, b_intb, b_sum, b_min2, b_max2, b_all, b_any, b_gcd, b_dict, m_app, m_ext, m_popi, m_pop, x_tup, x_fz, List.map_cons, List.map_nil, List.length_cons, List.length_nil, List.replicate, List.append_nil, List.cons_append, List.nil_append, List.getElem?_cons_zero, List.getElem?_cons_succ, List.set_cons_zero, List.set_cons_succ, Option.some.injEq, D.int.injEq, D.bl.injEq, D.str.injEq, D.tup.injEq, D.ref.injEq, exists_eq_left', exists_eq_left, exists_eq_right, true_and, and_true, Nat.reduceSub, Nat.reduceAdd, Nat.zero_add, reduceCtorEq, false_implies, true_implies, decide_eq_true_eq, decide_eq_false_iff_not, forall_const, List.any_cons, List.any_nil, Bool.or_false, subTy, pl1_0, pn1, pl2_0, pl2_1, pn2, pl3_0, pl3_1, pl3_2, pn3, pl4_0, pl4_1, pl4_2, pl4_3, pn4, pl5_0, pl5_1, pl5_2, pl5_3, pl5_4, pn5, pl6_0, pl6_1, pl6_2, pl6_3, pl6_4, pl6_5, pn6, pl7_0, pl7_1, pl7_2, pl7_3, pl7_4, pl7_5, pl7_6, pn7, pl8_0, pl8_1, pl8_2, pl8_3, pl8_4, pl8_5, pl8_6, pl8_7, pn8, pl9_0, pl9_1, pl9_2, pl9_3, pl9_4, pl9_5, pl9_6, pl9_7, pl9_8, pn9]
      exact ⟨fun _ => q _ _ (by omega) hb3 fr, fun _ => q _ _ (by omega) hb3 fr⟩
    · rw [show (5 : Int) - 4 = 1 by decide, x_lst lst_new]
      simp only [wpS, wpE, wpEs, wpP, wpI, wpT, begin_, hxD, hxD.hxL, catch_, putAll, Ev.unpack, tgSem, wipe, o_add, o_sub, o_mul, o_div, o_mod, o_pow, o_tup, o_lst, o_rep, c_eq, c_ne, c_lt, c_le, c_gt, c_ge, c_isn, c_notn, c_isb, c_in, c_nin, q_int, q_bl, not_true_eq_false, not_false_eq_true, Bool.false_or, Bool.true_or, Bool.or_true, Bool.true_and, Bool.false_and, Bool.and_true, Bool.and_false,  id_eq, lst_new, boolsD, intsD, Option.map_some, List.all_cons, List.all_nil, List.map_append,  q_lit, String.reduceEq, decide_true, decide_false, Bool.not_true, Bool.not_false, Bool.true_eq_false, Bool.false_eq_true, eq_self, i_isn, i_isi, i_isb, i_iss, i_ist, i_isr, t_non, t_int, t_bl, t_str, t_tup, t_fz, b_abs, b_lent, b_lenf, b_lens, b_list, b_tuple, b_int, b_intb, b_sum, b_min2, b_max2, b_all, b_any, b_gcd, b_dict, m_app, m_ext, m_popi, m_pop, x_tup, x_fz, List.map_cons, List.map_nil, List.length_cons, List.length_nil, List.replicate, List.append_nil, List.cons_append, List.nil_append, List.getElem?_cons_zero, List.getElem?_cons_succ, List.set_cons_zero, List.set_cons_succ, Option.some.injEq, D.int.injEq, D.bl.injEq, D.str.injEq, D.tup.injEq, D.ref.injEq, exists_eq_left', exists_eq_left, exists_eq_right, true_and, and_true, Nat.reduceSub, Nat.reduceAdd, Nat.zero_add, reduceCtorEq, false_implies, true_implies, decide_eq_true_eq, decide_eq_false_iff_not, forall_const, List.any_cons, List.any_nil, Bool.or_false, subTy, pl1_0, pn1, pl2_0, pl2_1, pn2, pl3_0, pl3_1, pl3_2, pn3, pl4_0, pl4_1, pl4_2, pl4_3, pn4, pl5_0, pl5_1, pl5_2, pl5_3, pl5_4, pn5, pl6_0, pl6_1, pl6_2, pl6_3, pl6_4, pl6_5, pn6, pl7_0, pl7_1, pl7_2, pl7_3, pl7_4, pl7_5, pl7_6, pn7, pl8_0, pl8_1, pl8_2, pl8_3, pl8_4, pl8_5, pl8_6, pl8_7, pn8, pl9_0, pl9_1, pl9_2, pl9_3, pl9_4, pl9_5, pl9_6, pl9_7, pl9_8, pn9]
      refine r__law_take (hb1.gr Gr.one) (by omega) (by decide) (by decide) fun S2 e e0 e1 hb2 fr2 => ?_
      simp only [_law_integer_4, wpS, wpE, wpEs, wpP, wpI, wpT, begin_, hxD, hxD.hxL, catch_, putAll, Ev.unpack, tgSem, wipe, o_add, o_sub, o_mul, o_div, o_mod, o_pow, o_tup, o_lst, o_rep, c_eq, c_ne, c_lt, c_le, c_gt, c_ge, c_isn, c_notn, c_isb, c_in, c_nin, q_int, q_bl, not_true_eq_false, not_false_eq_true, Bool.false_or, Bool.true_or, Bool.or_true, Bool.true_and, Bool.false_and, Bool.and_true, Bool.and_false,  id_eq, lst_new, boolsD, intsD, Option.map_some, List.all_cons, List.all_nil, List.map_append,  q_lit, String.reduceEq, decide_true, decide_false, Bool.not_true, Bool.not_false, Bool.true_eq_false, Bool.false_eq_true, eq_self, i_isn, i_isi, i_isb, i_iss, i_ist, i_isr, t_non, t_int, t_bl, t_str, t_tup, t_fz, b_abs, b_lent, b_lenf, b_lens, b_list, b_tuple, b_int, b_intb, b_sum, b_min2, b_max2, b_all, b_any, b_gcd, b_dict, m_app, m_ext, m_popi, m_pop, x_tup, x_fz, List.map_cons, List.map_nil, List.length_cons, List.length_nil, List.replicate, List.append_nil, List.cons_append, List.nil_append, List.getElem?_cons_zero, List.getElem?_cons_succ, List.set_cons_zero, List.set_cons_succ, Option.some.injEq, D.int.injEq, D.bl.injEq, D.str.injEq, D.tup.injEq, D.ref.injEq, exists_eq_left', exists_eq_left, exists_eq_right, true_and, and_true, Nat.reduceSub, Nat.reduceAdd, Nat.zero_add, reduceCtorEq, false_implies, true_implies, decide_eq_true_eq, decide_eq_false_iff_not, forall_const, List.any_cons, List.any_nil, Bool.or_false, subTy, pl1_0, pn1, pl2_0, pl2_1, pn2, pl3_0, pl3_1, pl3_2, pn3, pl4_0, pl4_1, pl4_2, pl4_3, pn4, pl5_0, pl5_1, pl5_2, pl5_3, pl5_4, pn5, pl6_0, pl6_1, pl6_2, pl6_3, pl6_4, pl6_5, pn6, pl7_0, pl7_1, pl7_2, pl7_3, pl7_4, pl7_5, pl7_6, pn7, pl8_0, pl8_1, pl8_2, pl8_3, pl8_4, pl8_5, pl8_6, pl8_7, pn8, pl9_0, pl9_1, pl9_2, pl9_3, pl9_4, pl9_5, pl9_6, pl9_7, pl9_8, pn9]
      refine r__law_take hb2 (by omega) (by decide) (by decide) fun S3 f f0 f1 hb3 fr3 => ?_
      have fr := ((fr1.trans Gr.one.fr).trans fr2).trans fr3
      have e1' : e < 1000000 := e1
      have hv : (10 : Int) ^ Int.toNat 20 = 100000000000000000000 := by decide
      rw [hv]
      simp only [wpS, wpE, wpEs, wpP, wpI, wpT, begin_, hxD, hxD.hxL, catch_, putAll, Ev.unpack, tgSem, wipe, o_add, o_sub, o_mul, o_div, o_mod, o_pow, o_tup, o_lst, o_rep, c_eq, c_ne, c_lt, c_le, c_gt, c_ge, c_isn, c_notn, c_isb, c_in, c_nin, q_int, q_bl, not_true_eq_false, not_false_eq_true, Bool.false_or, Bool.true_or, Bool.or_true, Bool.true_and, Bool.false_and, Bool.and_true, Bool.and_false,  id_eq, lst_new, boolsD, intsD, Option.map_some, List.all_cons, List.all_nil, List.map_append,  q_lit, String.reduceEq, decide_true, decide_false, Bool.not_true, Bool.not_false, Bool.true_eq_false, Bool.false_eq_true, eq_self, i_isn, i_isi, i_isb, i_iss, i_ist, i_isr, t_non, t_int, t_bl, t_str, t_tup, t_fz, b_abs, b_lent, b_lenf, b_lens, b_list, b_tuple, b_int, b_intb, b_sum, b_min2, b_max2, b_all, b_any, b_gcd, b_dict, m_app, m_ext, m_popi, m_pop, x_tup, x_fz, List.map_cons, List.map_nil, List.length_cons, List.length_nil, List.replicate, List.append_nil, List.cons_append, List.nil_append, List.getElem?_cons_zero, List.getElem?_cons_succ, List.set_cons_zero, List.set_cons_succ, Option.some.injEq, D.int.injEq, D.bl.injEq, D.str.injEq, D.tup.injEq, D.ref.injEq, exists_eq_left', exists_eq_left, exists_eq_right, true_and, and_true, Nat.reduceSub, Nat.reduceAdd, Nat.zero_add, reduceCtorEq, false_implies, true_implies, decide_eq_true_eq, decide_eq_false_iff_not, forall_const, List.any_cons, List.any_nil, Bool.or_false, subTy, pl1_0, pn1, pl2_0, pl2_1, pn2, pl3_0, pl3_1, pl3_2, pn3, pl4_0, pl4_1, pl4_2, pl4_3, pn4, pl5_0, pl5_1, pl5_2, pl5_3, pl5_4, pn5, pl6_0, pl6_1, pl6_2, pl6_3, pl6_4, pl6_5, pn6, pl7_0, pl7_1, pl7_2, pl7_3, pl7_4, pl7_5, pl7_6, pn7, pl8_0, pl8_1, pl8_2, pl8_3, pl8_4, pl8_5, pl8_6, pl8_7, pn8, pl9_0, pl9_1, pl9_2, pl9_3, pl9_4, pl9_5, pl9_6, pl9_7, pl9_8, pn9]
      exact ⟨fun _ => q _ _ (by omega) hb3 fr, fun _ => q _ _ (by omega) hb3 fr⟩
theorem r__law_some (hb : Box S b k) (hk : k + 6 ≤ 2 ^ 30) (q : ∀ S' x, Sz 70 x → Box S' b (k + 6) → Fr b S S' → Q (FD x) S') : run sub TT (n + 3) i__law_some [.ref b] S Q E := by
  rw [run_eq at__law_some rfl]
  simp only [f__law_some, _law_some_1, wpS, wpE, wpEs, wpP, wpI, wpT, begin_, hxD, hxD.hxL, catch_, putAll, Ev.unpack, tgSem, wipe, o_add, o_sub, o_mul, o_div, o_mod, o_pow, o_tup, o_lst, o_rep, c_eq, c_ne, c_lt, c_le, c_gt, c_ge, c_isn, c_notn, c_isb, c_in, c_nin, q_int, q_bl, not_true_eq_false, not_false_eq_true, Bool.false_or, Bool.true_or, Bool.or_true, Bool.true_and, Bool.false_and, Bool.and_true, Bool.and_false,  id_eq, lst_new, boolsD, intsD, Option.map_some, List.all_cons, List.all_nil, List.map_append,  q_lit, String.reduceEq, decide_true, decide_false, Bool.not_true, Bool.not_false, Bool.true_eq_false, Bool.false_eq_true, eq_self, i_isn, i_isi, i_isb, i_iss, i_ist, i_isr, t_non, t_int, t_bl, t_str, t_tup, t_fz, b_abs, b_lent, b_lenf, b_lens, b_list, b_tuple, b_int, b_intb, b_sum, b_min2, b_max2, b_all, b_any, b_gcd, b_dict, m_app, m_ext, m_popi, m_pop, x_tup, x_fz, List.map_cons, List.map_nil, List.length_cons, List.length_nil, List.replicate, List.append_nil, List.cons_append, List.nil_append, List.getElem?_cons_zero, List.getElem?_cons_succ, List.set_cons_zero, List.set_cons_succ, Option.some.injEq, D.int.injEq, D.bl.injEq, D.str.injEq, D.tup.injEq, D.ref.injEq, exists_eq_left', exists_eq_left, exists_eq_right, true_and, and_true, Nat.reduceSub, Nat.reduceAdd, Nat.zero_add, reduceCtorEq, false_implies, true_implies, decide_eq_true_eq, decide_eq_false_iff_not, forall_const, List.any_cons, List.any_nil, Bool.or_false, subTy, pl1_0, pn1, pl2_0, pl2_1, pn2, pl3_0, pl3_1, pl3_2, pn3, pl4_0, pl4_1, pl4_2, pl4_3, pn4, pl5_0, pl5_1, pl5_2, pl5_3, pl5_4, pn5, pl6_0, pl6_1, pl6_2, pl6_3, pl6_4, pl6_5, pn6, pl7_0, pl7_1, pl7_2, pl7_3, pl7_4, pl7_5, pl7_6, pn7, pl8_0, pl8_1, pl8_2, pl8_3, pl8_4, pl8_5, pl8_6, pl8_7, pn8, pl9_0, pl9_1, pl9_2, pl9_3, pl9_4, pl9_5, pl9_6, pl9_7, pl9_8, pn9]
  refine r__law_integer hb (by omega) fun S1 z hz hb1 fr1 => ?_
  simp only [_law_some_2, wpS, wpE, wpEs, wpP, wpI, wpT, begin_, hxD, hxD.hxL, catch_, putAll, Ev.unpack, tgSem, wipe, o_add, o_sub, o_mul, o_div, o_mod, o_pow, o_tup, o_lst, o_rep, c_eq, c_ne, c_lt, c_le, c_gt, c_ge, c_isn, c_notn, c_isb, c_in, c_nin, q_int, q_bl, not_true_eq_false, not_false_eq_true, Bool.false_or, Bool.true_or, Bool.or_true, Bool.true_and, Bool.false_and, Bool.and_true, Bool.and_false,  id_eq, lst_new, boolsD, intsD, Option.map_some, List.all_cons, List.all_nil, List.map_append,  q_lit, String.reduceEq, decide_true, decide_false, Bool.not_true, Bool.not_false, Bool.true_eq_false, Bool.false_eq_true, eq_self, i_isn, i_isi, i_isb, i_iss, i_ist, i_isr, t_non, t_int, t_bl, t_str, t_tup, t_fz, b_abs, b_lent, b_lenf, b_lens, b_list, b_tuple, b_int, b_intb, b_sum, b_min2, b_max2, b_all, b_any, b_gcd, b_dict, m_app, m_ext, m_popi, m_pop, x_tup, x_fz, List.map_cons, List.map_nil, List.length_cons, List.length_nil, List.replicate, List.append_nil, List.cons_append, List.nil_append, List.getElem?_cons_zero, List.getElem?_cons_succ, List.set_cons_zero, List.set_cons_succ, Option.some.injEq, D.int.injEq, D.bl.injEq, D.str.injEq, D.tup.injEq, D.ref.injEq, exists_eq_left', exists_eq_left, exists_eq_right, true_and, and_true, Nat.reduceSub, Nat.reduceAdd, Nat.zero_add, reduceCtorEq, false_implies, true_implies, decide_eq_true_eq, decide_eq_false_iff_not, forall_const, List.any_cons, List.any_nil, Bool.or_false, subTy, pl1_0, pn1, pl2_0, pl2_1, pn2, pl3_0, pl3_1, pl3_2, pn3, pl4_0, pl4_1, pl4_2, pl4_3, pn4, pl5_0, pl5_1, pl5_2, pl5_3, pl5_4, pn5, pl6_0, pl6_1, pl6_2, pl6_3, pl6_4, pl6_5, pn6, pl7_0, pl7_1, pl7_2, pl7_3, pl7_4, pl7_5, pl7_6, pn7, pl8_0, pl8_1, pl8_2, pl8_3, pl8_4, pl8_5, pl8_6, pl8_7, pn8, pl9_0, pl9_1, pl9_2, pl9_3, pl9_4, pl9_5, pl9_6, pl9_7, pl9_8, pn9]
  refine r__law_integer hb1 (by omega) fun S2 y hy hb2 fr2 => ?_
  refine ⟨fun h => ?_, fun h => ?_⟩
  · have e : (if z < 0 then -z else z).natAbs < 2 ^ 70 := by split <;> omega
    have e0 : (if z < 0 then -z else z) ≠ 0 := by omega
    exact r__law_fr e0 (lt_up hy (by decide)) (lt_up e (by decide)) (q _ _ (sz_divInt hy e e0) hb2 (fr1.trans fr2))
  · exact r__law_fr (by decide) (lt_up hy (by decide)) (by decide) (q _ _ (sz_divInt hy (by decide) (by decide)) hb2 (fr1.trans fr2))
end
end EvL
end
section
set_option Elab.async false
set_option linter.all false
set_option maxRecDepth 100000
set_option maxHeartbeats 400000
set_option exponentiation.threshold 20000
namespace EvL
open PySem (Str)
open Ev
/-- plain things, nothing of them in the store -/
def im : Nat → D → Bool
  | 0, .non => true
  | 0, .bl _ => true
  | 0, .int _ => true
  | 0, .str z => PySem.PyData.strOk z && decide (z.length ≤ 1000)
  | 0, _ => false
  | k + 1, .tup xs => decide (xs.length ≤ 1000) && xs.all (im k)
  | k + 1, d => im k d
theorem sms_all {b : Nat} {S : Sto} {k : Nat} : ∀ {xs : List D}, (∀ x ∈ xs, Sm b S k x x) → Sms b S k xs xs
  | [], _ => .nil
  | x :: xs, h => .cons (h x (by simp)) (sms_all fun y hy => h y (by simp [hy]))
theorem im_sm {b : Nat} {S : Sto} : ∀ {k : Nat} {d : D}, im k d = true → Sm b S k d d
  | 0, .non, _ => .non
  | 0, .bl x, _ => .bl x
  | 0, .int i, _ => .int i
  | 0, .str z, h => by
    have h : (PySem.PyData.strOk z && decide (z.length ≤ 1000)) = true := h
    rw [Bool.and_eq_true, decide_eq_true_eq] at h
    exact .str h.1 h.2
  | 0, .tup _, h => by cases h
  | 0, .ref _, h => by cases h
  | 0, .fz _, h => by cases h
  | k + 1, .tup xs, h => by
    have h : (decide (xs.length ≤ 1000) && xs.all (im k)) = true := h
    rw [Bool.and_eq_true, decide_eq_true_eq, List.all_eq_true] at h
    exact .tup (by omega) (sms_all fun x hx => im_sm (h.2 x hx))
  | k + 1, .non, _ => .non
  | k + 1, .bl x, _ => .bl x
  | k + 1, .int i, _ => .int i
  | k + 1, .str z, h => (im_sm (k := k) (d := .str z) h).up (by omega)
  | k + 1, .ref n, h => (im_sm (k := k) (d := .ref n) h).up (by omega)
  | k + 1, .fz n, h => (im_sm (k := k) (d := .fz n) h).up (by omega)
theorem im_ref {n : Nat} : ∀ {k : Nat}, im k (.ref n) = false
  | 0 => rfl
  | k + 1 => im_ref (k := k)
theorem im_fz {n : List D} : ∀ {k : Nat}, im k (.fz n) = false
  | 0 => rfl
  | k + 1 => im_fz (k := k)
theorem im_ty {k : Nat} {S : Sto} {d : D} (h : im k d = true) : Wf S d := by
  cases d with
  | ref n => rw [im_ref] at h; cases h
  | fz n => rw [im_fz] at h; cases h
  | non => exact ⟨_, rfl⟩
  | bl _ => exact ⟨_, rfl⟩
  | int _ => exact ⟨_, rfl⟩
  | str _ => exact ⟨_, rfl⟩
  | tup _ => exact ⟨_, rfl⟩
theorem im_tup {k : Nat} {xs : List D} : im k (.tup xs) = true → xs.length ≤ 1000 ∧ ∀ x ∈ xs, im (k - 1) x = true := by
  intro h
  cases k with
  | zero => cases h
  | succ k =>
    have h : (decide (xs.length ≤ 1000) && xs.all (im k)) = true := h
    rw [Bool.and_eq_true, decide_eq_true_eq, List.all_eq_true] at h
    exact h
theorem im_wf {k : Nat} {S : Sto} {d : D} (h : im k d = true) : Wf1 S d := ⟨im_ty h, fun xs e x hx => by
  subst e
  exact im_ty ((im_tup h).2 x hx)⟩
/-- what is given to be refused -/
inductive Bad (S : Sto) (lo : Nat) : D → Prop
  | im {d : D} : im 3 d = true → Bad S lo d
  | lst {r : Nat} {xs : List D} : lo ≤ r → lstAt S r = some xs → xs.length ≤ 1000 → (∀ x ∈ xs, EvL.im 2 x = true) → Bad S lo (.ref r)
  | dct {r : Nat} : lo ≤ r → S[r]? = some (.dct []) → Bad S lo (.ref r)
theorem t_dct {S : Sto} {r : Nat} {kvs : List (Key × D)} (h : S[r]? = some (.dct kvs)) : tyOf S (.ref r) = some .dct := by
  show (match S[r]? with
    | some (.lst _) => some Ty.lst
    | some (.dct _) => some .dct
    | some (.fdc _) => some .dct
    | none => none) = some .dct
  rw [h]
theorem Bad.wf {S : Sto} {lo : Nat} {d : D} : Bad S lo d → Wf1 S d
  | .im h => im_wf h
  | .lst _ h _ _ => ⟨⟨_, t_lst h⟩, fun _ e => by cases e⟩
  | .dct _ h => ⟨⟨_, t_dct h⟩, fun _ e => by cases e⟩
theorem Bad.mono {S : Sto} {lo hi : Nat} {d : D} (h : hi ≤ lo) : Bad S lo d → Bad S hi d
  | .im h => .im h
  | .lst h1 h2 h3 h4 => .lst (by omega) h2 h3 h4
  | .dct h1 h2 => .dct (by omega) h2
theorem Bad.fr {S S' : Sto} {b lo : Nat} {d : D} (hb : b < lo) (f : Fr b S S') : Bad S lo d → Bad S' lo d
  | .im h => .im h
  | .lst h1 h2 h3 h4 => .lst h1 (f.lst (by omega) h2) h3 h4
  | .dct h1 h2 => .dct h1 (by rw [f.at_ _ (by omega) (List.getElem?_eq_some_iff.mp h2).1, h2])
def FrD (d : D) (S S' : Sto) : Prop := S.length ≤ S'.length ∧ ∀ i, i < S.length → d ≠ .ref i → S'[i]? = S[i]?
theorem Gr.frd {d : D} {S S' : Sto} (g : Gr S S') : FrD d S S' := by
  obtain ⟨T, rfl⟩ := g
  exact ⟨by simp, fun i h _ => List.getElem?_append_left h⟩
theorem FrD.trans {d : D} {S S' S2 : Sto} (a : FrD d S S') (b : FrD d S' S2) : FrD d S S2 := ⟨Nat.le_trans a.1 b.1, fun i h1 h2 => (b.2 i (Nat.lt_of_lt_of_le h1 a.1) h2).trans (a.2 i h1 h2)⟩
theorem FrD.set {r : Nat} {S : Sto} {o : Ob} : FrD (.ref r) S (S.set r o) := ⟨by simp, fun i _ h => List.getElem?_set_ne (fun e => h (by rw [e]))⟩
section
variable {n : Nat} {S : Sto} {Q : Po} {E : Xo} {b k : Nat}
theorem copy_im : ∀ (k : Nat) {d : D} {S : Sto} {Q : Po} {E : Xo} (m : Nat), k + 1 ≤ m → im k d = true → (∀ S', Gr S S' → Q d S') → run sub TT m i__law_copy [d] S Q E := by
  intro k
  induction k with
  | zero =>
    intro d S Q E m hm h q
    obtain ⟨m, rfl⟩ : ∃ j, m = j + 1 := ⟨m - 1, by omega⟩
    rw [run_eq at__law_copy rfl]
    cases d with
    | ref n => cases h
    | fz n => cases h
    | tup n => cases h
    | _ => simp only [f__law_copy, _law_copy_1, _law_copy_2, _law_copy_3, wpS, wpE, wpEs, wpP, wpI, wpT, begin_, hxD, hxD.hxL, catch_, putAll, Ev.unpack, tgSem, wipe, o_add, o_sub, o_mul, o_div, o_mod, o_pow, o_tup, o_lst, o_rep, c_eq, c_ne, c_lt, c_le, c_gt, c_ge, c_isn, c_notn, c_isb, c_in, c_nin, q_int, q_bl, not_true_eq_false, not_false_eq_true, Bool.false_or, Bool.true_or, Bool.or_true, Bool.true_and, Bool.false_and, Bool.and_true, Bool.and_false,  id_eq, lst_new, boolsD, intsD, Option.map_some, List.all_cons, List.all_nil, List.map_append,  q_lit, String.reduceEq, decide_true, decide_false, Bool.not_true, Bool.not_false, Bool.true_eq_false, Bool.false_eq_true, eq_self, i_isn, i_isi, i_isb, i_iss, i_ist, i_isr, t_non, t_int, t_bl, t_str, t_tup, t_fz, b_abs, b_lent, b_lenf, b_lens, b_list, b_tuple, b_int, b_intb, b_sum, b_min2, b_max2, b_all, b_any, b_gcd, b_dict, m_app, m_ext, m_popi, m_pop, x_tup, x_fz, List.map_cons, List.map_nil, List.length_cons, List.length_nil, List.replicate, List.append_nil, List.cons_append, List.nil_append, List.getElem?_cons_zero, List.getElem?_cons_succ, List.set_cons_zero, List.set_cons_succ, Option.some.injEq, D.int.injEq, D.bl.injEq, D.str.injEq, D.tup.injEq, D.ref.injEq, exists_eq_left', exists_eq_left, exists_eq_right, true_and, and_true, Nat.reduceSub, Nat.reduceAdd, Nat.zero_add, reduceCtorEq, false_implies, true_implies, decide_eq_true_eq, decide_eq_false_iff_not, forall_const, List.any_cons, List.any_nil, Bool.or_false, subTy, pl1_0, pn1, pl2_0, pl2_1, pn2, pl3_0, pl3_1, pl3_2, pn3, pl4_0, pl4_1, pl4_2, pl4_3, pn4, pl5_0, pl5_1, pl5_2, pl5_3, pl5_4, pn5, pl6_0, pl6_1, pl6_2, pl6_3, pl6_4, pl6_5, pn6, pl7_0, pl7_1, pl7_2, pl7_3, pl7_4, pl7_5, pl7_6, pn7, pl8_0, pl8_1, pl8_2, pl8_3, pl8_4, pl8_5, pl8_6, pl8_7, pn8, pl9_0, pl9_1, pl9_2, pl9_3, pl9_4, pl9_5, pl9_6, pl9_7, pl9_8, pn9]; exact q S Gr.refl
  | succ k ih =>
    intro d S Q E m hm h q
    obtain ⟨m, rfl⟩ : ∃ j, m = j + 1 := ⟨m - 1, by omega⟩
    cases d with
    | ref n => rw [im_ref] at h; cases h
    | fz n => rw [im_fz] at h; cases h
    | tup xs =>
      obtain ⟨hl, h⟩ := im_tup h
      rw [run_eq at__law_copy rfl]
      simp only [f__law_copy, _law_copy_1, _law_copy_2, wpS, wpE, wpEs, wpP, wpI, wpT, begin_, hxD, hxD.hxL, catch_, putAll, Ev.unpack, tgSem, wipe, o_add, o_sub, o_mul, o_div, o_mod, o_pow, o_tup, o_lst, o_rep, c_eq, c_ne, c_lt, c_le, c_gt, c_ge, c_isn, c_notn, c_isb, c_in, c_nin, q_int, q_bl, not_true_eq_false, not_false_eq_true, Bool.false_or, Bool.true_or, Bool.or_true, Bool.true_and, Bool.false_and, Bool.and_true, Bool.and_false,  id_eq, lst_new, boolsD, intsD, Option.map_some, List.all_cons, List.all_nil, List.map_append,  q_lit, String.reduceEq, decide_true, decide_false, Bool.not_true, Bool.not_false, Bool.true_eq_false, Bool.false_eq_true, eq_self, i_isn, i_isi, i_isb, i_iss, i_ist, i_isr, t_non, t_int, t_bl, t_str, t_tup, t_fz, b_abs, b_lent, b_lenf, b_lens, b_list, b_tuple, b_int, b_intb, b_sum, b_min2, b_max2, b_all, b_any, b_gcd, b_dict, m_app, m_ext, m_popi, m_pop, x_tup, x_fz, List.map_cons, List.map_nil, List.length_cons, List.length_nil, List.replicate, List.append_nil, List.cons_append, List.nil_append, List.getElem?_cons_zero, List.getElem?_cons_succ, List.set_cons_zero, List.set_cons_succ, Option.some.injEq, D.int.injEq, D.bl.injEq, D.str.injEq, D.tup.injEq, D.ref.injEq, exists_eq_left', exists_eq_left, exists_eq_right, true_and, and_true, Nat.reduceSub, Nat.reduceAdd, Nat.zero_add, reduceCtorEq, false_implies, true_implies, decide_eq_true_eq, decide_eq_false_iff_not, forall_const, List.any_cons, List.any_nil, Bool.or_false, subTy, pl1_0, pn1, pl2_0, pl2_1, pn2, pl3_0, pl3_1, pl3_2, pn3, pl4_0, pl4_1, pl4_2, pl4_3, pn4, pl5_0, pl5_1, pl5_2, pl5_3, pl5_4, pn5, pl6_0, pl6_1, pl6_2, pl6_3, pl6_4, pl6_5, pn6, pl7_0, pl7_1, pl7_2, pl7_3, pl7_4, pl7_5, pl7_6, pn7, pl8_0, pl8_1, pl8_2, pl8_3, pl8_4, pl8_5, pl8_6, pl8_7, pn8, pl9_0, pl9_1, pl9_2, pl9_3, pl9_4, pl9_5, pl9_6, pl9_7, pl9_8, pn9, srcVal, isVar, seqOf]
      refine gather_R (R := Gr S) (fun x => some x) _ _ _ Gr.refl (fun _ _ => trivial) (fun x hx S1 g1 kk hk => ?_) (by rw [most_eq]; simp; omega) fun S1 g1 => ?_
      · exact ih m (by omega) (h x hx) fun S2 g2 => hk S2 (g1.trans g2)
      · simp only [wpS, wpE, wpEs, wpP, wpI, wpT, begin_, hxD, hxD.hxL, catch_, putAll, Ev.unpack, tgSem, wipe, o_add, o_sub, o_mul, o_div, o_mod, o_pow, o_tup, o_lst, o_rep, c_eq, c_ne, c_lt, c_le, c_gt, c_ge, c_isn, c_notn, c_isb, c_in, c_nin, q_int, q_bl, not_true_eq_false, not_false_eq_true, Bool.false_or, Bool.true_or, Bool.or_true, Bool.true_and, Bool.false_and, Bool.and_true, Bool.and_false,  id_eq, lst_new, boolsD, intsD, Option.map_some, List.all_cons, List.all_nil, List.map_append,  q_lit, String.reduceEq, decide_true, decide_false, Bool.not_true, Bool.not_false, Bool.true_eq_false, Bool.false_eq_true, eq_self, i_isn, i_isi, i_isb, i_iss, i_ist, i_isr, t_non, t_int, t_bl, t_str, t_tup, t_fz, b_abs, b_lent, b_lenf, b_lens, b_list, b_tuple, b_int, b_intb, b_sum, b_min2, b_max2, b_all, b_any, b_gcd, b_dict, m_app, m_ext, m_popi, m_pop, x_tup, x_fz, List.map_cons, List.map_nil, List.length_cons, List.length_nil, List.replicate, List.append_nil, List.cons_append, List.nil_append, List.getElem?_cons_zero, List.getElem?_cons_succ, List.set_cons_zero, List.set_cons_succ, Option.some.injEq, D.int.injEq, D.bl.injEq, D.str.injEq, D.tup.injEq, D.ref.injEq, exists_eq_left', exists_eq_left, exists_eq_right, true_and, and_true, Nat.reduceSub, Nat.reduceAdd, Nat.zero_add, reduceCtorEq, false_implies, true_implies, decide_eq_true_eq, decide_eq_false_iff_not, forall_const, List.any_cons, List.any_nil, Bool.or_false, subTy, pl1_0, pn1, pl2_0, pl2_1, pn2, pl3_0, pl3_1, pl3_2, pn3, pl4_0, pl4_1, pl4_2, pl4_3, pn4, pl5_0, pl5_1, pl5_2, pl5_3, pl5_4, pn5, pl6_0, pl6_1, pl6_2, pl6_3, pl6_4, pl6_5, pn6, pl7_0, pl7_1, pl7_2, pl7_3, pl7_4, pl7_5, pl7_6, pn7, pl8_0, pl8_1, pl8_2, pl8_3, pl8_4, pl8_5, pl8_6, pl8_7, pn8, pl9_0, pl9_1, pl9_2, pl9_3, pl9_4, pl9_5, pl9_6, pl9_7, pl9_8, pn9, List.filterMap_some]
        exact q _ (g1.trans Gr.one)
    | _ => rw [run_eq at__law_copy rfl]; simp only [f__law_copy, _law_copy_1, _law_copy_2, _law_copy_3, wpS, wpE, wpEs, wpP, wpI, wpT, begin_, hxD, hxD.hxL, catch_, putAll, Ev.unpack, tgSem, wipe, o_add, o_sub, o_mul, o_div, o_mod, o_pow, o_tup, o_lst, o_rep, c_eq, c_ne, c_lt, c_le, c_gt, c_ge, c_isn, c_notn, c_isb, c_in, c_nin, q_int, q_bl, not_true_eq_false, not_false_eq_true, Bool.false_or, Bool.true_or, Bool.or_true, Bool.true_and, Bool.false_and, Bool.and_true, Bool.and_false,  id_eq, lst_new, boolsD, intsD, Option.map_some, List.all_cons, List.all_nil, List.map_append,  q_lit, String.reduceEq, decide_true, decide_false, Bool.not_true, Bool.not_false, Bool.true_eq_false, Bool.false_eq_true, eq_self, i_isn, i_isi, i_isb, i_iss, i_ist, i_isr, t_non, t_int, t_bl, t_str, t_tup, t_fz, b_abs, b_lent, b_lenf, b_lens, b_list, b_tuple, b_int, b_intb, b_sum, b_min2, b_max2, b_all, b_any, b_gcd, b_dict, m_app, m_ext, m_popi, m_pop, x_tup, x_fz, List.map_cons, List.map_nil, List.length_cons, List.length_nil, List.replicate, List.append_nil, List.cons_append, List.nil_append, List.getElem?_cons_zero, List.getElem?_cons_succ, List.set_cons_zero, List.set_cons_succ, Option.some.injEq, D.int.injEq, D.bl.injEq, D.str.injEq, D.tup.injEq, D.ref.injEq, exists_eq_left', exists_eq_left, exists_eq_right, true_and, and_true, Nat.reduceSub, Nat.reduceAdd, Nat.zero_add, reduceCtorEq, false_implies, true_implies, decide_eq_true_eq, decide_eq_false_iff_not, forall_const, List.any_cons, List.any_nil, Bool.or_false, subTy, pl1_0, pn1, pl2_0, pl2_1, pn2, pl3_0, pl3_1, pl3_2, pn3, pl4_0, pl4_1, pl4_2, pl4_3, pn4, pl5_0, pl5_1, pl5_2, pl5_3, pl5_4, pn5, pl6_0, pl6_1, pl6_2, pl6_3, pl6_4, pl6_5, pn6, pl7_0, pl7_1, pl7_2, pl7_3, pl7_4, pl7_5, pl7_6, pn7, pl8_0, pl8_1, pl8_2, pl8_3, pl8_4, pl8_5, pl8_6, pl8_7, pn8, pl9_0, pl9_1, pl9_2, pl9_3, pl9_4, pl9_5, pl9_6, pl9_7, pl9_8, pn9]; exact q S Gr.refl
theorem r__law_copy {d : D} {lo : Nat} (h : Bad S lo d) (q : ∀ S' d', Gr S S' → Bad S' S.length d' → (isFr d' = isFr d ∧ isInt d' = isInt d) → (im 3 d = true → d' = d) → Q d' S') : run sub TT (n + 5) i__law_copy [d] S Q E := by
  cases h with
  | im h => exact copy_im 3 _ (by omega) h fun S' g => q S' d g (.im h) ⟨rfl, rfl⟩ fun _ => rfl
  | @lst r xs h1 h2 h3 h4 =>
    have hr := lst_lt h2
    rw [run_eq at__law_copy rfl]
    have t1 := t_lst h2
    simp only [f__law_copy, _law_copy_1, wpS, wpE, wpEs, wpP, wpI, wpT, begin_, hxD, hxD.hxL, catch_, putAll, Ev.unpack, tgSem, wipe, o_add, o_sub, o_mul, o_div, o_mod, o_pow, o_tup, o_lst, o_rep, c_eq, c_ne, c_lt, c_le, c_gt, c_ge, c_isn, c_notn, c_isb, c_in, c_nin, q_int, q_bl, not_true_eq_false, not_false_eq_true, Bool.false_or, Bool.true_or, Bool.or_true, Bool.true_and, Bool.false_and, Bool.and_true, Bool.and_false,  id_eq, lst_new, boolsD, intsD, Option.map_some, List.all_cons, List.all_nil, List.map_append,  q_lit, String.reduceEq, decide_true, decide_false, Bool.not_true, Bool.not_false, Bool.true_eq_false, Bool.false_eq_true, eq_self, i_isn, i_isi, i_isb, i_iss, i_ist, i_isr, t_non, t_int, t_bl, t_str, t_tup, t_fz, b_abs, b_lent, b_lenf, b_lens, b_list, b_tuple, b_int, b_intb, b_sum, b_min2, b_max2, b_all, b_any, b_gcd, b_dict, m_app, m_ext, m_popi, m_pop, x_tup, x_fz, List.map_cons, List.map_nil, List.length_cons, List.length_nil, List.replicate, List.append_nil, List.cons_append, List.nil_append, List.getElem?_cons_zero, List.getElem?_cons_succ, List.set_cons_zero, List.set_cons_succ, Option.some.injEq, D.int.injEq, D.bl.injEq, D.str.injEq, D.tup.injEq, D.ref.injEq, exists_eq_left', exists_eq_left, exists_eq_right, true_and, and_true, Nat.reduceSub, Nat.reduceAdd, Nat.zero_add, reduceCtorEq, false_implies, true_implies, decide_eq_true_eq, decide_eq_false_iff_not, forall_const, List.any_cons, List.any_nil, Bool.or_false, subTy, pl1_0, pn1, pl2_0, pl2_1, pn2, pl3_0, pl3_1, pl3_2, pn3, pl4_0, pl4_1, pl4_2, pl4_3, pn4, pl5_0, pl5_1, pl5_2, pl5_3, pl5_4, pn5, pl6_0, pl6_1, pl6_2, pl6_3, pl6_4, pl6_5, pn6, pl7_0, pl7_1, pl7_2, pl7_3, pl7_4, pl7_5, pl7_6, pn7, pl8_0, pl8_1, pl8_2, pl8_3, pl8_4, pl8_5, pl8_6, pl8_7, pn8, pl9_0, pl9_1, pl9_2, pl9_3, pl9_4, pl9_5, pl9_6, pl9_7, pl9_8, pn9, t1, srcVal, isVar]
    refine .inl ⟨xs, h2, ?_⟩
    refine gather_R (R := Gr S) (fun x => some x) _ _ _ Gr.refl (fun S1 g => g.lst h2) (fun x hx S1 g1 kk hk => ?_) (by rw [most_eq]; simp; omega) fun S1 g1 => ?_
    · exact copy_im 2 _ (by omega) (h4 x hx) fun S2 g2 => hk S2 (g1.trans g2)
    · simp only [wpS, wpE, wpEs, wpP, wpI, wpT, begin_, hxD, hxD.hxL, catch_, putAll, Ev.unpack, tgSem, wipe, o_add, o_sub, o_mul, o_div, o_mod, o_pow, o_tup, o_lst, o_rep, c_eq, c_ne, c_lt, c_le, c_gt, c_ge, c_isn, c_notn, c_isb, c_in, c_nin, q_int, q_bl, not_true_eq_false, not_false_eq_true, Bool.false_or, Bool.true_or, Bool.or_true, Bool.true_and, Bool.false_and, Bool.and_true, Bool.and_false,  id_eq, lst_new, boolsD, intsD, Option.map_some, List.all_cons, List.all_nil, List.map_append,  q_lit, String.reduceEq, decide_true, decide_false, Bool.not_true, Bool.not_false, Bool.true_eq_false, Bool.false_eq_true, eq_self, i_isn, i_isi, i_isb, i_iss, i_ist, i_isr, t_non, t_int, t_bl, t_str, t_tup, t_fz, b_abs, b_lent, b_lenf, b_lens, b_list, b_tuple, b_int, b_intb, b_sum, b_min2, b_max2, b_all, b_any, b_gcd, b_dict, m_app, m_ext, m_popi, m_pop, x_tup, x_fz, List.map_cons, List.map_nil, List.length_cons, List.length_nil, List.replicate, List.append_nil, List.cons_append, List.nil_append, List.getElem?_cons_zero, List.getElem?_cons_succ, List.set_cons_zero, List.set_cons_succ, Option.some.injEq, D.int.injEq, D.bl.injEq, D.str.injEq, D.tup.injEq, D.ref.injEq, exists_eq_left', exists_eq_left, exists_eq_right, true_and, and_true, Nat.reduceSub, Nat.reduceAdd, Nat.zero_add, reduceCtorEq, false_implies, true_implies, decide_eq_true_eq, decide_eq_false_iff_not, forall_const, List.any_cons, List.any_nil, Bool.or_false, subTy, pl1_0, pn1, pl2_0, pl2_1, pn2, pl3_0, pl3_1, pl3_2, pn3, pl4_0, pl4_1, pl4_2, pl4_3, pn4, pl5_0, pl5_1, pl5_2, pl5_3, pl5_4, pn5, pl6_0, pl6_1, pl6_2, pl6_3, pl6_4, pl6_5, pn6, pl7_0, pl7_1, pl7_2, pl7_3, pl7_4, pl7_5, pl7_6, pn7, pl8_0, pl8_1, pl8_2, pl8_3, pl8_4, pl8_5, pl8_6, pl8_7, pn8, pl9_0, pl9_1, pl9_2, pl9_3, pl9_4, pl9_5, pl9_6, pl9_7, pl9_8, pn9, List.filterMap_some]
      have hl : S.length ≤ S1.length := g1.fr (n := 0) |>.le
      exact q _ _ (g1.trans Gr.one) (.lst hl lst_new h3 h4) ⟨rfl, rfl⟩ (fun z => by rw [im_ref] at z; cases z)
  | @dct r h1 h2 =>
    have hr := (List.getElem?_eq_some_iff.mp h2).1
    rw [run_eq at__law_copy rfl]
    have t1 := t_dct h2
    simp only [f__law_copy, _law_copy_1, _law_copy_2, _law_copy_3, wpS, wpE, wpEs, wpP, wpI, wpT, begin_, hxD, hxD.hxL, catch_, putAll, Ev.unpack, tgSem, wipe, o_add, o_sub, o_mul, o_div, o_mod, o_pow, o_tup, o_lst, o_rep, c_eq, c_ne, c_lt, c_le, c_gt, c_ge, c_isn, c_notn, c_isb, c_in, c_nin, q_int, q_bl, not_true_eq_false, not_false_eq_true, Bool.false_or, Bool.true_or, Bool.or_true, Bool.true_and, Bool.false_and, Bool.and_true, Bool.and_false,  id_eq, lst_new, boolsD, intsD, Option.map_some, List.all_cons, List.all_nil, List.map_append,  q_lit, String.reduceEq, decide_true, decide_false, Bool.not_true, Bool.not_false, Bool.true_eq_false, Bool.false_eq_true, eq_self, i_isn, i_isi, i_isb, i_iss, i_ist, i_isr, t_non, t_int, t_bl, t_str, t_tup, t_fz, b_abs, b_lent, b_lenf, b_lens, b_list, b_tuple, b_int, b_intb, b_sum, b_min2, b_max2, b_all, b_any, b_gcd, b_dict, m_app, m_ext, m_popi, m_pop, x_tup, x_fz, List.map_cons, List.map_nil, List.length_cons, List.length_nil, List.replicate, List.append_nil, List.cons_append, List.nil_append, List.getElem?_cons_zero, List.getElem?_cons_succ, List.set_cons_zero, List.set_cons_succ, Option.some.injEq, D.int.injEq, D.bl.injEq, D.str.injEq, D.tup.injEq, D.ref.injEq, exists_eq_left', exists_eq_left, exists_eq_right, true_and, and_true, Nat.reduceSub, Nat.reduceAdd, Nat.zero_add, reduceCtorEq, false_implies, true_implies, decide_eq_true_eq, decide_eq_false_iff_not, forall_const, List.any_cons, List.any_nil, Bool.or_false, subTy, pl1_0, pn1, pl2_0, pl2_1, pn2, pl3_0, pl3_1, pl3_2, pn3, pl4_0, pl4_1, pl4_2, pl4_3, pn4, pl5_0, pl5_1, pl5_2, pl5_3, pl5_4, pn5, pl6_0, pl6_1, pl6_2, pl6_3, pl6_4, pl6_5, pn6, pl7_0, pl7_1, pl7_2, pl7_3, pl7_4, pl7_5, pl7_6, pn7, pl8_0, pl8_1, pl8_2, pl8_3, pl8_4, pl8_5, pl8_6, pl8_7, pn8, pl9_0, pl9_1, pl9_2, pl9_3, pl9_4, pl9_5, pl9_6, pl9_7, pl9_8, pn9, t1, srcVal, isVar]
    refine .inr ⟨[], h2, ?_⟩
    simp only [List.map_nil, gather, wpS, wpE, wpEs, wpP, wpI, wpT, begin_, hxD, hxD.hxL, catch_, putAll, Ev.unpack, tgSem, wipe, o_add, o_sub, o_mul, o_div, o_mod, o_pow, o_tup, o_lst, o_rep, c_eq, c_ne, c_lt, c_le, c_gt, c_ge, c_isn, c_notn, c_isb, c_in, c_nin, q_int, q_bl, not_true_eq_false, not_false_eq_true, Bool.false_or, Bool.true_or, Bool.or_true, Bool.true_and, Bool.false_and, Bool.and_true, Bool.and_false,  id_eq, lst_new, boolsD, intsD, Option.map_some, List.all_cons, List.all_nil, List.map_append,  q_lit, String.reduceEq, decide_true, decide_false, Bool.not_true, Bool.not_false, Bool.true_eq_false, Bool.false_eq_true, eq_self, i_isn, i_isi, i_isb, i_iss, i_ist, i_isr, t_non, t_int, t_bl, t_str, t_tup, t_fz, b_abs, b_lent, b_lenf, b_lens, b_list, b_tuple, b_int, b_intb, b_sum, b_min2, b_max2, b_all, b_any, b_gcd, b_dict, m_app, m_ext, m_popi, m_pop, x_tup, x_fz, List.map_cons, List.map_nil, List.length_cons, List.length_nil, List.replicate, List.append_nil, List.cons_append, List.nil_append, List.getElem?_cons_zero, List.getElem?_cons_succ, List.set_cons_zero, List.set_cons_succ, Option.some.injEq, D.int.injEq, D.bl.injEq, D.str.injEq, D.tup.injEq, D.ref.injEq, exists_eq_left', exists_eq_left, exists_eq_right, true_and, and_true, Nat.reduceSub, Nat.reduceAdd, Nat.zero_add, reduceCtorEq, false_implies, true_implies, decide_eq_true_eq, decide_eq_false_iff_not, forall_const, List.any_cons, List.any_nil, Bool.or_false, subTy, pl1_0, pn1, pl2_0, pl2_1, pn2, pl3_0, pl3_1, pl3_2, pn3, pl4_0, pl4_1, pl4_2, pl4_3, pn4, pl5_0, pl5_1, pl5_2, pl5_3, pl5_4, pn5, pl6_0, pl6_1, pl6_2, pl6_3, pl6_4, pl6_5, pn6, pl7_0, pl7_1, pl7_2, pl7_3, pl7_4, pl7_5, pl7_6, pn7, pl8_0, pl8_1, pl8_2, pl8_3, pl8_4, pl8_5, pl8_6, pl8_7, pn8, pl9_0, pl9_1, pl9_2, pl9_3, pl9_4, pl9_5, pl9_6, pl9_7, pl9_8, pn9, pairsOf]
    have e : (S.set r (.fdc [])).set r (.dct []) = S := by
      rw [List.set_set]
      have e : Ob.dct [] = S[r] := by
        rw [List.getElem?_eq_getElem hr] at h2
        exact (Option.some.inj h2).symm
      rw [e]
      exact List.set_getElem_self hr
    rw [e]
    refine ⟨List.getElem?_set_self hr, [], ?_, [], rfl, ?_⟩
    · rw [List.length_set]
      exact lst_new
    · refine q _ _ (Gr.one.trans Gr.one) (.dct (by simp) ?_) ⟨rfl, rfl⟩ (fun z => by rw [im_ref] at z; cases z)
      · rw [List.getElem?_append_right (Nat.le_refl _), Nat.sub_self]
        rfl
theorem r__law_very {d : D} {lo : Nat} (h : Bad S lo d) (hb : b < lo) (q : ∀ S', FrD d S S' → Q (.bl true) S') : run sub TT (n + 6) i__law_very [d, d] S Q E := by
  rw [run_eq at__law_very rfl]
  cases h with
  | im h =>
    cases d with
    | ref n => rw [im_ref] at h; cases h
    | fz n => rw [im_fz] at h; cases h
    | _ =>
      simp only [f__law_very, _law_very_1, _law_very_2, wpS, wpE, wpEs, wpP, wpI, wpT, begin_, hxD, hxD.hxL, catch_, putAll, Ev.unpack, tgSem, wipe, o_add, o_sub, o_mul, o_div, o_mod, o_pow, o_tup, o_lst, o_rep, c_eq, c_ne, c_lt, c_le, c_gt, c_ge, c_isn, c_notn, c_isb, c_in, c_nin, q_int, q_bl, not_true_eq_false, not_false_eq_true, Bool.false_or, Bool.true_or, Bool.or_true, Bool.true_and, Bool.false_and, Bool.and_true, Bool.and_false,  id_eq, lst_new, boolsD, intsD, Option.map_some, List.all_cons, List.all_nil, List.map_append,  q_lit, String.reduceEq, decide_true, decide_false, Bool.not_true, Bool.not_false, Bool.true_eq_false, Bool.false_eq_true, eq_self, i_isn, i_isi, i_isb, i_iss, i_ist, i_isr, t_non, t_int, t_bl, t_str, t_tup, t_fz, b_abs, b_lent, b_lenf, b_lens, b_list, b_tuple, b_int, b_intb, b_sum, b_min2, b_max2, b_all, b_any, b_gcd, b_dict, m_app, m_ext, m_popi, m_pop, x_tup, x_fz, List.map_cons, List.map_nil, List.length_cons, List.length_nil, List.replicate, List.append_nil, List.cons_append, List.nil_append, List.getElem?_cons_zero, List.getElem?_cons_succ, List.set_cons_zero, List.set_cons_succ, Option.some.injEq, D.int.injEq, D.bl.injEq, D.str.injEq, D.tup.injEq, D.ref.injEq, exists_eq_left', exists_eq_left, exists_eq_right, true_and, and_true, Nat.reduceSub, Nat.reduceAdd, Nat.zero_add, reduceCtorEq, false_implies, true_implies, decide_eq_true_eq, decide_eq_false_iff_not, forall_const, List.any_cons, List.any_nil, Bool.or_false, subTy, pl1_0, pn1, pl2_0, pl2_1, pn2, pl3_0, pl3_1, pl3_2, pn3, pl4_0, pl4_1, pl4_2, pl4_3, pn4, pl5_0, pl5_1, pl5_2, pl5_3, pl5_4, pn5, pl6_0, pl6_1, pl6_2, pl6_3, pl6_4, pl6_5, pn6, pl7_0, pl7_1, pl7_2, pl7_3, pl7_4, pl7_5, pl7_6, pn7, pl8_0, pl8_1, pl8_2, pl8_3, pl8_4, pl8_5, pl8_6, pl8_7, pn8, pl9_0, pl9_1, pl9_2, pl9_3, pl9_4, pl9_5, pl9_6, pl9_7, pl9_8, pn9]
      refine r__law_same (b := 0) 3 _ (by omega) (im_sm h) fun S1 g1 => ?_
      simp only [_law_very_3, _law_very_4, wpS, wpE, wpEs, wpP, wpI, wpT, begin_, hxD, hxD.hxL, catch_, putAll, Ev.unpack, tgSem, wipe, o_add, o_sub, o_mul, o_div, o_mod, o_pow, o_tup, o_lst, o_rep, c_eq, c_ne, c_lt, c_le, c_gt, c_ge, c_isn, c_notn, c_isb, c_in, c_nin, q_int, q_bl, not_true_eq_false, not_false_eq_true, Bool.false_or, Bool.true_or, Bool.or_true, Bool.true_and, Bool.false_and, Bool.and_true, Bool.and_false,  id_eq, lst_new, boolsD, intsD, Option.map_some, List.all_cons, List.all_nil, List.map_append,  q_lit, String.reduceEq, decide_true, decide_false, Bool.not_true, Bool.not_false, Bool.true_eq_false, Bool.false_eq_true, eq_self, i_isn, i_isi, i_isb, i_iss, i_ist, i_isr, t_non, t_int, t_bl, t_str, t_tup, t_fz, b_abs, b_lent, b_lenf, b_lens, b_list, b_tuple, b_int, b_intb, b_sum, b_min2, b_max2, b_all, b_any, b_gcd, b_dict, m_app, m_ext, m_popi, m_pop, x_tup, x_fz, List.map_cons, List.map_nil, List.length_cons, List.length_nil, List.replicate, List.append_nil, List.cons_append, List.nil_append, List.getElem?_cons_zero, List.getElem?_cons_succ, List.set_cons_zero, List.set_cons_succ, Option.some.injEq, D.int.injEq, D.bl.injEq, D.str.injEq, D.tup.injEq, D.ref.injEq, exists_eq_left', exists_eq_left, exists_eq_right, true_and, and_true, Nat.reduceSub, Nat.reduceAdd, Nat.zero_add, reduceCtorEq, false_implies, true_implies, decide_eq_true_eq, decide_eq_false_iff_not, forall_const, List.any_cons, List.any_nil, Bool.or_false, subTy, pl1_0, pn1, pl2_0, pl2_1, pn2, pl3_0, pl3_1, pl3_2, pn3, pl4_0, pl4_1, pl4_2, pl4_3, pn4, pl5_0, pl5_1, pl5_2, pl5_3, pl5_4, pn5, pl6_0, pl6_1, pl6_2, pl6_3, pl6_4, pl6_5, pn6, pl7_0, pl7_1, pl7_2, pl7_3, pl7_4, pl7_5, pl7_6, pn7, pl8_0, pl8_1, pl8_2, pl8_3, pl8_4, pl8_5, pl8_6, pl8_7, pn8, pl9_0, pl9_1, pl9_2, pl9_3, pl9_4, pl9_5, pl9_6, pl9_7, pl9_8, pn9]
      refine r__law_same (b := 0) 3 _ (by omega) (im_sm h) fun S2 g2 => ?_
      exact q _ (Gr.frd (g1.trans g2))
  | @lst r xs h1 h2 h3 h4 =>
    have hr := lst_lt h2
    have t1 := t_lst h2
    have hrb : r ≠ b := by omega
    simp only [f__law_very, _law_very_1, _law_very_2, wpS, wpE, wpEs, wpP, wpI, wpT, begin_, hxD, hxD.hxL, catch_, putAll, Ev.unpack, tgSem, wipe, o_add, o_sub, o_mul, o_div, o_mod, o_pow, o_tup, o_lst, o_rep, c_eq, c_ne, c_lt, c_le, c_gt, c_ge, c_isn, c_notn, c_isb, c_in, c_nin, q_int, q_bl, not_true_eq_false, not_false_eq_true, Bool.false_or, Bool.true_or, Bool.or_true, Bool.true_and, Bool.false_and, Bool.and_true, Bool.and_false,  id_eq, lst_new, boolsD, intsD, Option.map_some, List.all_cons, List.all_nil, List.map_append,  q_lit, String.reduceEq, decide_true, decide_false, Bool.not_true, Bool.not_false, Bool.true_eq_false, Bool.false_eq_true, eq_self, i_isn, i_isi, i_isb, i_iss, i_ist, i_isr, t_non, t_int, t_bl, t_str, t_tup, t_fz, b_abs, b_lent, b_lenf, b_lens, b_list, b_tuple, b_int, b_intb, b_sum, b_min2, b_max2, b_all, b_any, b_gcd, b_dict, m_app, m_ext, m_popi, m_pop, x_tup, x_fz, List.map_cons, List.map_nil, List.length_cons, List.length_nil, List.replicate, List.append_nil, List.cons_append, List.nil_append, List.getElem?_cons_zero, List.getElem?_cons_succ, List.set_cons_zero, List.set_cons_succ, Option.some.injEq, D.int.injEq, D.bl.injEq, D.str.injEq, D.tup.injEq, D.ref.injEq, exists_eq_left', exists_eq_left, exists_eq_right, true_and, and_true, Nat.reduceSub, Nat.reduceAdd, Nat.zero_add, reduceCtorEq, false_implies, true_implies, decide_eq_true_eq, decide_eq_false_iff_not, forall_const, List.any_cons, List.any_nil, Bool.or_false, subTy, pl1_0, pn1, pl2_0, pl2_1, pn2, pl3_0, pl3_1, pl3_2, pn3, pl4_0, pl4_1, pl4_2, pl4_3, pn4, pl5_0, pl5_1, pl5_2, pl5_3, pl5_4, pn5, pl6_0, pl6_1, pl6_2, pl6_3, pl6_4, pl6_5, pn6, pl7_0, pl7_1, pl7_2, pl7_3, pl7_4, pl7_5, pl7_6, pn7, pl8_0, pl8_1, pl8_2, pl8_3, pl8_4, pl8_5, pl8_6, pl8_7, pn8, pl9_0, pl9_1, pl9_2, pl9_3, pl9_4, pl9_5, pl9_6, pl9_7, pl9_8, pn9, t1]
    refine r__law_same (b := b) 3 _ (by omega) (.lst hrb hrb h2 h2 (by omega) (sms_all fun x hx => im_sm (h4 x hx))) fun S1 g1 => ?_
    have h5 := g1.lst h2
    have t2 := t_lst h5
    simp only [_law_very_3, _law_very_3t_1, _law_very_4, wpS, wpE, wpEs, wpP, wpI, wpT, begin_, hxD, hxD.hxL, catch_, putAll, Ev.unpack, tgSem, wipe, o_add, o_sub, o_mul, o_div, o_mod, o_pow, o_tup, o_lst, o_rep, c_eq, c_ne, c_lt, c_le, c_gt, c_ge, c_isn, c_notn, c_isb, c_in, c_nin, q_int, q_bl, not_true_eq_false, not_false_eq_true, Bool.false_or, Bool.true_or, Bool.or_true, Bool.true_and, Bool.false_and, Bool.and_true, Bool.and_false,  id_eq, lst_new, boolsD, intsD, Option.map_some, List.all_cons, List.all_nil, List.map_append,  q_lit, String.reduceEq, decide_true, decide_false, Bool.not_true, Bool.not_false, Bool.true_eq_false, Bool.false_eq_true, eq_self, i_isn, i_isi, i_isb, i_iss, i_ist, i_isr, t_non, t_int, t_bl, t_str, t_tup, t_fz, b_abs, b_lent, b_lenf, b_lens, b_list, b_tuple, b_int, b_intb, b_sum, b_min2, b_max2, b_all, b_any, b_gcd, b_dict, m_app, m_ext, m_popi, m_pop, x_tup, x_fz, List.map_cons, List.map_nil, List.length_cons, List.length_nil, List.replicate, List.append_nil, List.cons_append, List.nil_append, List.getElem?_cons_zero, List.getElem?_cons_succ, List.set_cons_zero, List.set_cons_succ, Option.some.injEq, D.int.injEq, D.bl.injEq, D.str.injEq, D.tup.injEq, D.ref.injEq, exists_eq_left', exists_eq_left, exists_eq_right, true_and, and_true, Nat.reduceSub, Nat.reduceAdd, Nat.zero_add, reduceCtorEq, false_implies, true_implies, decide_eq_true_eq, decide_eq_false_iff_not, forall_const, List.any_cons, List.any_nil, Bool.or_false, subTy, pl1_0, pn1, pl2_0, pl2_1, pn2, pl3_0, pl3_1, pl3_2, pn3, pl4_0, pl4_1, pl4_2, pl4_3, pn4, pl5_0, pl5_1, pl5_2, pl5_3, pl5_4, pn5, pl6_0, pl6_1, pl6_2, pl6_3, pl6_4, pl6_5, pn6, pl7_0, pl7_1, pl7_2, pl7_3, pl7_4, pl7_5, pl7_6, pn7, pl8_0, pl8_1, pl8_2, pl8_3, pl8_4, pl8_5, pl8_6, pl8_7, pn8, pl9_0, pl9_1, pl9_2, pl9_3, pl9_4, pl9_5, pl9_6, pl9_7, pl9_8, pn9, t2]
    refine ⟨⟨_, _, rfl, h5⟩, xs, h5, by rw [most_eq]; omega, ?_⟩
    have h6 : lstAt (S1.set r (.lst (xs ++ [.str (Str.ofString "more")]))) r = some (xs ++ [.str (Str.ofString "more")]) := lst_set (lst_lt h5)
    have hm : im 2 (.str (Str.ofString "more")) = true := by
      show (PySem.PyData.strOk (Str.ofString "more") && decide ((Str.ofString "more").length ≤ 1000)) = true
      rw [sOk]
      rfl
    refine r__law_same (b := b) 3 _ (by omega) (.lst hrb hrb h6 h6 (by simp; omega) (sms_all fun x hx => im_sm (k := 2) ?_)) fun S2 g2 => ?_
    · rcases List.mem_append.mp hx with hx | hx
      · exact h4 x hx
      · rw [List.mem_singleton.mp hx]
        exact hm
    · exact q _ (((Gr.frd g1).trans FrD.set).trans (Gr.frd g2))
  | @dct r h1 h2 =>
    have hr := (List.getElem?_eq_some_iff.mp h2).1
    have t1 := t_dct h2
    simp only [f__law_very, _law_very_1, wpS, wpE, wpEs, wpP, wpI, wpT, begin_, hxD, hxD.hxL, catch_, putAll, Ev.unpack, tgSem, wipe, o_add, o_sub, o_mul, o_div, o_mod, o_pow, o_tup, o_lst, o_rep, c_eq, c_ne, c_lt, c_le, c_gt, c_ge, c_isn, c_notn, c_isb, c_in, c_nin, q_int, q_bl, not_true_eq_false, not_false_eq_true, Bool.false_or, Bool.true_or, Bool.or_true, Bool.true_and, Bool.false_and, Bool.and_true, Bool.and_false,  id_eq, lst_new, boolsD, intsD, Option.map_some, List.all_cons, List.all_nil, List.map_append,  q_lit, String.reduceEq, decide_true, decide_false, Bool.not_true, Bool.not_false, Bool.true_eq_false, Bool.false_eq_true, eq_self, i_isn, i_isi, i_isb, i_iss, i_ist, i_isr, t_non, t_int, t_bl, t_str, t_tup, t_fz, b_abs, b_lent, b_lenf, b_lens, b_list, b_tuple, b_int, b_intb, b_sum, b_min2, b_max2, b_all, b_any, b_gcd, b_dict, m_app, m_ext, m_popi, m_pop, x_tup, x_fz, List.map_cons, List.map_nil, List.length_cons, List.length_nil, List.replicate, List.append_nil, List.cons_append, List.nil_append, List.getElem?_cons_zero, List.getElem?_cons_succ, List.set_cons_zero, List.set_cons_succ, Option.some.injEq, D.int.injEq, D.bl.injEq, D.str.injEq, D.tup.injEq, D.ref.injEq, exists_eq_left', exists_eq_left, exists_eq_right, true_and, and_true, Nat.reduceSub, Nat.reduceAdd, Nat.zero_add, reduceCtorEq, false_implies, true_implies, decide_eq_true_eq, decide_eq_false_iff_not, forall_const, List.any_cons, List.any_nil, Bool.or_false, subTy, pl1_0, pn1, pl2_0, pl2_1, pn2, pl3_0, pl3_1, pl3_2, pn3, pl4_0, pl4_1, pl4_2, pl4_3, pn4, pl5_0, pl5_1, pl5_2, pl5_3, pl5_4, pn5, pl6_0, pl6_1, pl6_2, pl6_3, pl6_4, pl6_5, pn6, pl7_0, pl7_1, pl7_2, pl7_3, pl7_4, pl7_5, pl7_6, pn7, pl8_0, pl8_1, pl8_2, pl8_3, pl8_4, pl8_5, pl8_6, pl8_7, pn8, pl9_0, pl9_1, pl9_2, pl9_3, pl9_4, pl9_5, pl9_6, pl9_7, pl9_8, pn9, t1]
    simp only [_law_very_1t_1, wpS, wpE, wpEs, wpP, wpI, wpT, begin_, hxD, hxD.hxL, catch_, putAll, Ev.unpack, tgSem, wipe, o_add, o_sub, o_mul, o_div, o_mod, o_pow, o_tup, o_lst, o_rep, c_eq, c_ne, c_lt, c_le, c_gt, c_ge, c_isn, c_notn, c_isb, c_in, c_nin, q_int, q_bl, not_true_eq_false, not_false_eq_true, Bool.false_or, Bool.true_or, Bool.or_true, Bool.true_and, Bool.false_and, Bool.and_true, Bool.and_false,  id_eq, lst_new, boolsD, intsD, Option.map_some, List.all_cons, List.all_nil, List.map_append,  q_lit, String.reduceEq, decide_true, decide_false, Bool.not_true, Bool.not_false, Bool.true_eq_false, Bool.false_eq_true, eq_self, i_isn, i_isi, i_isb, i_iss, i_ist, i_isr, t_non, t_int, t_bl, t_str, t_tup, t_fz, b_abs, b_lent, b_lenf, b_lens, b_list, b_tuple, b_int, b_intb, b_sum, b_min2, b_max2, b_all, b_any, b_gcd, b_dict, m_app, m_ext, m_popi, m_pop, x_tup, x_fz, List.map_cons, List.map_nil, List.length_cons, List.length_nil, List.replicate, List.append_nil, List.cons_append, List.nil_append, List.getElem?_cons_zero, List.getElem?_cons_succ, List.set_cons_zero, List.set_cons_succ, Option.some.injEq, D.int.injEq, D.bl.injEq, D.str.injEq, D.tup.injEq, D.ref.injEq, exists_eq_left', exists_eq_left, exists_eq_right, true_and, and_true, Nat.reduceSub, Nat.reduceAdd, Nat.zero_add, reduceCtorEq, false_implies, true_implies, decide_eq_true_eq, decide_eq_false_iff_not, forall_const, List.any_cons, List.any_nil, Bool.or_false, subTy, pl1_0, pn1, pl2_0, pl2_1, pn2, pl3_0, pl3_1, pl3_2, pn3, pl4_0, pl4_1, pl4_2, pl4_3, pn4, pl5_0, pl5_1, pl5_2, pl5_3, pl5_4, pn5, pl6_0, pl6_1, pl6_2, pl6_3, pl6_4, pl6_5, pn6, pl7_0, pl7_1, pl7_2, pl7_3, pl7_4, pl7_5, pl7_6, pn7, pl8_0, pl8_1, pl8_2, pl8_3, pl8_4, pl8_5, pl8_6, pl8_7, pn8, pl9_0, pl9_1, pl9_2, pl9_3, pl9_4, pl9_5, pl9_6, pl9_7, pl9_8, pn9]
    refine .inr ⟨[], .inr (Str.ofString "more"), h2, rfl, by decide, ?_⟩
    have h3 : (S.set r (.dct (putD [] (.inr (Str.ofString "more")) (.int 1))))[r]? = some (.dct (putD [] (.inr (Str.ofString "more")) (.int 1))) := List.getElem?_set_self hr
    have t3 := t_dct h3
    have h4 : dctAt (S.set r (.dct (putD [] (.inr (Str.ofString "more")) (.int 1)))) r = some (putD [] (.inr (Str.ofString "more")) (.int 1)) := by
      unfold dctAt
      rw [h3]
    simp only [_law_very_1t_2, wpS, wpE, wpEs, wpP, wpI, wpT, begin_, hxD, hxD.hxL, catch_, putAll, Ev.unpack, tgSem, wipe, o_add, o_sub, o_mul, o_div, o_mod, o_pow, o_tup, o_lst, o_rep, c_eq, c_ne, c_lt, c_le, c_gt, c_ge, c_isn, c_notn, c_isb, c_in, c_nin, q_int, q_bl, not_true_eq_false, not_false_eq_true, Bool.false_or, Bool.true_or, Bool.or_true, Bool.true_and, Bool.false_and, Bool.and_true, Bool.and_false,  id_eq, lst_new, boolsD, intsD, Option.map_some, List.all_cons, List.all_nil, List.map_append,  q_lit, String.reduceEq, decide_true, decide_false, Bool.not_true, Bool.not_false, Bool.true_eq_false, Bool.false_eq_true, eq_self, i_isn, i_isi, i_isb, i_iss, i_ist, i_isr, t_non, t_int, t_bl, t_str, t_tup, t_fz, b_abs, b_lent, b_lenf, b_lens, b_list, b_tuple, b_int, b_intb, b_sum, b_min2, b_max2, b_all, b_any, b_gcd, b_dict, m_app, m_ext, m_popi, m_pop, x_tup, x_fz, List.map_cons, List.map_nil, List.length_cons, List.length_nil, List.replicate, List.append_nil, List.cons_append, List.nil_append, List.getElem?_cons_zero, List.getElem?_cons_succ, List.set_cons_zero, List.set_cons_succ, Option.some.injEq, D.int.injEq, D.bl.injEq, D.str.injEq, D.tup.injEq, D.ref.injEq, exists_eq_left', exists_eq_left, exists_eq_right, true_and, and_true, Nat.reduceSub, Nat.reduceAdd, Nat.zero_add, reduceCtorEq, false_implies, true_implies, decide_eq_true_eq, decide_eq_false_iff_not, forall_const, List.any_cons, List.any_nil, Bool.or_false, subTy, pl1_0, pn1, pl2_0, pl2_1, pn2, pl3_0, pl3_1, pl3_2, pn3, pl4_0, pl4_1, pl4_2, pl4_3, pn4, pl5_0, pl5_1, pl5_2, pl5_3, pl5_4, pn5, pl6_0, pl6_1, pl6_2, pl6_3, pl6_4, pl6_5, pn6, pl7_0, pl7_1, pl7_2, pl7_3, pl7_4, pl7_5, pl7_6, pn7, pl8_0, pl8_1, pl8_2, pl8_3, pl8_4, pl8_5, pl8_6, pl8_7, pn8, pl9_0, pl9_1, pl9_2, pl9_3, pl9_4, pl9_5, pl9_6, pl9_7, pl9_8, pn9, t3]
    refine .inr ⟨_, .inr (Str.ofString "more"), h4, rfl, ?_⟩
    have e : (lookD (putD [] (.inr (Str.ofString "more")) (.int 1)) (.inr (Str.ofString "more"))).isSome = true := by
      simp [lookD, putD]
    rw [e]
    refine ⟨fun _ => ?_, fun z => by cases z⟩
    refine .inr ⟨_, h4, .inr ⟨_, h4, ?_⟩⟩
    simp only [wpS, wpE, wpEs, wpP, wpI, wpT, begin_, hxD, hxD.hxL, catch_, putAll, Ev.unpack, tgSem, wipe, o_add, o_sub, o_mul, o_div, o_mod, o_pow, o_tup, o_lst, o_rep, c_eq, c_ne, c_lt, c_le, c_gt, c_ge, c_isn, c_notn, c_isb, c_in, c_nin, q_int, q_bl, not_true_eq_false, not_false_eq_true, Bool.false_or, Bool.true_or, Bool.or_true, Bool.true_and, Bool.false_and, Bool.and_true, Bool.and_false,  id_eq, lst_new, boolsD, intsD, Option.map_some, List.all_cons, List.all_nil, List.map_append,  q_lit, String.reduceEq, decide_true, decide_false, Bool.not_true, Bool.not_false, Bool.true_eq_false, Bool.false_eq_true, eq_self, i_isn, i_isi, i_isb, i_iss, i_ist, i_isr, t_non, t_int, t_bl, t_str, t_tup, t_fz, b_abs, b_lent, b_lenf, b_lens, b_list, b_tuple, b_int, b_intb, b_sum, b_min2, b_max2, b_all, b_any, b_gcd, b_dict, m_app, m_ext, m_popi, m_pop, x_tup, x_fz, List.map_cons, List.map_nil, List.length_cons, List.length_nil, List.replicate, List.append_nil, List.cons_append, List.nil_append, List.getElem?_cons_zero, List.getElem?_cons_succ, List.set_cons_zero, List.set_cons_succ, Option.some.injEq, D.int.injEq, D.bl.injEq, D.str.injEq, D.tup.injEq, D.ref.injEq, exists_eq_left', exists_eq_left, exists_eq_right, true_and, and_true, Nat.reduceSub, Nat.reduceAdd, Nat.zero_add, reduceCtorEq, false_implies, true_implies, decide_eq_true_eq, decide_eq_false_iff_not, forall_const, List.any_cons, List.any_nil, Bool.or_false, subTy, pl1_0, pn1, pl2_0, pl2_1, pn2, pl3_0, pl3_1, pl3_2, pn3, pl4_0, pl4_1, pl4_2, pl4_3, pn4, pl5_0, pl5_1, pl5_2, pl5_3, pl5_4, pn5, pl6_0, pl6_1, pl6_2, pl6_3, pl6_4, pl6_5, pn6, pl7_0, pl7_1, pl7_2, pl7_3, pl7_4, pl7_5, pl7_6, pn7, pl8_0, pl8_1, pl8_2, pl8_3, pl8_4, pl8_5, pl8_6, pl8_7, pn8, pl9_0, pl9_1, pl9_2, pl9_3, pl9_4, pl9_5, pl9_6, pl9_7, pl9_8, pn9]
    exact q _ FrD.set
end
end EvL
end
section
set_option Elab.async false
set_option linter.all false
set_option maxRecDepth 100000
set_option maxHeartbeats 400000
set_option exponentiation.threshold 20000
namespace EvL
open PySem (Str)
open Ev
/-- what _law_met tells: a fresh list of a word and a thing -/
def Out (S : Sto) (Q : Po) (w : String) (d : D) : Prop := ∀ S' r, Gr S S' → S.length ≤ r → lstAt S' r = some [.str (Str.ofString w), d] → Q (.ref r) S'
theorem gr_le {S S' : Sto} (g : Gr S S') : S.length ≤ S'.length := (g.fr (n := 0)).le
theorem Out.go {S S' : Sto} {Q : Po} {w : String} {d : D} (o : Out S Q w d) (g : Gr S S') : Q (.ref S'.length) (S' ++ [.lst [.str (Str.ofString w), d]]) := o _ _ (g.trans Gr.one) (gr_le g) lst_new
section
variable {n : Nat} {S : Sto} {Q : Po} {E : Xo} {b k : Nat}
theorem met_plus {c d : D} {j : Nat} {x : Bool} (hj : lstAt S j = some [c, d]) (hc : Wf1 S c) (hd : Wf1 S d) (e : isFr c = false → Out S Q "number" c) (e2 : isFr c = true → isFr d = false → Out S Q "number" d)
    (q : ∀ x y, c = FD x → d = FD y → Sz 4000 x ∧ Sz 4000 y ∧ Out S Q "told" (FD (x + y))) : run sub TT (n + 6) i__law_met [.str (Str.ofString "plus"), .ref j, .bl x] S Q E := by
  rw [run_eq at__law_met rfl]
  have kg : kwG D.non (exLen .nil) (0 + 1 + 1) [1, 0] [] [d, c] = [c, d] := rfl
  have hs : sub 1 1 = true := rfl
  have two : (2 : Nat) ≤ most := by decide
  simp only [f__law_met, _law_met_1, _law_met_1b_1, _law_met_1b_2, wpS, wpE, wpEs, wpP, wpI, wpT, begin_, hxD, hxD.hxL, catch_, putAll, Ev.unpack, tgSem, wipe, o_add, o_sub, o_mul, o_div, o_mod, o_pow, o_tup, o_lst, o_rep, c_eq, c_ne, c_lt, c_le, c_gt, c_ge, c_isn, c_notn, c_isb, c_in, c_nin, q_int, q_bl, not_true_eq_false, not_false_eq_true, Bool.false_or, Bool.true_or, Bool.or_true, Bool.true_and, Bool.false_and, Bool.and_true, Bool.and_false,  id_eq, lst_new, boolsD, intsD, Option.map_some, List.all_cons, List.all_nil, List.map_append,  q_lit, String.reduceEq, decide_true, decide_false, Bool.not_true, Bool.not_false, Bool.true_eq_false, Bool.false_eq_true, eq_self, i_isn, i_isi, i_isb, i_iss, i_ist, i_isr, t_non, t_int, t_bl, t_str, t_tup, t_fz, b_abs, b_lent, b_lenf, b_lens, b_list, b_tuple, b_int, b_intb, b_sum, b_min2, b_max2, b_all, b_any, b_gcd, b_dict, m_app, m_ext, m_popi, m_pop, x_tup, x_fz, List.map_cons, List.map_nil, List.length_cons, List.length_nil, List.replicate, List.append_nil, List.cons_append, List.nil_append, List.getElem?_cons_zero, List.getElem?_cons_succ, List.set_cons_zero, List.set_cons_succ, Option.some.injEq, D.int.injEq, D.bl.injEq, D.str.injEq, D.tup.injEq, D.ref.injEq, exists_eq_left', exists_eq_left, exists_eq_right, true_and, and_true, Nat.reduceSub, Nat.reduceAdd, Nat.zero_add, reduceCtorEq, false_implies, true_implies, decide_eq_true_eq, decide_eq_false_iff_not, forall_const, List.any_cons, List.any_nil, Bool.or_false, subTy, pl1_0, pn1, pl2_0, pl2_1, pn2, pl3_0, pl3_1, pl3_2, pn3, pl4_0, pl4_1, pl4_2, pl4_3, pn4, pl5_0, pl5_1, pl5_2, pl5_3, pl5_4, pn5, pl6_0, pl6_1, pl6_2, pl6_3, pl6_4, pl6_5, pn6, pl7_0, pl7_1, pl7_2, pl7_3, pl7_4, pl7_5, pl7_6, pn7, pl8_0, pl8_1, pl8_2, pl8_3, pl8_4, pl8_5, pl8_6, pl8_7, pn8, pl9_0, pl9_1, pl9_2, pl9_3, pl9_4, pl9_5, pl9_6, pl9_7, pl9_8, pn9, x_lst hj, two]
  cases x <;> simp only [wpS, wpE, wpEs, wpP, wpI, wpT, begin_, hxD, hxD.hxL, catch_, putAll, Ev.unpack, tgSem, wipe, o_add, o_sub, o_mul, o_div, o_mod, o_pow, o_tup, o_lst, o_rep, c_eq, c_ne, c_lt, c_le, c_gt, c_ge, c_isn, c_notn, c_isb, c_in, c_nin, q_int, q_bl, not_true_eq_false, not_false_eq_true, Bool.false_or, Bool.true_or, Bool.or_true, Bool.true_and, Bool.false_and, Bool.and_true, Bool.and_false,  id_eq, lst_new, boolsD, intsD, Option.map_some, List.all_cons, List.all_nil, List.map_append,  q_lit, String.reduceEq, decide_true, decide_false, Bool.not_true, Bool.not_false, Bool.true_eq_false, Bool.false_eq_true, eq_self, i_isn, i_isi, i_isb, i_iss, i_ist, i_isr, t_non, t_int, t_bl, t_str, t_tup, t_fz, b_abs, b_lent, b_lenf, b_lens, b_list, b_tuple, b_int, b_intb, b_sum, b_min2, b_max2, b_all, b_any, b_gcd, b_dict, m_app, m_ext, m_popi, m_pop, x_tup, x_fz, List.map_cons, List.map_nil, List.length_cons, List.length_nil, List.replicate, List.append_nil, List.cons_append, List.nil_append, List.getElem?_cons_zero, List.getElem?_cons_succ, List.set_cons_zero, List.set_cons_succ, Option.some.injEq, D.int.injEq, D.bl.injEq, D.str.injEq, D.tup.injEq, D.ref.injEq, exists_eq_left', exists_eq_left, exists_eq_right, true_and, and_true, Nat.reduceSub, Nat.reduceAdd, Nat.zero_add, reduceCtorEq, false_implies, true_implies, decide_eq_true_eq, decide_eq_false_iff_not, forall_const, List.any_cons, List.any_nil, Bool.or_false, subTy, pl1_0, pn1, pl2_0, pl2_1, pn2, pl3_0, pl3_1, pl3_2, pn3, pl4_0, pl4_1, pl4_2, pl4_3, pn4, pl5_0, pl5_1, pl5_2, pl5_3, pl5_4, pn5, pl6_0, pl6_1, pl6_2, pl6_3, pl6_4, pl6_5, pn6, pl7_0, pl7_1, pl7_2, pl7_3, pl7_4, pl7_5, pl7_6, pn7, pl8_0, pl8_1, pl8_2, pl8_3, pl8_4, pl8_5, pl8_6, pl8_7, pn8, pl9_0, pl9_1, pl9_2, pl9_3, pl9_4, pl9_5, pl9_6, pl9_7, pl9_8, pn9, kg] <;> refine r_plus hc hd (fun h S' g => ?_) (fun h h2 S' g => ?_) (fun x y hx hy => ?_)
  all_goals first
    | (simp only [wpS, wpE, wpEs, wpP, wpI, wpT, begin_, hxD, hxD.hxL, catch_, putAll, Ev.unpack, tgSem, wipe, o_add, o_sub, o_mul, o_div, o_mod, o_pow, o_tup, o_lst, o_rep, c_eq, c_ne, c_lt, c_le, c_gt, c_ge, c_isn, c_notn, c_isb, c_in, c_nin, q_int, q_bl, not_true_eq_false, not_false_eq_true, Bool.false_or, Bool.true_or, Bool.or_true, Bool.true_and, Bool.false_and, Bool.and_true, Bool.and_false,  id_eq, lst_new, boolsD, intsD, Option.map_some, List.all_cons, List.all_nil, List.map_append,  q_lit, String.reduceEq, decide_true, decide_false, Bool.not_true, Bool.not_false, Bool.true_eq_false, Bool.false_eq_true, eq_self, i_isn, i_isi, i_isb, i_iss, i_ist, i_isr, t_non, t_int, t_bl, t_str, t_tup, t_fz, b_abs, b_lent, b_lenf, b_lens, b_list, b_tuple, b_int, b_intb, b_sum, b_min2, b_max2, b_all, b_any, b_gcd, b_dict, m_app, m_ext, m_popi, m_pop, x_tup, x_fz, List.map_cons, List.map_nil, List.length_cons, List.length_nil, List.replicate, List.append_nil, List.cons_append, List.nil_append, List.getElem?_cons_zero, List.getElem?_cons_succ, List.set_cons_zero, List.set_cons_succ, Option.some.injEq, D.int.injEq, D.bl.injEq, D.str.injEq, D.tup.injEq, D.ref.injEq, exists_eq_left', exists_eq_left, exists_eq_right, true_and, and_true, Nat.reduceSub, Nat.reduceAdd, Nat.zero_add, reduceCtorEq, false_implies, true_implies, decide_eq_true_eq, decide_eq_false_iff_not, forall_const, List.any_cons, List.any_nil, Bool.or_false, subTy, pl1_0, pn1, pl2_0, pl2_1, pn2, pl3_0, pl3_1, pl3_2, pn3, pl4_0, pl4_1, pl4_2, pl4_3, pn4, pl5_0, pl5_1, pl5_2, pl5_3, pl5_4, pn5, pl6_0, pl6_1, pl6_2, pl6_3, pl6_4, pl6_5, pn6, pl7_0, pl7_1, pl7_2, pl7_3, pl7_4, pl7_5, pl7_6, pn7, pl8_0, pl8_1, pl8_2, pl8_3, pl8_4, pl8_5, pl8_6, pl8_7, pn8, pl9_0, pl9_1, pl9_2, pl9_3, pl9_4, pl9_5, pl9_6, pl9_7, pl9_8, pn9, hs, two]; exact (e h).go g)
    | (simp only [wpS, wpE, wpEs, wpP, wpI, wpT, begin_, hxD, hxD.hxL, catch_, putAll, Ev.unpack, tgSem, wipe, o_add, o_sub, o_mul, o_div, o_mod, o_pow, o_tup, o_lst, o_rep, c_eq, c_ne, c_lt, c_le, c_gt, c_ge, c_isn, c_notn, c_isb, c_in, c_nin, q_int, q_bl, not_true_eq_false, not_false_eq_true, Bool.false_or, Bool.true_or, Bool.or_true, Bool.true_and, Bool.false_and, Bool.and_true, Bool.and_false,  id_eq, lst_new, boolsD, intsD, Option.map_some, List.all_cons, List.all_nil, List.map_append,  q_lit, String.reduceEq, decide_true, decide_false, Bool.not_true, Bool.not_false, Bool.true_eq_false, Bool.false_eq_true, eq_self, i_isn, i_isi, i_isb, i_iss, i_ist, i_isr, t_non, t_int, t_bl, t_str, t_tup, t_fz, b_abs, b_lent, b_lenf, b_lens, b_list, b_tuple, b_int, b_intb, b_sum, b_min2, b_max2, b_all, b_any, b_gcd, b_dict, m_app, m_ext, m_popi, m_pop, x_tup, x_fz, List.map_cons, List.map_nil, List.length_cons, List.length_nil, List.replicate, List.append_nil, List.cons_append, List.nil_append, List.getElem?_cons_zero, List.getElem?_cons_succ, List.set_cons_zero, List.set_cons_succ, Option.some.injEq, D.int.injEq, D.bl.injEq, D.str.injEq, D.tup.injEq, D.ref.injEq, exists_eq_left', exists_eq_left, exists_eq_right, true_and, and_true, Nat.reduceSub, Nat.reduceAdd, Nat.zero_add, reduceCtorEq, false_implies, true_implies, decide_eq_true_eq, decide_eq_false_iff_not, forall_const, List.any_cons, List.any_nil, Bool.or_false, subTy, pl1_0, pn1, pl2_0, pl2_1, pn2, pl3_0, pl3_1, pl3_2, pn3, pl4_0, pl4_1, pl4_2, pl4_3, pn4, pl5_0, pl5_1, pl5_2, pl5_3, pl5_4, pn5, pl6_0, pl6_1, pl6_2, pl6_3, pl6_4, pl6_5, pn6, pl7_0, pl7_1, pl7_2, pl7_3, pl7_4, pl7_5, pl7_6, pn7, pl8_0, pl8_1, pl8_2, pl8_3, pl8_4, pl8_5, pl8_6, pl8_7, pn8, pl9_0, pl9_1, pl9_2, pl9_3, pl9_4, pl9_5, pl9_6, pl9_7, pl9_8, pn9, hs, two]; exact (e2 h h2).go g)
    | (obtain ⟨s1, s2, o⟩ := q x y hx hy; exact ⟨s1, s2, fun S' g => o.go g⟩)
theorem met_minus {c d : D} {j : Nat} {x : Bool} (hj : lstAt S j = some [c, d]) (hc : Wf1 S c) (hd : Wf1 S d) (e : isFr c = false → Out S Q "number" c) (e2 : isFr c = true → isFr d = false → Out S Q "number" d)
    (q : ∀ x y, c = FD x → d = FD y → Sz 4000 x ∧ Sz 4000 y ∧ Out S Q "told" (FD (x - y))) : run sub TT (n + 6) i__law_met [.str (Str.ofString "minus"), .ref j, .bl x] S Q E := by
  rw [run_eq at__law_met rfl]
  have kg : kwG D.non (exLen .nil) (0 + 1 + 1) [1, 0] [] [d, c] = [c, d] := rfl
  have hs : sub 1 1 = true := rfl
  have two : (2 : Nat) ≤ most := by decide
  simp only [f__law_met, _law_met_1, _law_met_1b_1, _law_met_1b_2, _law_met_1b_3, wpS, wpE, wpEs, wpP, wpI, wpT, begin_, hxD, hxD.hxL, catch_, putAll, Ev.unpack, tgSem, wipe, o_add, o_sub, o_mul, o_div, o_mod, o_pow, o_tup, o_lst, o_rep, c_eq, c_ne, c_lt, c_le, c_gt, c_ge, c_isn, c_notn, c_isb, c_in, c_nin, q_int, q_bl, not_true_eq_false, not_false_eq_true, Bool.false_or, Bool.true_or, Bool.or_true, Bool.true_and, Bool.false_and, Bool.and_true, Bool.and_false,  id_eq, lst_new, boolsD, intsD, Option.map_some, List.all_cons, List.all_nil, List.map_append,  q_lit, String.reduceEq, decide_true, decide_false, Bool.not_true, Bool.not_false, Bool.true_eq_false, Bool.false_eq_true, eq_self, i_isn, i_isi, i_isb, i_iss, i_ist, i_isr, t_non, t_int, t_bl, t_str, t_tup, t_fz, b_abs, b_lent, b_lenf, b_lens, b_list, b_tuple, b_int, b_intb, b_sum, b_min2, b_max2, b_all, b_any, b_gcd, b_dict, m_app, m_ext, m_popi, m_pop, x_tup, x_fz, List.map_cons, List.map_nil, List.length_cons, List.length_nil, List.replicate, List.append_nil, List.cons_append, List.nil_append, List.getElem?_cons_zero, List.getElem?_cons_succ, List.set_cons_zero, List.set_cons_succ, Option.some.injEq, D.int.injEq, D.bl.injEq, D.str.injEq, D.tup.injEq, D.ref.injEq, exists_eq_left', exists_eq_left, exists_eq_right, true_and, and_true, Nat.reduceSub, Nat.reduceAdd, Nat.zero_add, reduceCtorEq, false_implies, true_implies, decide_eq_true_eq, decide_eq_false_iff_not, forall_const, List.any_cons, List.any_nil, Bool.or_false, subTy, pl1_0, pn1, pl2_0, pl2_1, pn2, pl3_0, pl3_1, pl3_2, pn3, pl4_0, pl4_1, pl4_2, pl4_3, pn4, pl5_0, pl5_1, pl5_2, pl5_3, pl5_4, pn5, pl6_0, pl6_1, pl6_2, pl6_3, pl6_4, pl6_5, pn6, pl7_0, pl7_1, pl7_2, pl7_3, pl7_4, pl7_5, pl7_6, pn7, pl8_0, pl8_1, pl8_2, pl8_3, pl8_4, pl8_5, pl8_6, pl8_7, pn8, pl9_0, pl9_1, pl9_2, pl9_3, pl9_4, pl9_5, pl9_6, pl9_7, pl9_8, pn9, x_lst hj, two]
  cases x <;> simp only [wpS, wpE, wpEs, wpP, wpI, wpT, begin_, hxD, hxD.hxL, catch_, putAll, Ev.unpack, tgSem, wipe, o_add, o_sub, o_mul, o_div, o_mod, o_pow, o_tup, o_lst, o_rep, c_eq, c_ne, c_lt, c_le, c_gt, c_ge, c_isn, c_notn, c_isb, c_in, c_nin, q_int, q_bl, not_true_eq_false, not_false_eq_true, Bool.false_or, Bool.true_or, Bool.or_true, Bool.true_and, Bool.false_and, Bool.and_true, Bool.and_false,  id_eq, lst_new, boolsD, intsD, Option.map_some, List.all_cons, List.all_nil, List.map_append,  q_lit, String.reduceEq, decide_true, decide_false, Bool.not_true, Bool.not_false, Bool.true_eq_false, Bool.false_eq_true, eq_self, i_isn, i_isi, i_isb, i_iss, i_ist, i_isr, t_non, t_int, t_bl, t_str, t_tup, t_fz, b_abs, b_lent, b_lenf, b_lens, b_list, b_tuple, b_int, b_intb, b_sum, b_min2, b_max2, b_all, b_any, b_gcd, b_dict, m_app, m_ext, m_popi, m_pop, x_tup, x_fz, List.map_cons, List.map_nil, List.length_cons, List.length_nil, List.replicate, List.append_nil, List.cons_append, List.nil_append, List.getElem?_cons_zero, List.getElem?_cons_succ, List.set_cons_zero, List.set_cons_succ, Option.some.injEq, D.int.injEq, D.bl.injEq, D.str.injEq, D.tup.injEq, D.ref.injEq, exists_eq_left', exists_eq_left, exists_eq_right, true_and, and_true, Nat.reduceSub, Nat.reduceAdd, Nat.zero_add, reduceCtorEq, false_implies, true_implies, decide_eq_true_eq, decide_eq_false_iff_not, forall_const, List.any_cons, List.any_nil, Bool.or_false, subTy, pl1_0, pn1, pl2_0, pl2_1, pn2, pl3_0, pl3_1, pl3_2, pn3, pl4_0, pl4_1, pl4_2, pl4_3, pn4, pl5_0, pl5_1, pl5_2, pl5_3, pl5_4, pn5, pl6_0, pl6_1, pl6_2, pl6_3, pl6_4, pl6_5, pn6, pl7_0, pl7_1, pl7_2, pl7_3, pl7_4, pl7_5, pl7_6, pn7, pl8_0, pl8_1, pl8_2, pl8_3, pl8_4, pl8_5, pl8_6, pl8_7, pn8, pl9_0, pl9_1, pl9_2, pl9_3, pl9_4, pl9_5, pl9_6, pl9_7, pl9_8, pn9, kg] <;> refine r_minus hc hd (fun h S' g => ?_) (fun h h2 S' g => ?_) (fun x y hx hy => ?_)
  all_goals first
    | (simp only [wpS, wpE, wpEs, wpP, wpI, wpT, begin_, hxD, hxD.hxL, catch_, putAll, Ev.unpack, tgSem, wipe, o_add, o_sub, o_mul, o_div, o_mod, o_pow, o_tup, o_lst, o_rep, c_eq, c_ne, c_lt, c_le, c_gt, c_ge, c_isn, c_notn, c_isb, c_in, c_nin, q_int, q_bl, not_true_eq_false, not_false_eq_true, Bool.false_or, Bool.true_or, Bool.or_true, Bool.true_and, Bool.false_and, Bool.and_true, Bool.and_false,  id_eq, lst_new, boolsD, intsD, Option.map_some, List.all_cons, List.all_nil, List.map_append,  q_lit, String.reduceEq, decide_true, decide_false, Bool.not_true, Bool.not_false, Bool.true_eq_false, Bool.false_eq_true, eq_self, i_isn, i_isi, i_isb, i_iss, i_ist, i_isr, t_non, t_int, t_bl, t_str, t_tup, t_fz, b_abs, b_lent, b_lenf, b_lens, b_list, b_tuple, b_int, b_intb, b_sum, b_min2, b_max2, b_all, b_any, b_gcd, b_dict, m_app, m_ext, m_popi, m_pop, x_tup, x_fz, List.map_cons, List.map_nil, List.length_cons, List.length_nil, List.replicate, List.append_nil, List.cons_append, List.nil_append, List.getElem?_cons_zero, List.getElem?_cons_succ, List.set_cons_zero, List.set_cons_succ, Option.some.injEq, D.int.injEq, D.bl.injEq, D.str.injEq, D.tup.injEq, D.ref.injEq, exists_eq_left', exists_eq_left, exists_eq_right, true_and, and_true, Nat.reduceSub, Nat.reduceAdd, Nat.zero_add, reduceCtorEq, false_implies, true_implies, decide_eq_true_eq, decide_eq_false_iff_not, forall_const, List.any_cons, List.any_nil, Bool.or_false, subTy, pl1_0, pn1, pl2_0, pl2_1, pn2, pl3_0, pl3_1, pl3_2, pn3, pl4_0, pl4_1, pl4_2, pl4_3, pn4, pl5_0, pl5_1, pl5_2, pl5_3, pl5_4, pn5, pl6_0, pl6_1, pl6_2, pl6_3, pl6_4, pl6_5, pn6, pl7_0, pl7_1, pl7_2, pl7_3, pl7_4, pl7_5, pl7_6, pn7, pl8_0, pl8_1, pl8_2, pl8_3, pl8_4, pl8_5, pl8_6, pl8_7, pn8, pl9_0, pl9_1, pl9_2, pl9_3, pl9_4, pl9_5, pl9_6, pl9_7, pl9_8, pn9, hs, two]; exact (e h).go g)
    | (simp only [wpS, wpE, wpEs, wpP, wpI, wpT, begin_, hxD, hxD.hxL, catch_, putAll, Ev.unpack, tgSem, wipe, o_add, o_sub, o_mul, o_div, o_mod, o_pow, o_tup, o_lst, o_rep, c_eq, c_ne, c_lt, c_le, c_gt, c_ge, c_isn, c_notn, c_isb, c_in, c_nin, q_int, q_bl, not_true_eq_false, not_false_eq_true, Bool.false_or, Bool.true_or, Bool.or_true, Bool.true_and, Bool.false_and, Bool.and_true, Bool.and_false,  id_eq, lst_new, boolsD, intsD, Option.map_some, List.all_cons, List.all_nil, List.map_append,  q_lit, String.reduceEq, decide_true, decide_false, Bool.not_true, Bool.not_false, Bool.true_eq_false, Bool.false_eq_true, eq_self, i_isn, i_isi, i_isb, i_iss, i_ist, i_isr, t_non, t_int, t_bl, t_str, t_tup, t_fz, b_abs, b_lent, b_lenf, b_lens, b_list, b_tuple, b_int, b_intb, b_sum, b_min2, b_max2, b_all, b_any, b_gcd, b_dict, m_app, m_ext, m_popi, m_pop, x_tup, x_fz, List.map_cons, List.map_nil, List.length_cons, List.length_nil, List.replicate, List.append_nil, List.cons_append, List.nil_append, List.getElem?_cons_zero, List.getElem?_cons_succ, List.set_cons_zero, List.set_cons_succ, Option.some.injEq, D.int.injEq, D.bl.injEq, D.str.injEq, D.tup.injEq, D.ref.injEq, exists_eq_left', exists_eq_left, exists_eq_right, true_and, and_true, Nat.reduceSub, Nat.reduceAdd, Nat.zero_add, reduceCtorEq, false_implies, true_implies, decide_eq_true_eq, decide_eq_false_iff_not, forall_const, List.any_cons, List.any_nil, Bool.or_false, subTy, pl1_0, pn1, pl2_0, pl2_1, pn2, pl3_0, pl3_1, pl3_2, pn3, pl4_0, pl4_1, pl4_2, pl4_3, pn4, pl5_0, pl5_1, pl5_2, pl5_3, pl5_4, pn5, pl6_0, pl6_1, pl6_2, pl6_3, pl6_4, pl6_5, pn6, pl7_0, pl7_1, pl7_2, pl7_3, pl7_4, pl7_5, pl7_6, pn7, pl8_0, pl8_1, pl8_2, pl8_3, pl8_4, pl8_5, pl8_6, pl8_7, pn8, pl9_0, pl9_1, pl9_2, pl9_3, pl9_4, pl9_5, pl9_6, pl9_7, pl9_8, pn9, hs, two]; exact (e2 h h2).go g)
    | (obtain ⟨s1, s2, o⟩ := q x y hx hy; exact ⟨s1, s2, fun S' g => o.go g⟩)
theorem met_times {c d : D} {j : Nat} {x : Bool} (hj : lstAt S j = some [c, d]) (hc : Wf1 S c) (hd : Wf1 S d) (e : isFr c = false → Out S Q "number" c) (e2 : isFr c = true → isFr d = false → Out S Q "number" d)
    (q : ∀ x y, c = FD x → d = FD y → Sz 4000 x ∧ Sz 4000 y ∧ Out S Q "told" (FD (x * y))) : run sub TT (n + 6) i__law_met [.str (Str.ofString "times"), .ref j, .bl x] S Q E := by
  rw [run_eq at__law_met rfl]
  have kg : kwG D.non (exLen .nil) (0 + 1 + 1) [1, 0] [] [d, c] = [c, d] := rfl
  have hs : sub 1 1 = true := rfl
  have two : (2 : Nat) ≤ most := by decide
  simp only [f__law_met, _law_met_1, _law_met_1b_1, _law_met_1b_2, _law_met_1b_3, _law_met_1b_4, wpS, wpE, wpEs, wpP, wpI, wpT, begin_, hxD, hxD.hxL, catch_, putAll, Ev.unpack, tgSem, wipe, o_add, o_sub, o_mul, o_div, o_mod, o_pow, o_tup, o_lst, o_rep, c_eq, c_ne, c_lt, c_le, c_gt, c_ge, c_isn, c_notn, c_isb, c_in, c_nin, q_int, q_bl, not_true_eq_false, not_false_eq_true, Bool.false_or, Bool.true_or, Bool.or_true, Bool.true_and, Bool.false_and, Bool.and_true, Bool.and_false,  id_eq, lst_new, boolsD, intsD, Option.map_some, List.all_cons, List.all_nil, List.map_append,  q_lit, String.reduceEq, decide_true, decide_false, Bool.not_true, Bool.not_false, Bool.true_eq_false, Bool.false_eq_true, eq_self, i_isn, i_isi, i_isb, i_iss, i_ist, i_isr, t_non, t_int, t_bl, t_str, t_tup, t_fz, b_abs, b_lent, b_lenf, b_lens, b_list, b_tuple, b_int, b_intb, b_sum, b_min2, b_max2, b_all, b_any, b_gcd, b_dict, m_app, m_ext, m_popi, m_pop, x_tup, x_fz, List.map_cons, List.map_nil, List.length_cons, List.length_nil, List.replicate, List.append_nil, List.cons_append, List.nil_append, List.getElem?_cons_zero, List.getElem?_cons_succ, List.set_cons_zero, List.set_cons_succ, Option.some.injEq, D.int.injEq, D.bl.injEq, D.str.injEq, D.tup.injEq, D.ref.injEq, exists_eq_left', exists_eq_left, exists_eq_right, true_and, and_true, Nat.reduceSub, Nat.reduceAdd, Nat.zero_add, reduceCtorEq, false_implies, true_implies, decide_eq_true_eq, decide_eq_false_iff_not, forall_const, List.any_cons, List.any_nil, Bool.or_false, subTy, pl1_0, pn1, pl2_0, pl2_1, pn2, pl3_0, pl3_1, pl3_2, pn3, pl4_0, pl4_1, pl4_2, pl4_3, pn4, pl5_0, pl5_1, pl5_2, pl5_3, pl5_4, pn5, pl6_0, pl6_1, pl6_2, pl6_3, pl6_4, pl6_5, pn6, pl7_0, pl7_1, pl7_2, pl7_3, pl7_4, pl7_5, pl7_6, pn7, pl8_0, pl8_1, pl8_2, pl8_3, pl8_4, pl8_5, pl8_6, pl8_7, pn8, pl9_0, pl9_1, pl9_2, pl9_3, pl9_4, pl9_5, pl9_6, pl9_7, pl9_8, pn9, x_lst hj, two]
  cases x <;> simp only [wpS, wpE, wpEs, wpP, wpI, wpT, begin_, hxD, hxD.hxL, catch_, putAll, Ev.unpack, tgSem, wipe, o_add, o_sub, o_mul, o_div, o_mod, o_pow, o_tup, o_lst, o_rep, c_eq, c_ne, c_lt, c_le, c_gt, c_ge, c_isn, c_notn, c_isb, c_in, c_nin, q_int, q_bl, not_true_eq_false, not_false_eq_true, Bool.false_or, Bool.true_or, Bool.or_true, Bool.true_and, Bool.false_and, Bool.and_true, Bool.and_false,  id_eq, lst_new, boolsD, intsD, Option.map_some, List.all_cons, List.all_nil, List.map_append,  q_lit, String.reduceEq, decide_true, decide_false, Bool.not_true, Bool.not_false, Bool.true_eq_false, Bool.false_eq_true, eq_self, i_isn, i_isi, i_isb, i_iss, i_ist, i_isr, t_non, t_int, t_bl, t_str, t_tup, t_fz, b_abs, b_lent, b_lenf, b_lens, b_list, b_tuple, b_int, b_intb, b_sum, b_min2, b_max2, b_all, b_any, b_gcd, b_dict, m_app, m_ext, m_popi, m_pop, x_tup, x_fz, List.map_cons, List.map_nil, List.length_cons, List.length_nil, List.replicate, List.append_nil, List.cons_append, List.nil_append, List.getElem?_cons_zero, List.getElem?_cons_succ, List.set_cons_zero, List.set_cons_succ, Option.some.injEq, D.int.injEq, D.bl.injEq, D.str.injEq, D.tup.injEq, D.ref.injEq, exists_eq_left', exists_eq_left, exists_eq_right, true_and, and_true, Nat.reduceSub, Nat.reduceAdd, Nat.zero_add, reduceCtorEq, false_implies, true_implies, decide_eq_true_eq, decide_eq_false_iff_not, forall_const, List.any_cons, List.any_nil, Bool.or_false, subTy, pl1_0, pn1, pl2_0, pl2_1, pn2, pl3_0, pl3_1, pl3_2, pn3, pl4_0, pl4_1, pl4_2, pl4_3, pn4, pl5_0, pl5_1, pl5_2, pl5_3, pl5_4, pn5, pl6_0, pl6_1, pl6_2, pl6_3, pl6_4, pl6_5, pn6, pl7_0, pl7_1, pl7_2, pl7_3, pl7_4, pl7_5, pl7_6, pn7, pl8_0, pl8_1, pl8_2, pl8_3, pl8_4, pl8_5, pl8_6, pl8_7, pn8, pl9_0, pl9_1, pl9_2, pl9_3, pl9_4, pl9_5, pl9_6, pl9_7, pl9_8, pn9, kg] <;> refine r_times hc hd (fun h S' g => ?_) (fun h h2 S' g => ?_) (fun x y hx hy => ?_)
  all_goals first
    | (simp only [wpS, wpE, wpEs, wpP, wpI, wpT, begin_, hxD, hxD.hxL, catch_, putAll, Ev.unpack, tgSem, wipe, o_add, o_sub, o_mul, o_div, o_mod, o_pow, o_tup, o_lst, o_rep, c_eq, c_ne, c_lt, c_le, c_gt, c_ge, c_isn, c_notn, c_isb, c_in, c_nin, q_int, q_bl, not_true_eq_false, not_false_eq_true, Bool.false_or, Bool.true_or, Bool.or_true, Bool.true_and, Bool.false_and, Bool.and_true, Bool.and_false,  id_eq, lst_new, boolsD, intsD, Option.map_some, List.all_cons, List.all_nil, List.map_append,  q_lit, String.reduceEq, decide_true, decide_false, Bool.not_true, Bool.not_false, Bool.true_eq_false, Bool.false_eq_true, eq_self, i_isn, i_isi, i_isb, i_iss, i_ist, i_isr, t_non, t_int, t_bl, t_str, t_tup, t_fz, b_abs, b_lent, b_lenf, b_lens, b_list, b_tuple, b_int, b_intb, b_sum, b_min2, b_max2, b_all, b_any, b_gcd, b_dict, m_app, m_ext, m_popi, m_pop, x_tup, x_fz, List.map_cons, List.map_nil, List.length_cons, List.length_nil, List.replicate, List.append_nil, List.cons_append, List.nil_append, List.getElem?_cons_zero, List.getElem?_cons_succ, List.set_cons_zero, List.set_cons_succ, Option.some.injEq, D.int.injEq, D.bl.injEq, D.str.injEq, D.tup.injEq, D.ref.injEq, exists_eq_left', exists_eq_left, exists_eq_right, true_and, and_true, Nat.reduceSub, Nat.reduceAdd, Nat.zero_add, reduceCtorEq, false_implies, true_implies, decide_eq_true_eq, decide_eq_false_iff_not, forall_const, List.any_cons, List.any_nil, Bool.or_false, subTy, pl1_0, pn1, pl2_0, pl2_1, pn2, pl3_0, pl3_1, pl3_2, pn3, pl4_0, pl4_1, pl4_2, pl4_3, pn4, pl5_0, pl5_1, pl5_2, pl5_3, pl5_4, pn5, pl6_0, pl6_1, pl6_2, pl6_3, pl6_4, pl6_5, pn6, pl7_0, pl7_1, pl7_2, pl7_3, pl7_4, pl7_5, pl7_6, pn7, pl8_0, pl8_1, pl8_2, pl8_3, pl8_4, pl8_5, pl8_6, pl8_7, pn8, pl9_0, pl9_1, pl9_2, pl9_3, pl9_4, pl9_5, pl9_6, pl9_7, pl9_8, pn9, hs, two]; exact (e h).go g)
    | (simp only [wpS, wpE, wpEs, wpP, wpI, wpT, begin_, hxD, hxD.hxL, catch_, putAll, Ev.unpack, tgSem, wipe, o_add, o_sub, o_mul, o_div, o_mod, o_pow, o_tup, o_lst, o_rep, c_eq, c_ne, c_lt, c_le, c_gt, c_ge, c_isn, c_notn, c_isb, c_in, c_nin, q_int, q_bl, not_true_eq_false, not_false_eq_true, Bool.false_or, Bool.true_or, Bool.or_true, Bool.true_and, Bool.false_and, Bool.and_true, Bool.and_false,  id_eq, lst_new, boolsD, intsD, Option.map_some, List.all_cons, List.all_nil, List.map_append,  q_lit, String.reduceEq, decide_true, decide_false, Bool.not_true, Bool.not_false, Bool.true_eq_false, Bool.false_eq_true, eq_self, i_isn, i_isi, i_isb, i_iss, i_ist, i_isr, t_non, t_int, t_bl, t_str, t_tup, t_fz, b_abs, b_lent, b_lenf, b_lens, b_list, b_tuple, b_int, b_intb, b_sum, b_min2, b_max2, b_all, b_any, b_gcd, b_dict, m_app, m_ext, m_popi, m_pop, x_tup, x_fz, List.map_cons, List.map_nil, List.length_cons, List.length_nil, List.replicate, List.append_nil, List.cons_append, List.nil_append, List.getElem?_cons_zero, List.getElem?_cons_succ, List.set_cons_zero, List.set_cons_succ, Option.some.injEq, D.int.injEq, D.bl.injEq, D.str.injEq, D.tup.injEq, D.ref.injEq, exists_eq_left', exists_eq_left, exists_eq_right, true_and, and_true, Nat.reduceSub, Nat.reduceAdd, Nat.zero_add, reduceCtorEq, false_implies, true_implies, decide_eq_true_eq, decide_eq_false_iff_not, forall_const, List.any_cons, List.any_nil, Bool.or_false, subTy, pl1_0, pn1, pl2_0, pl2_1, pn2, pl3_0, pl3_1, pl3_2, pn3, pl4_0, pl4_1, pl4_2, pl4_3, pn4, pl5_0, pl5_1, pl5_2, pl5_3, pl5_4, pn5, pl6_0, pl6_1, pl6_2, pl6_3, pl6_4, pl6_5, pn6, pl7_0, pl7_1, pl7_2, pl7_3, pl7_4, pl7_5, pl7_6, pn7, pl8_0, pl8_1, pl8_2, pl8_3, pl8_4, pl8_5, pl8_6, pl8_7, pn8, pl9_0, pl9_1, pl9_2, pl9_3, pl9_4, pl9_5, pl9_6, pl9_7, pl9_8, pn9, hs, two]; exact (e2 h h2).go g)
    | (obtain ⟨s1, s2, o⟩ := q x y hx hy; exact ⟨s1, s2, fun S' g => o.go g⟩)
theorem met_over {c d : D} {j : Nat} {x : Bool} (hj : lstAt S j = some [c, d]) (hc : Wf1 S c) (hd : Wf1 S d) (e : isFr c = false → Out S Q "number" c) (e2 : isFr c = true → (isFr d = false ∨ d = FD 0) → Out S Q "number" d)
    (q : ∀ x y, c = FD x → d = FD y → y ≠ 0 → Sz 4000 x ∧ Sz 4000 y ∧ Out S Q "told" (FD (x / y))) : run sub TT (n + 6) i__law_met [.str (Str.ofString "over"), .ref j, .bl x] S Q E := by
  rw [run_eq at__law_met rfl]
  have kg : kwG D.non (exLen .nil) (0 + 1 + 1) [1, 0] [] [d, c] = [c, d] := rfl
  have hs : sub 1 1 = true := rfl
  have two : (2 : Nat) ≤ most := by decide
  simp only [f__law_met, _law_met_1, _law_met_1b_1, _law_met_1b_2, _law_met_1b_3, _law_met_1b_4, _law_met_1b_5, wpS, wpE, wpEs, wpP, wpI, wpT, begin_, hxD, hxD.hxL, catch_, putAll, Ev.unpack, tgSem, wipe, o_add, o_sub, o_mul, o_div, o_mod, o_pow, o_tup, o_lst, o_rep, c_eq, c_ne, c_lt, c_le, c_gt, c_ge, c_isn, c_notn, c_isb, c_in, c_nin, q_int, q_bl, not_true_eq_false, not_false_eq_true, Bool.false_or, Bool.true_or, Bool.or_true, Bool.true_and, Bool.false_and, Bool.and_true, Bool.and_false,  id_eq, lst_new, boolsD, intsD, Option.map_some, List.all_cons, List.all_nil, List.map_append,  q_lit, String.reduceEq, decide_true, decide_false, Bool.not_true, Bool.not_false, Bool.true_eq_false, Bool.false_eq_true, eq_self, i_isn, i_isi, i_isb, i_iss, i_ist, i_isr, t_non, t_int, t_bl, t_str, t_tup, t_fz, b_abs, b_lent, b_lenf, b_lens, b_list, b_tuple, b_int, b_intb, b_sum, b_min2, b_max2, b_all, b_any, b_gcd, b_dict, m_app, m_ext, m_popi, m_pop, x_tup, x_fz, List.map_cons, List.map_nil, List.length_cons, List.length_nil, List.replicate, List.append_nil, List.cons_append, List.nil_append, List.getElem?_cons_zero, List.getElem?_cons_succ, List.set_cons_zero, List.set_cons_succ, Option.some.injEq, D.int.injEq, D.bl.injEq, D.str.injEq, D.tup.injEq, D.ref.injEq, exists_eq_left', exists_eq_left, exists_eq_right, true_and, and_true, Nat.reduceSub, Nat.reduceAdd, Nat.zero_add, reduceCtorEq, false_implies, true_implies, decide_eq_true_eq, decide_eq_false_iff_not, forall_const, List.any_cons, List.any_nil, Bool.or_false, subTy, pl1_0, pn1, pl2_0, pl2_1, pn2, pl3_0, pl3_1, pl3_2, pn3, pl4_0, pl4_1, pl4_2, pl4_3, pn4, pl5_0, pl5_1, pl5_2, pl5_3, pl5_4, pn5, pl6_0, pl6_1, pl6_2, pl6_3, pl6_4, pl6_5, pn6, pl7_0, pl7_1, pl7_2, pl7_3, pl7_4, pl7_5, pl7_6, pn7, pl8_0, pl8_1, pl8_2, pl8_3, pl8_4, pl8_5, pl8_6, pl8_7, pn8, pl9_0, pl9_1, pl9_2, pl9_3, pl9_4, pl9_5, pl9_6, pl9_7, pl9_8, pn9, x_lst hj, two]
  cases x <;> simp only [wpS, wpE, wpEs, wpP, wpI, wpT, begin_, hxD, hxD.hxL, catch_, putAll, Ev.unpack, tgSem, wipe, o_add, o_sub, o_mul, o_div, o_mod, o_pow, o_tup, o_lst, o_rep, c_eq, c_ne, c_lt, c_le, c_gt, c_ge, c_isn, c_notn, c_isb, c_in, c_nin, q_int, q_bl, not_true_eq_false, not_false_eq_true, Bool.false_or, Bool.true_or, Bool.or_true, Bool.true_and, Bool.false_and, Bool.and_true, Bool.and_false,  id_eq, lst_new, boolsD, intsD, Option.map_some, List.all_cons, List.all_nil, List.map_append,  q_lit, String.reduceEq, decide_true, decide_false, Bool.not_true, Bool.not_false, Bool.true_eq_false, Bool.false_eq_true, eq_self, i_isn, i_isi, i_isb, i_iss, i_ist, i_isr, t_non, t_int, t_bl, t_str, t_tup, t_fz, b_abs, b_lent, b_lenf, b_lens, b_list, b_tuple, b_int, b_intb, b_sum, b_min2, b_max2, b_all, b_any, b_gcd, b_dict, m_app, m_ext, m_popi, m_pop, x_tup, x_fz, List.map_cons, List.map_nil, List.length_cons, List.length_nil, List.replicate, List.append_nil, List.cons_append, List.nil_append, List.getElem?_cons_zero, List.getElem?_cons_succ, List.set_cons_zero, List.set_cons_succ, Option.some.injEq, D.int.injEq, D.bl.injEq, D.str.injEq, D.tup.injEq, D.ref.injEq, exists_eq_left', exists_eq_left, exists_eq_right, true_and, and_true, Nat.reduceSub, Nat.reduceAdd, Nat.zero_add, reduceCtorEq, false_implies, true_implies, decide_eq_true_eq, decide_eq_false_iff_not, forall_const, List.any_cons, List.any_nil, Bool.or_false, subTy, pl1_0, pn1, pl2_0, pl2_1, pn2, pl3_0, pl3_1, pl3_2, pn3, pl4_0, pl4_1, pl4_2, pl4_3, pn4, pl5_0, pl5_1, pl5_2, pl5_3, pl5_4, pn5, pl6_0, pl6_1, pl6_2, pl6_3, pl6_4, pl6_5, pn6, pl7_0, pl7_1, pl7_2, pl7_3, pl7_4, pl7_5, pl7_6, pn7, pl8_0, pl8_1, pl8_2, pl8_3, pl8_4, pl8_5, pl8_6, pl8_7, pn8, pl9_0, pl9_1, pl9_2, pl9_3, pl9_4, pl9_5, pl9_6, pl9_7, pl9_8, pn9, kg] <;> refine r_over hc hd (fun h S' g => ?_) (fun h h2 S' g => ?_) (fun x y hx hy h0 => ?_)
  all_goals first
    | (simp only [wpS, wpE, wpEs, wpP, wpI, wpT, begin_, hxD, hxD.hxL, catch_, putAll, Ev.unpack, tgSem, wipe, o_add, o_sub, o_mul, o_div, o_mod, o_pow, o_tup, o_lst, o_rep, c_eq, c_ne, c_lt, c_le, c_gt, c_ge, c_isn, c_notn, c_isb, c_in, c_nin, q_int, q_bl, not_true_eq_false, not_false_eq_true, Bool.false_or, Bool.true_or, Bool.or_true, Bool.true_and, Bool.false_and, Bool.and_true, Bool.and_false,  id_eq, lst_new, boolsD, intsD, Option.map_some, List.all_cons, List.all_nil, List.map_append,  q_lit, String.reduceEq, decide_true, decide_false, Bool.not_true, Bool.not_false, Bool.true_eq_false, Bool.false_eq_true, eq_self, i_isn, i_isi, i_isb, i_iss, i_ist, i_isr, t_non, t_int, t_bl, t_str, t_tup, t_fz, b_abs, b_lent, b_lenf, b_lens, b_list, b_tuple, b_int, b_intb, b_sum, b_min2, b_max2, b_all, b_any, b_gcd, b_dict, m_app, m_ext, m_popi, m_pop, x_tup, x_fz, List.map_cons, List.map_nil, List.length_cons, List.length_nil, List.replicate, List.append_nil, List.cons_append, List.nil_append, List.getElem?_cons_zero, List.getElem?_cons_succ, List.set_cons_zero, List.set_cons_succ, Option.some.injEq, D.int.injEq, D.bl.injEq, D.str.injEq, D.tup.injEq, D.ref.injEq, exists_eq_left', exists_eq_left, exists_eq_right, true_and, and_true, Nat.reduceSub, Nat.reduceAdd, Nat.zero_add, reduceCtorEq, false_implies, true_implies, decide_eq_true_eq, decide_eq_false_iff_not, forall_const, List.any_cons, List.any_nil, Bool.or_false, subTy, pl1_0, pn1, pl2_0, pl2_1, pn2, pl3_0, pl3_1, pl3_2, pn3, pl4_0, pl4_1, pl4_2, pl4_3, pn4, pl5_0, pl5_1, pl5_2, pl5_3, pl5_4, pn5, pl6_0, pl6_1, pl6_2, pl6_3, pl6_4, pl6_5, pn6, pl7_0, pl7_1, pl7_2, pl7_3, pl7_4, pl7_5, pl7_6, pn7, pl8_0, pl8_1, pl8_2, pl8_3, pl8_4, pl8_5, pl8_6, pl8_7, pn8, pl9_0, pl9_1, pl9_2, pl9_3, pl9_4, pl9_5, pl9_6, pl9_7, pl9_8, pn9, hs, two]; exact (e h).go g)
    | (simp only [wpS, wpE, wpEs, wpP, wpI, wpT, begin_, hxD, hxD.hxL, catch_, putAll, Ev.unpack, tgSem, wipe, o_add, o_sub, o_mul, o_div, o_mod, o_pow, o_tup, o_lst, o_rep, c_eq, c_ne, c_lt, c_le, c_gt, c_ge, c_isn, c_notn, c_isb, c_in, c_nin, q_int, q_bl, not_true_eq_false, not_false_eq_true, Bool.false_or, Bool.true_or, Bool.or_true, Bool.true_and, Bool.false_and, Bool.and_true, Bool.and_false,  id_eq, lst_new, boolsD, intsD, Option.map_some, List.all_cons, List.all_nil, List.map_append,  q_lit, String.reduceEq, decide_true, decide_false, Bool.not_true, Bool.not_false, Bool.true_eq_false, Bool.false_eq_true, eq_self, i_isn, i_isi, i_isb, i_iss, i_ist, i_isr, t_non, t_int, t_bl, t_str, t_tup, t_fz, b_abs, b_lent, b_lenf, b_lens, b_list, b_tuple, b_int, b_intb, b_sum, b_min2, b_max2, b_all, b_any, b_gcd, b_dict, m_app, m_ext, m_popi, m_pop, x_tup, x_fz, List.map_cons, List.map_nil, List.length_cons, List.length_nil, List.replicate, List.append_nil, List.cons_append, List.nil_append, List.getElem?_cons_zero, List.getElem?_cons_succ, List.set_cons_zero, List.set_cons_succ, Option.some.injEq, D.int.injEq, D.bl.injEq, D.str.injEq, D.tup.injEq, D.ref.injEq, exists_eq_left', exists_eq_left, exists_eq_right, true_and, and_true, Nat.reduceSub, Nat.reduceAdd, Nat.zero_add, reduceCtorEq, false_implies, true_implies, decide_eq_true_eq, decide_eq_false_iff_not, forall_const, List.any_cons, List.any_nil, Bool.or_false, subTy, pl1_0, pn1, pl2_0, pl2_1, pn2, pl3_0, pl3_1, pl3_2, pn3, pl4_0, pl4_1, pl4_2, pl4_3, pn4, pl5_0, pl5_1, pl5_2, pl5_3, pl5_4, pn5, pl6_0, pl6_1, pl6_2, pl6_3, pl6_4, pl6_5, pn6, pl7_0, pl7_1, pl7_2, pl7_3, pl7_4, pl7_5, pl7_6, pn7, pl8_0, pl8_1, pl8_2, pl8_3, pl8_4, pl8_5, pl8_6, pl8_7, pn8, pl9_0, pl9_1, pl9_2, pl9_3, pl9_4, pl9_5, pl9_6, pl9_7, pl9_8, pn9, hs, two]; exact (e2 h h2).go g)
    | (obtain ⟨s1, s2, o⟩ := q x y hx hy h0; exact ⟨s1, s2, fun S' g => o.go g⟩)
theorem met_less {c d : D} {j : Nat} {x : Bool} (hj : lstAt S j = some [c, d]) (hc : Wf1 S c) (hd : Wf1 S d) (e : isFr c = false → Out S Q "number" c) (e2 : isFr c = true → isFr d = false → Out S Q "number" d)
    (q : ∀ x y, c = FD x → d = FD y → Sz 4000 x ∧ Sz 4000 y ∧ Out S Q "told" (.bl (decide (x < y)))) : run sub TT (n + 6) i__law_met [.str (Str.ofString "less"), .ref j, .bl x] S Q E := by
  rw [run_eq at__law_met rfl]
  have kg : kwG D.non (exLen .nil) (0 + 1 + 1) [1, 0] [] [d, c] = [c, d] := rfl
  have hs : sub 1 1 = true := rfl
  have two : (2 : Nat) ≤ most := by decide
  simp only [f__law_met, _law_met_1, _law_met_1b_1, _law_met_1b_2, _law_met_1b_3, _law_met_1b_4, _law_met_1b_5, _law_met_1b_6, wpS, wpE, wpEs, wpP, wpI, wpT, begin_, hxD, hxD.hxL, catch_, putAll, Ev.unpack, tgSem, wipe, o_add, o_sub, o_mul, o_div, o_mod, o_pow, o_tup, o_lst, o_rep, c_eq, c_ne, c_lt, c_le, c_gt, c_ge, c_isn, c_notn, c_isb, c_in, c_nin, q_int, q_bl, not_true_eq_false, not_false_eq_true, Bool.false_or, Bool.true_or, Bool.or_true, Bool.true_and, Bool.false_and, Bool.and_true, Bool.and_false,  id_eq, lst_new, boolsD, intsD, Option.map_some, List.all_cons, List.all_nil, List.map_append,  q_lit, String.reduceEq, decide_true, decide_false, Bool.not_true, Bool.not_false, Bool.true_eq_false, Bool.false_eq_true, eq_self, i_isn, i_isi, i_isb, i_iss, i_ist, i_isr, t_non, t_int, t_bl, t_str, t_tup, t_fz, b_abs, b_lent, b_lenf, b_lens, b_list, b_tuple, b_int, b_intb, b_sum, b_min2, b_max2, b_all, b_any, b_gcd, b_dict, m_app, m_ext, m_popi, m_pop, x_tup, x_fz, List.map_cons, List.map_nil, List.length_cons, List.length_nil, List.replicate, List.append_nil, List.cons_append, List.nil_append, List.getElem?_cons_zero, List.getElem?_cons_succ, List.set_cons_zero, List.set_cons_succ, Option.some.injEq, D.int.injEq, D.bl.injEq, D.str.injEq, D.tup.injEq, D.ref.injEq, exists_eq_left', exists_eq_left, exists_eq_right, true_and, and_true, Nat.reduceSub, Nat.reduceAdd, Nat.zero_add, reduceCtorEq, false_implies, true_implies, decide_eq_true_eq, decide_eq_false_iff_not, forall_const, List.any_cons, List.any_nil, Bool.or_false, subTy, pl1_0, pn1, pl2_0, pl2_1, pn2, pl3_0, pl3_1, pl3_2, pn3, pl4_0, pl4_1, pl4_2, pl4_3, pn4, pl5_0, pl5_1, pl5_2, pl5_3, pl5_4, pn5, pl6_0, pl6_1, pl6_2, pl6_3, pl6_4, pl6_5, pn6, pl7_0, pl7_1, pl7_2, pl7_3, pl7_4, pl7_5, pl7_6, pn7, pl8_0, pl8_1, pl8_2, pl8_3, pl8_4, pl8_5, pl8_6, pl8_7, pn8, pl9_0, pl9_1, pl9_2, pl9_3, pl9_4, pl9_5, pl9_6, pl9_7, pl9_8, pn9, x_lst hj, two]
  cases x <;> simp only [wpS, wpE, wpEs, wpP, wpI, wpT, begin_, hxD, hxD.hxL, catch_, putAll, Ev.unpack, tgSem, wipe, o_add, o_sub, o_mul, o_div, o_mod, o_pow, o_tup, o_lst, o_rep, c_eq, c_ne, c_lt, c_le, c_gt, c_ge, c_isn, c_notn, c_isb, c_in, c_nin, q_int, q_bl, not_true_eq_false, not_false_eq_true, Bool.false_or, Bool.true_or, Bool.or_true, Bool.true_and, Bool.false_and, Bool.and_true, Bool.and_false,  id_eq, lst_new, boolsD, intsD, Option.map_some, List.all_cons, List.all_nil, List.map_append,  q_lit, String.reduceEq, decide_true, decide_false, Bool.not_true, Bool.not_false, Bool.true_eq_false, Bool.false_eq_true, eq_self, i_isn, i_isi, i_isb, i_iss, i_ist, i_isr, t_non, t_int, t_bl, t_str, t_tup, t_fz, b_abs, b_lent, b_lenf, b_lens, b_list, b_tuple, b_int, b_intb, b_sum, b_min2, b_max2, b_all, b_any, b_gcd, b_dict, m_app, m_ext, m_popi, m_pop, x_tup, x_fz, List.map_cons, List.map_nil, List.length_cons, List.length_nil, List.replicate, List.append_nil, List.cons_append, List.nil_append, List.getElem?_cons_zero, List.getElem?_cons_succ, List.set_cons_zero, List.set_cons_succ, Option.some.injEq, D.int.injEq, D.bl.injEq, D.str.injEq, D.tup.injEq, D.ref.injEq, exists_eq_left', exists_eq_left, exists_eq_right, true_and, and_true, Nat.reduceSub, Nat.reduceAdd, Nat.zero_add, reduceCtorEq, false_implies, true_implies, decide_eq_true_eq, decide_eq_false_iff_not, forall_const, List.any_cons, List.any_nil, Bool.or_false, subTy, pl1_0, pn1, pl2_0, pl2_1, pn2, pl3_0, pl3_1, pl3_2, pn3, pl4_0, pl4_1, pl4_2, pl4_3, pn4, pl5_0, pl5_1, pl5_2, pl5_3, pl5_4, pn5, pl6_0, pl6_1, pl6_2, pl6_3, pl6_4, pl6_5, pn6, pl7_0, pl7_1, pl7_2, pl7_3, pl7_4, pl7_5, pl7_6, pn7, pl8_0, pl8_1, pl8_2, pl8_3, pl8_4, pl8_5, pl8_6, pl8_7, pn8, pl9_0, pl9_1, pl9_2, pl9_3, pl9_4, pl9_5, pl9_6, pl9_7, pl9_8, pn9, kg] <;> refine r_less hc hd (fun h S' g => ?_) (fun h h2 S' g => ?_) (fun x y hx hy => ?_)
  all_goals first
    | (simp only [wpS, wpE, wpEs, wpP, wpI, wpT, begin_, hxD, hxD.hxL, catch_, putAll, Ev.unpack, tgSem, wipe, o_add, o_sub, o_mul, o_div, o_mod, o_pow, o_tup, o_lst, o_rep, c_eq, c_ne, c_lt, c_le, c_gt, c_ge, c_isn, c_notn, c_isb, c_in, c_nin, q_int, q_bl, not_true_eq_false, not_false_eq_true, Bool.false_or, Bool.true_or, Bool.or_true, Bool.true_and, Bool.false_and, Bool.and_true, Bool.and_false,  id_eq, lst_new, boolsD, intsD, Option.map_some, List.all_cons, List.all_nil, List.map_append,  q_lit, String.reduceEq, decide_true, decide_false, Bool.not_true, Bool.not_false, Bool.true_eq_false, Bool.false_eq_true, eq_self, i_isn, i_isi, i_isb, i_iss, i_ist, i_isr, t_non, t_int, t_bl, t_str, t_tup, t_fz, b_abs, b_lent, b_lenf, b_lens, b_list, b_tuple, b_int, b_intb, b_sum, b_min2, b_max2, b_all, b_any, b_gcd, b_dict, m_app, m_ext, m_popi, m_pop, x_tup, x_fz, List.map_cons, List.map_nil, List.length_cons, List.length_nil, List.replicate, List.append_nil, List.cons_append, List.nil_append, List.getElem?_cons_zero, List.getElem?_cons_succ, List.set_cons_zero, List.set_cons_succ, Option.some.injEq, D.int.injEq, D.bl.injEq, D.str.injEq, D.tup.injEq, D.ref.injEq, exists_eq_left', exists_eq_left, exists_eq_right, true_and, and_true, Nat.reduceSub, Nat.reduceAdd, Nat.zero_add, reduceCtorEq, false_implies, true_implies, decide_eq_true_eq, decide_eq_false_iff_not, forall_const, List.any_cons, List.any_nil, Bool.or_false, subTy, pl1_0, pn1, pl2_0, pl2_1, pn2, pl3_0, pl3_1, pl3_2, pn3, pl4_0, pl4_1, pl4_2, pl4_3, pn4, pl5_0, pl5_1, pl5_2, pl5_3, pl5_4, pn5, pl6_0, pl6_1, pl6_2, pl6_3, pl6_4, pl6_5, pn6, pl7_0, pl7_1, pl7_2, pl7_3, pl7_4, pl7_5, pl7_6, pn7, pl8_0, pl8_1, pl8_2, pl8_3, pl8_4, pl8_5, pl8_6, pl8_7, pn8, pl9_0, pl9_1, pl9_2, pl9_3, pl9_4, pl9_5, pl9_6, pl9_7, pl9_8, pn9, hs, two]; exact (e h).go g)
    | (simp only [wpS, wpE, wpEs, wpP, wpI, wpT, begin_, hxD, hxD.hxL, catch_, putAll, Ev.unpack, tgSem, wipe, o_add, o_sub, o_mul, o_div, o_mod, o_pow, o_tup, o_lst, o_rep, c_eq, c_ne, c_lt, c_le, c_gt, c_ge, c_isn, c_notn, c_isb, c_in, c_nin, q_int, q_bl, not_true_eq_false, not_false_eq_true, Bool.false_or, Bool.true_or, Bool.or_true, Bool.true_and, Bool.false_and, Bool.and_true, Bool.and_false,  id_eq, lst_new, boolsD, intsD, Option.map_some, List.all_cons, List.all_nil, List.map_append,  q_lit, String.reduceEq, decide_true, decide_false, Bool.not_true, Bool.not_false, Bool.true_eq_false, Bool.false_eq_true, eq_self, i_isn, i_isi, i_isb, i_iss, i_ist, i_isr, t_non, t_int, t_bl, t_str, t_tup, t_fz, b_abs, b_lent, b_lenf, b_lens, b_list, b_tuple, b_int, b_intb, b_sum, b_min2, b_max2, b_all, b_any, b_gcd, b_dict, m_app, m_ext, m_popi, m_pop, x_tup, x_fz, List.map_cons, List.map_nil, List.length_cons, List.length_nil, List.replicate, List.append_nil, List.cons_append, List.nil_append, List.getElem?_cons_zero, List.getElem?_cons_succ, List.set_cons_zero, List.set_cons_succ, Option.some.injEq, D.int.injEq, D.bl.injEq, D.str.injEq, D.tup.injEq, D.ref.injEq, exists_eq_left', exists_eq_left, exists_eq_right, true_and, and_true, Nat.reduceSub, Nat.reduceAdd, Nat.zero_add, reduceCtorEq, false_implies, true_implies, decide_eq_true_eq, decide_eq_false_iff_not, forall_const, List.any_cons, List.any_nil, Bool.or_false, subTy, pl1_0, pn1, pl2_0, pl2_1, pn2, pl3_0, pl3_1, pl3_2, pn3, pl4_0, pl4_1, pl4_2, pl4_3, pn4, pl5_0, pl5_1, pl5_2, pl5_3, pl5_4, pn5, pl6_0, pl6_1, pl6_2, pl6_3, pl6_4, pl6_5, pn6, pl7_0, pl7_1, pl7_2, pl7_3, pl7_4, pl7_5, pl7_6, pn7, pl8_0, pl8_1, pl8_2, pl8_3, pl8_4, pl8_5, pl8_6, pl8_7, pn8, pl9_0, pl9_1, pl9_2, pl9_3, pl9_4, pl9_5, pl9_6, pl9_7, pl9_8, pn9, hs, two]; exact (e2 h h2).go g)
    | (obtain ⟨s1, s2, o⟩ := q x y hx hy; exact ⟨s1, s2, fun S' g => o.go g⟩)
theorem met_root {c : D} {j : Nat} {x : Bool} (hj : lstAt S j = some [c]) (hc : Wf1 S c) (e : isFr c = false → Out S Q "number" c)
    (q : ∀ x, c = FD x → Sz 4000 x ∧ Out S Q "told" (rootV x)) : run sub TT (n + 6) i__law_met [.str (Str.ofString "root"), .ref j, .bl x] S Q E := by
  rw [run_eq at__law_met rfl]
  have kg : kwG D.non (exLen .nil) (0 + 1) [0] [] [c] = [c] := rfl
  have hs : sub 1 1 = true := rfl
  have two : (2 : Nat) ≤ most := by decide
  simp only [f__law_met, _law_met_1, _law_met_1b_1, _law_met_1b_2, _law_met_1b_3, _law_met_1b_4, _law_met_1b_5, _law_met_1b_6, _law_met_1b_7, wpS, wpE, wpEs, wpP, wpI, wpT, begin_, hxD, hxD.hxL, catch_, putAll, Ev.unpack, tgSem, wipe, o_add, o_sub, o_mul, o_div, o_mod, o_pow, o_tup, o_lst, o_rep, c_eq, c_ne, c_lt, c_le, c_gt, c_ge, c_isn, c_notn, c_isb, c_in, c_nin, q_int, q_bl, not_true_eq_false, not_false_eq_true, Bool.false_or, Bool.true_or, Bool.or_true, Bool.true_and, Bool.false_and, Bool.and_true, Bool.and_false,  id_eq, lst_new, boolsD, intsD, Option.map_some, List.all_cons, List.all_nil, List.map_append,  q_lit, String.reduceEq, decide_true, decide_false, Bool.not_true, Bool.not_false, Bool.true_eq_false, Bool.false_eq_true, eq_self, i_isn, i_isi, i_isb, i_iss, i_ist, i_isr, t_non, t_int, t_bl, t_str, t_tup, t_fz, b_abs, b_lent, b_lenf, b_lens, b_list, b_tuple, b_int, b_intb, b_sum, b_min2, b_max2, b_all, b_any, b_gcd, b_dict, m_app, m_ext, m_popi, m_pop, x_tup, x_fz, List.map_cons, List.map_nil, List.length_cons, List.length_nil, List.replicate, List.append_nil, List.cons_append, List.nil_append, List.getElem?_cons_zero, List.getElem?_cons_succ, List.set_cons_zero, List.set_cons_succ, Option.some.injEq, D.int.injEq, D.bl.injEq, D.str.injEq, D.tup.injEq, D.ref.injEq, exists_eq_left', exists_eq_left, exists_eq_right, true_and, and_true, Nat.reduceSub, Nat.reduceAdd, Nat.zero_add, reduceCtorEq, false_implies, true_implies, decide_eq_true_eq, decide_eq_false_iff_not, forall_const, List.any_cons, List.any_nil, Bool.or_false, subTy, pl1_0, pn1, pl2_0, pl2_1, pn2, pl3_0, pl3_1, pl3_2, pn3, pl4_0, pl4_1, pl4_2, pl4_3, pn4, pl5_0, pl5_1, pl5_2, pl5_3, pl5_4, pn5, pl6_0, pl6_1, pl6_2, pl6_3, pl6_4, pl6_5, pn6, pl7_0, pl7_1, pl7_2, pl7_3, pl7_4, pl7_5, pl7_6, pn7, pl8_0, pl8_1, pl8_2, pl8_3, pl8_4, pl8_5, pl8_6, pl8_7, pn8, pl9_0, pl9_1, pl9_2, pl9_3, pl9_4, pl9_5, pl9_6, pl9_7, pl9_8, pn9, x_lst hj, two]
  cases x <;> simp only [wpS, wpE, wpEs, wpP, wpI, wpT, begin_, hxD, hxD.hxL, catch_, putAll, Ev.unpack, tgSem, wipe, o_add, o_sub, o_mul, o_div, o_mod, o_pow, o_tup, o_lst, o_rep, c_eq, c_ne, c_lt, c_le, c_gt, c_ge, c_isn, c_notn, c_isb, c_in, c_nin, q_int, q_bl, not_true_eq_false, not_false_eq_true, Bool.false_or, Bool.true_or, Bool.or_true, Bool.true_and, Bool.false_and, Bool.and_true, Bool.and_false,  id_eq, lst_new, boolsD, intsD, Option.map_some, List.all_cons, List.all_nil, List.map_append,  q_lit, String.reduceEq, decide_true, decide_false, Bool.not_true, Bool.not_false, Bool.true_eq_false, Bool.false_eq_true, eq_self, i_isn, i_isi, i_isb, i_iss, i_ist, i_isr, t_non, t_int, t_bl, t_str, t_tup, t_fz, b_abs, b_lent, b_lenf, b_lens, b_list, b_tuple, b_int, b_intb, b_sum, b_min2, b_max2, b_all, b_any, b_gcd, b_dict, m_app, m_ext, m_popi, m_pop, x_tup, x_fz, List.map_cons, List.map_nil, List.length_cons, List.length_nil, List.replicate, List.append_nil, List.cons_append, List.nil_append, List.getElem?_cons_zero, List.getElem?_cons_succ, List.set_cons_zero, List.set_cons_succ, Option.some.injEq, D.int.injEq, D.bl.injEq, D.str.injEq, D.tup.injEq, D.ref.injEq, exists_eq_left', exists_eq_left, exists_eq_right, true_and, and_true, Nat.reduceSub, Nat.reduceAdd, Nat.zero_add, reduceCtorEq, false_implies, true_implies, decide_eq_true_eq, decide_eq_false_iff_not, forall_const, List.any_cons, List.any_nil, Bool.or_false, subTy, pl1_0, pn1, pl2_0, pl2_1, pn2, pl3_0, pl3_1, pl3_2, pn3, pl4_0, pl4_1, pl4_2, pl4_3, pn4, pl5_0, pl5_1, pl5_2, pl5_3, pl5_4, pn5, pl6_0, pl6_1, pl6_2, pl6_3, pl6_4, pl6_5, pn6, pl7_0, pl7_1, pl7_2, pl7_3, pl7_4, pl7_5, pl7_6, pn7, pl8_0, pl8_1, pl8_2, pl8_3, pl8_4, pl8_5, pl8_6, pl8_7, pn8, pl9_0, pl9_1, pl9_2, pl9_3, pl9_4, pl9_5, pl9_6, pl9_7, pl9_8, pn9, kg] <;> refine r_root hc (fun h S' g => ?_) (fun x hx => ?_)
  all_goals first
    | (simp only [wpS, wpE, wpEs, wpP, wpI, wpT, begin_, hxD, hxD.hxL, catch_, putAll, Ev.unpack, tgSem, wipe, o_add, o_sub, o_mul, o_div, o_mod, o_pow, o_tup, o_lst, o_rep, c_eq, c_ne, c_lt, c_le, c_gt, c_ge, c_isn, c_notn, c_isb, c_in, c_nin, q_int, q_bl, not_true_eq_false, not_false_eq_true, Bool.false_or, Bool.true_or, Bool.or_true, Bool.true_and, Bool.false_and, Bool.and_true, Bool.and_false,  id_eq, lst_new, boolsD, intsD, Option.map_some, List.all_cons, List.all_nil, List.map_append,  q_lit, String.reduceEq, decide_true, decide_false, Bool.not_true, Bool.not_false, Bool.true_eq_false, Bool.false_eq_true, eq_self, i_isn, i_isi, i_isb, i_iss, i_ist, i_isr, t_non, t_int, t_bl, t_str, t_tup, t_fz, b_abs, b_lent, b_lenf, b_lens, b_list, b_tuple, b_int, b_intb, b_sum, b_min2, b_max2, b_all, b_any, b_gcd, b_dict, m_app, m_ext, m_popi, m_pop, x_tup, x_fz, List.map_cons, List.map_nil, List.length_cons, List.length_nil, List.replicate, List.append_nil, List.cons_append, List.nil_append, List.getElem?_cons_zero, List.getElem?_cons_succ, List.set_cons_zero, List.set_cons_succ, Option.some.injEq, D.int.injEq, D.bl.injEq, D.str.injEq, D.tup.injEq, D.ref.injEq, exists_eq_left', exists_eq_left, exists_eq_right, true_and, and_true, Nat.reduceSub, Nat.reduceAdd, Nat.zero_add, reduceCtorEq, false_implies, true_implies, decide_eq_true_eq, decide_eq_false_iff_not, forall_const, List.any_cons, List.any_nil, Bool.or_false, subTy, pl1_0, pn1, pl2_0, pl2_1, pn2, pl3_0, pl3_1, pl3_2, pn3, pl4_0, pl4_1, pl4_2, pl4_3, pn4, pl5_0, pl5_1, pl5_2, pl5_3, pl5_4, pn5, pl6_0, pl6_1, pl6_2, pl6_3, pl6_4, pl6_5, pn6, pl7_0, pl7_1, pl7_2, pl7_3, pl7_4, pl7_5, pl7_6, pn7, pl8_0, pl8_1, pl8_2, pl8_3, pl8_4, pl8_5, pl8_6, pl8_7, pn8, pl9_0, pl9_1, pl9_2, pl9_3, pl9_4, pl9_5, pl9_6, pl9_7, pl9_8, pn9, hs, two]; exact (e h).go g)
    | (obtain ⟨s1, o⟩ := q x hx; exact ⟨s1, fun S' g => o.go g⟩)
theorem met_fraction {c d : D} {j : Nat} {x : Bool} (hj : lstAt S j = some [c, d]) (hc : Wf S c) (hd : Wf S d) (e : isInt c = false → Out S Q "number" c) (e2 : isInt c = true → (isInt d = false ∨ d = .int 0) → Out S Q "number" d)
    (q : ∀ a b, c = .int a → d = .int b → b ≠ 0 → b.natAbs < 2 ^ 8999 ∧ Out S Q "told" (FD (Rat.divInt a b))) : run sub TT (n + 6) i__law_met [.str (Str.ofString "fraction"), .ref j, .bl x] S Q E := by
  rw [run_eq at__law_met rfl]
  have kg : kwG D.non (exLen .nil) (0 + 1 + 1) [1, 0] [] [d, c] = [c, d] := rfl
  have hs : sub 1 1 = true := rfl
  have two : (2 : Nat) ≤ most := by decide
  simp only [f__law_met, _law_met_1, _law_met_1b_1, wpS, wpE, wpEs, wpP, wpI, wpT, begin_, hxD, hxD.hxL, catch_, putAll, Ev.unpack, tgSem, wipe, o_add, o_sub, o_mul, o_div, o_mod, o_pow, o_tup, o_lst, o_rep, c_eq, c_ne, c_lt, c_le, c_gt, c_ge, c_isn, c_notn, c_isb, c_in, c_nin, q_int, q_bl, not_true_eq_false, not_false_eq_true, Bool.false_or, Bool.true_or, Bool.or_true, Bool.true_and, Bool.false_and, Bool.and_true, Bool.and_false,  id_eq, lst_new, boolsD, intsD, Option.map_some, List.all_cons, List.all_nil, List.map_append,  q_lit, String.reduceEq, decide_true, decide_false, Bool.not_true, Bool.not_false, Bool.true_eq_false, Bool.false_eq_true, eq_self, i_isn, i_isi, i_isb, i_iss, i_ist, i_isr, t_non, t_int, t_bl, t_str, t_tup, t_fz, b_abs, b_lent, b_lenf, b_lens, b_list, b_tuple, b_int, b_intb, b_sum, b_min2, b_max2, b_all, b_any, b_gcd, b_dict, m_app, m_ext, m_popi, m_pop, x_tup, x_fz, List.map_cons, List.map_nil, List.length_cons, List.length_nil, List.replicate, List.append_nil, List.cons_append, List.nil_append, List.getElem?_cons_zero, List.getElem?_cons_succ, List.set_cons_zero, List.set_cons_succ, Option.some.injEq, D.int.injEq, D.bl.injEq, D.str.injEq, D.tup.injEq, D.ref.injEq, exists_eq_left', exists_eq_left, exists_eq_right, true_and, and_true, Nat.reduceSub, Nat.reduceAdd, Nat.zero_add, reduceCtorEq, false_implies, true_implies, decide_eq_true_eq, decide_eq_false_iff_not, forall_const, List.any_cons, List.any_nil, Bool.or_false, subTy, pl1_0, pn1, pl2_0, pl2_1, pn2, pl3_0, pl3_1, pl3_2, pn3, pl4_0, pl4_1, pl4_2, pl4_3, pn4, pl5_0, pl5_1, pl5_2, pl5_3, pl5_4, pn5, pl6_0, pl6_1, pl6_2, pl6_3, pl6_4, pl6_5, pn6, pl7_0, pl7_1, pl7_2, pl7_3, pl7_4, pl7_5, pl7_6, pn7, pl8_0, pl8_1, pl8_2, pl8_3, pl8_4, pl8_5, pl8_6, pl8_7, pn8, pl9_0, pl9_1, pl9_2, pl9_3, pl9_4, pl9_5, pl9_6, pl9_7, pl9_8, pn9, x_lst hj, two]
  cases x <;> simp only [wpS, wpE, wpEs, wpP, wpI, wpT, begin_, hxD, hxD.hxL, catch_, putAll, Ev.unpack, tgSem, wipe, o_add, o_sub, o_mul, o_div, o_mod, o_pow, o_tup, o_lst, o_rep, c_eq, c_ne, c_lt, c_le, c_gt, c_ge, c_isn, c_notn, c_isb, c_in, c_nin, q_int, q_bl, not_true_eq_false, not_false_eq_true, Bool.false_or, Bool.true_or, Bool.or_true, Bool.true_and, Bool.false_and, Bool.and_true, Bool.and_false,  id_eq, lst_new, boolsD, intsD, Option.map_some, List.all_cons, List.all_nil, List.map_append,  q_lit, String.reduceEq, decide_true, decide_false, Bool.not_true, Bool.not_false, Bool.true_eq_false, Bool.false_eq_true, eq_self, i_isn, i_isi, i_isb, i_iss, i_ist, i_isr, t_non, t_int, t_bl, t_str, t_tup, t_fz, b_abs, b_lent, b_lenf, b_lens, b_list, b_tuple, b_int, b_intb, b_sum, b_min2, b_max2, b_all, b_any, b_gcd, b_dict, m_app, m_ext, m_popi, m_pop, x_tup, x_fz, List.map_cons, List.map_nil, List.length_cons, List.length_nil, List.replicate, List.append_nil, List.cons_append, List.nil_append, List.getElem?_cons_zero, List.getElem?_cons_succ, List.set_cons_zero, List.set_cons_succ, Option.some.injEq, D.int.injEq, D.bl.injEq, D.str.injEq, D.tup.injEq, D.ref.injEq, exists_eq_left', exists_eq_left, exists_eq_right, true_and, and_true, Nat.reduceSub, Nat.reduceAdd, Nat.zero_add, reduceCtorEq, false_implies, true_implies, decide_eq_true_eq, decide_eq_false_iff_not, forall_const, List.any_cons, List.any_nil, Bool.or_false, subTy, pl1_0, pn1, pl2_0, pl2_1, pn2, pl3_0, pl3_1, pl3_2, pn3, pl4_0, pl4_1, pl4_2, pl4_3, pn4, pl5_0, pl5_1, pl5_2, pl5_3, pl5_4, pn5, pl6_0, pl6_1, pl6_2, pl6_3, pl6_4, pl6_5, pn6, pl7_0, pl7_1, pl7_2, pl7_3, pl7_4, pl7_5, pl7_6, pn7, pl8_0, pl8_1, pl8_2, pl8_3, pl8_4, pl8_5, pl8_6, pl8_7, pn8, pl9_0, pl9_1, pl9_2, pl9_3, pl9_4, pl9_5, pl9_6, pl9_7, pl9_8, pn9, kg] <;> refine r_fraction hc hd (fun h => ?_) (fun h h2 => ?_) (fun a b ha hb h0 => ?_)
  all_goals first
    | (simp only [wpS, wpE, wpEs, wpP, wpI, wpT, begin_, hxD, hxD.hxL, catch_, putAll, Ev.unpack, tgSem, wipe, o_add, o_sub, o_mul, o_div, o_mod, o_pow, o_tup, o_lst, o_rep, c_eq, c_ne, c_lt, c_le, c_gt, c_ge, c_isn, c_notn, c_isb, c_in, c_nin, q_int, q_bl, not_true_eq_false, not_false_eq_true, Bool.false_or, Bool.true_or, Bool.or_true, Bool.true_and, Bool.false_and, Bool.and_true, Bool.and_false,  id_eq, lst_new, boolsD, intsD, Option.map_some, List.all_cons, List.all_nil, List.map_append,  q_lit, String.reduceEq, decide_true, decide_false, Bool.not_true, Bool.not_false, Bool.true_eq_false, Bool.false_eq_true, eq_self, i_isn, i_isi, i_isb, i_iss, i_ist, i_isr, t_non, t_int, t_bl, t_str, t_tup, t_fz, b_abs, b_lent, b_lenf, b_lens, b_list, b_tuple, b_int, b_intb, b_sum, b_min2, b_max2, b_all, b_any, b_gcd, b_dict, m_app, m_ext, m_popi, m_pop, x_tup, x_fz, List.map_cons, List.map_nil, List.length_cons, List.length_nil, List.replicate, List.append_nil, List.cons_append, List.nil_append, List.getElem?_cons_zero, List.getElem?_cons_succ, List.set_cons_zero, List.set_cons_succ, Option.some.injEq, D.int.injEq, D.bl.injEq, D.str.injEq, D.tup.injEq, D.ref.injEq, exists_eq_left', exists_eq_left, exists_eq_right, true_and, and_true, Nat.reduceSub, Nat.reduceAdd, Nat.zero_add, reduceCtorEq, false_implies, true_implies, decide_eq_true_eq, decide_eq_false_iff_not, forall_const, List.any_cons, List.any_nil, Bool.or_false, subTy, pl1_0, pn1, pl2_0, pl2_1, pn2, pl3_0, pl3_1, pl3_2, pn3, pl4_0, pl4_1, pl4_2, pl4_3, pn4, pl5_0, pl5_1, pl5_2, pl5_3, pl5_4, pn5, pl6_0, pl6_1, pl6_2, pl6_3, pl6_4, pl6_5, pn6, pl7_0, pl7_1, pl7_2, pl7_3, pl7_4, pl7_5, pl7_6, pn7, pl8_0, pl8_1, pl8_2, pl8_3, pl8_4, pl8_5, pl8_6, pl8_7, pn8, pl9_0, pl9_1, pl9_2, pl9_3, pl9_4, pl9_5, pl9_6, pl9_7, pl9_8, pn9, hs, two]; exact (e h).go Gr.refl)
    | (simp only [wpS, wpE, wpEs, wpP, wpI, wpT, begin_, hxD, hxD.hxL, catch_, putAll, Ev.unpack, tgSem, wipe, o_add, o_sub, o_mul, o_div, o_mod, o_pow, o_tup, o_lst, o_rep, c_eq, c_ne, c_lt, c_le, c_gt, c_ge, c_isn, c_notn, c_isb, c_in, c_nin, q_int, q_bl, not_true_eq_false, not_false_eq_true, Bool.false_or, Bool.true_or, Bool.or_true, Bool.true_and, Bool.false_and, Bool.and_true, Bool.and_false,  id_eq, lst_new, boolsD, intsD, Option.map_some, List.all_cons, List.all_nil, List.map_append,  q_lit, String.reduceEq, decide_true, decide_false, Bool.not_true, Bool.not_false, Bool.true_eq_false, Bool.false_eq_true, eq_self, i_isn, i_isi, i_isb, i_iss, i_ist, i_isr, t_non, t_int, t_bl, t_str, t_tup, t_fz, b_abs, b_lent, b_lenf, b_lens, b_list, b_tuple, b_int, b_intb, b_sum, b_min2, b_max2, b_all, b_any, b_gcd, b_dict, m_app, m_ext, m_popi, m_pop, x_tup, x_fz, List.map_cons, List.map_nil, List.length_cons, List.length_nil, List.replicate, List.append_nil, List.cons_append, List.nil_append, List.getElem?_cons_zero, List.getElem?_cons_succ, List.set_cons_zero, List.set_cons_succ, Option.some.injEq, D.int.injEq, D.bl.injEq, D.str.injEq, D.tup.injEq, D.ref.injEq, exists_eq_left', exists_eq_left, exists_eq_right, true_and, and_true, Nat.reduceSub, Nat.reduceAdd, Nat.zero_add, reduceCtorEq, false_implies, true_implies, decide_eq_true_eq, decide_eq_false_iff_not, forall_const, List.any_cons, List.any_nil, Bool.or_false, subTy, pl1_0, pn1, pl2_0, pl2_1, pn2, pl3_0, pl3_1, pl3_2, pn3, pl4_0, pl4_1, pl4_2, pl4_3, pn4, pl5_0, pl5_1, pl5_2, pl5_3, pl5_4, pn5, pl6_0, pl6_1, pl6_2, pl6_3, pl6_4, pl6_5, pn6, pl7_0, pl7_1, pl7_2, pl7_3, pl7_4, pl7_5, pl7_6, pn7, pl8_0, pl8_1, pl8_2, pl8_3, pl8_4, pl8_5, pl8_6, pl8_7, pn8, pl9_0, pl9_1, pl9_2, pl9_3, pl9_4, pl9_5, pl9_6, pl9_7, pl9_8, pn9, hs, two]; exact (e2 h h2).go Gr.refl)
    | (obtain ⟨s1, o⟩ := q a b ha hb h0; exact ⟨s1, o.go Gr.refl⟩)
end
end EvL
end
section
set_option Elab.async false
set_option linter.all false
set_option maxRecDepth 100000
set_option maxHeartbeats 400000
set_option exponentiation.threshold 20000
namespace EvL
open PySem (Str)
open Ev
theorem one2 {S : Sto} {o o2 : Ob} : S ++ [o] ++ [o2] = S ++ [o, o2] := by simp
theorem imS {k : Nat} {z : String} (h : (Str.ofString z).length ≤ 1000) : im 0 (.str (Str.ofString z)) = true := by
  show (PySem.PyData.strOk (Str.ofString z) && decide ((Str.ofString z).length ≤ 1000)) = true
  rw [sOk, decide_eq_true h]
  rfl
theorem dct_new {S : Sto} {kvs : List (Key × D)} : (S ++ [Ob.dct kvs])[S.length]? = some (.dct kvs) := by
  rw [List.getElem?_append_right (Nat.le_refl _), Nat.sub_self]
  rfl
theorem dct_old {S T : Sto} {i : Nat} {o : Ob} (h : S[i]? = some o) : (S ++ T)[i]? = some o := by
  rw [List.getElem?_append_left (List.getElem?_eq_some_iff.mp h).1, h]
section
variable {n : Nat} {S : Sto} {Q : Po} {E : Xo} {b k : Nat}
theorem r__law_bad_fraction (hb : Box S b k) (hk : k + 1 ≤ 2 ^ 30) (q : ∀ S' d, Bad S' S.length d → isFr d = false → Box S' b (k + 1) → Fr b S S' → Q d S') : run sub TT (n + 6) i__law_bad_fraction [.ref b] S Q E := by
  rw [run_eq at__law_bad_fraction rfl]
  have m1 : (1 : Nat) ≤ most := by decide
  have m2 : (2 : Nat) ≤ most := by decide
  have m3 : (3 : Nat) ≤ most := by decide
  have m15 : (15 : Nat) ≤ most := by decide
  have me : mergeD [] [] = [] := rfl
  have hbl : b < S.length := let ⟨_, _, _, _, h, _⟩ := hb.ex; lst_lt h
  simp only [f__law_bad_fraction, _law_bad_fraction_1, wpS, wpE, wpEs, wpP, wpI, wpT, begin_, hxD, hxD.hxL, catch_, putAll, Ev.unpack, tgSem, wipe, o_add, o_sub, o_mul, o_div, o_mod, o_pow, o_tup, o_lst, o_rep, c_eq, c_ne, c_lt, c_le, c_gt, c_ge, c_isn, c_notn, c_isb, c_in, c_nin, q_int, q_bl, not_true_eq_false, not_false_eq_true, Bool.false_or, Bool.true_or, Bool.or_true, Bool.true_and, Bool.false_and, Bool.and_true, Bool.and_false,  id_eq, lst_new, boolsD, intsD, Option.map_some, List.all_cons, List.all_nil, List.map_append,  q_lit, String.reduceEq, decide_true, decide_false, Bool.not_true, Bool.not_false, Bool.true_eq_false, Bool.false_eq_true, eq_self, i_isn, i_isi, i_isb, i_iss, i_ist, i_isr, t_non, t_int, t_bl, t_str, t_tup, t_fz, b_abs, b_lent, b_lenf, b_lens, b_list, b_tuple, b_int, b_intb, b_sum, b_min2, b_max2, b_all, b_any, b_gcd, b_dict, m_app, m_ext, m_popi, m_pop, x_tup, x_fz, List.map_cons, List.map_nil, List.length_cons, List.length_nil, List.replicate, List.append_nil, List.cons_append, List.nil_append, List.getElem?_cons_zero, List.getElem?_cons_succ, List.set_cons_zero, List.set_cons_succ, Option.some.injEq, D.int.injEq, D.bl.injEq, D.str.injEq, D.tup.injEq, D.ref.injEq, exists_eq_left', exists_eq_left, exists_eq_right, true_and, and_true, Nat.reduceSub, Nat.reduceAdd, Nat.zero_add, reduceCtorEq, false_implies, true_implies, decide_eq_true_eq, decide_eq_false_iff_not, forall_const, List.any_cons, List.any_nil, Bool.or_false, subTy, pl1_0, pn1, pl2_0, pl2_1, pn2, pl3_0, pl3_1, pl3_2, pn3, pl4_0, pl4_1, pl4_2, pl4_3, pn4, pl5_0, pl5_1, pl5_2, pl5_3, pl5_4, pn5, pl6_0, pl6_1, pl6_2, pl6_3, pl6_4, pl6_5, pn6, pl7_0, pl7_1, pl7_2, pl7_3, pl7_4, pl7_5, pl7_6, pn7, pl8_0, pl8_1, pl8_2, pl8_3, pl8_4, pl8_5, pl8_6, pl8_7, pn8, pl9_0, pl9_1, pl9_2, pl9_3, pl9_4, pl9_5, pl9_6, pl9_7, pl9_8, pn9, m1, m2, m3, m15, List.zip_nil_left, me, Nat.zero_le]
  have g : Gr S (S ++ [Ob.lst [D.int 1, D.int 2]] ++ [Ob.dct []]) := Gr.one.trans Gr.one
  refine r__law_pick (hb.gr (g.trans Gr.one)) (by omega) lst_new (by simp; omega) (by simp) (by simp) fun S1 x hx hb1 fr1 => ?_
  have fr := (g.trans Gr.one).fr.trans fr1
  have l1 : lstAt S1 S.length = some [D.int 1, D.int 2] := fr1.lst (by omega) (lst_old (lst_old lst_new))
  have l2 : S1[(S ++ [Ob.lst [D.int 1, D.int 2]]).length]? = some (.dct []) := by
    rw [fr1.at_ _ (by simp; omega) (by simp)]
    exact dct_old dct_new
  have go : ∀ d : D, Bad S1 S.length d → isFr d = false → run sub TT (n + 5) i__law_copy [d] S1 Q E := fun d hd hf => by
    refine r__law_copy hd fun S2 d' g2 h2 hc hi => q _ _ (h2.mono fr.le) (by rw [hc.1, hf]) (hb1.gr g2) (fr.trans g2.fr)
  simp only [List.mem_cons, List.not_mem_nil, or_false] at hx
  rcases hx with rfl | rfl | rfl | rfl | rfl | rfl | rfl | rfl | rfl | rfl | rfl | rfl | rfl | rfl | rfl
  · exact go _ (.im rfl) rfl
  · exact go _ (.im rfl) rfl
  · exact go _ (.im rfl) rfl
  · exact go _ (.im rfl) rfl
  · exact go _ (.im rfl) rfl
  · exact go _ (.lst (Nat.le_refl _) l1 (by simp) (fun x hx => by
      simp only [List.mem_cons, List.not_mem_nil, or_false] at hx
      rcases hx with rfl | rfl <;> rfl)) rfl
  · exact go _ (.im rfl) rfl
  · exact go _ (.im rfl) rfl
  · exact go _ (.im rfl) rfl
  · exact go _ (.im (imS (k := 3) (by decide))) rfl
  · exact go _ (.dct (by simp) l2) rfl
  · exact go _ (.im rfl) rfl
  · refine go _ (.im ?_) rfl
    have h := imS (k := 0) (z := "1") (by decide)
    show (decide ((2 : Nat) ≤ 1000) && [D.str (Str.ofString "1"), D.int 2].all (im 2)) = true
    rw [Bool.and_eq_true, List.all_eq_true]
    refine ⟨rfl, fun x hx => ?_⟩
    simp only [List.mem_cons, List.not_mem_nil, or_false] at hx
    rcases hx with rfl | rfl
    · exact h
    · rfl
  · exact go _ (.im rfl) rfl
  · exact go _ (.im rfl) rfl
end
end EvL
end
section
set_option Elab.async false
set_option linter.all false
set_option maxRecDepth 100000
set_option maxHeartbeats 400000
set_option exponentiation.threshold 20000
namespace EvL
open PySem (Str)
open Ev
theorem isFr_fd {x : Rat} : isFr (FD x) = true := isFr_iff.mpr ⟨x, rfl⟩
theorem fd_inj {x y : Rat} (h : FD x = FD y) : x = y := by
  unfold FD at h
  simp only [D.tup.injEq, List.cons.injEq, D.int.injEq, and_true] at h
  exact Rat.ext h.1 (by omega)
theorem x_fd0 {x : Rat} {S : Sto} {Q : Po} : ixSem (FD x) (.int 0) S Q = Q (.int x.num) S := by
  simp only [FD, wpS, wpE, wpEs, wpP, wpI, wpT, begin_, hxD, hxD.hxL, catch_, putAll, Ev.unpack, tgSem, wipe, o_add, o_sub, o_mul, o_div, o_mod, o_pow, o_tup, o_lst, o_rep, c_eq, c_ne, c_lt, c_le, c_gt, c_ge, c_isn, c_notn, c_isb, c_in, c_nin, q_int, q_bl, not_true_eq_false, not_false_eq_true, Bool.false_or, Bool.true_or, Bool.or_true, Bool.true_and, Bool.false_and, Bool.and_true, Bool.and_false,  id_eq, lst_new, boolsD, intsD, Option.map_some, List.all_cons, List.all_nil, List.map_append,  q_lit, String.reduceEq, decide_true, decide_false, Bool.not_true, Bool.not_false, Bool.true_eq_false, Bool.false_eq_true, eq_self, i_isn, i_isi, i_isb, i_iss, i_ist, i_isr, t_non, t_int, t_bl, t_str, t_tup, t_fz, b_abs, b_lent, b_lenf, b_lens, b_list, b_tuple, b_int, b_intb, b_sum, b_min2, b_max2, b_all, b_any, b_gcd, b_dict, m_app, m_ext, m_popi, m_pop, x_tup, x_fz, List.map_cons, List.map_nil, List.length_cons, List.length_nil, List.replicate, List.append_nil, List.cons_append, List.nil_append, List.getElem?_cons_zero, List.getElem?_cons_succ, List.set_cons_zero, List.set_cons_succ, Option.some.injEq, D.int.injEq, D.bl.injEq, D.str.injEq, D.tup.injEq, D.ref.injEq, exists_eq_left', exists_eq_left, exists_eq_right, true_and, and_true, Nat.reduceSub, Nat.reduceAdd, Nat.zero_add, reduceCtorEq, false_implies, true_implies, decide_eq_true_eq, decide_eq_false_iff_not, forall_const, List.any_cons, List.any_nil, Bool.or_false, subTy, pl1_0, pn1, pl2_0, pl2_1, pn2, pl3_0, pl3_1, pl3_2, pn3, pl4_0, pl4_1, pl4_2, pl4_3, pn4, pl5_0, pl5_1, pl5_2, pl5_3, pl5_4, pn5, pl6_0, pl6_1, pl6_2, pl6_3, pl6_4, pl6_5, pn6, pl7_0, pl7_1, pl7_2, pl7_3, pl7_4, pl7_5, pl7_6, pn7, pl8_0, pl8_1, pl8_2, pl8_3, pl8_4, pl8_5, pl8_6, pl8_7, pn8, pl9_0, pl9_1, pl9_2, pl9_3, pl9_4, pl9_5, pl9_6, pl9_7, pl9_8, pn9]
theorem x_fd1 {x : Rat} {S : Sto} {Q : Po} : ixSem (FD x) (.int 1) S Q = Q (.int (x.den : Int)) S := by
  simp only [FD, wpS, wpE, wpEs, wpP, wpI, wpT, begin_, hxD, hxD.hxL, catch_, putAll, Ev.unpack, tgSem, wipe, o_add, o_sub, o_mul, o_div, o_mod, o_pow, o_tup, o_lst, o_rep, c_eq, c_ne, c_lt, c_le, c_gt, c_ge, c_isn, c_notn, c_isb, c_in, c_nin, q_int, q_bl, not_true_eq_false, not_false_eq_true, Bool.false_or, Bool.true_or, Bool.or_true, Bool.true_and, Bool.false_and, Bool.and_true, Bool.and_false,  id_eq, lst_new, boolsD, intsD, Option.map_some, List.all_cons, List.all_nil, List.map_append,  q_lit, String.reduceEq, decide_true, decide_false, Bool.not_true, Bool.not_false, Bool.true_eq_false, Bool.false_eq_true, eq_self, i_isn, i_isi, i_isb, i_iss, i_ist, i_isr, t_non, t_int, t_bl, t_str, t_tup, t_fz, b_abs, b_lent, b_lenf, b_lens, b_list, b_tuple, b_int, b_intb, b_sum, b_min2, b_max2, b_all, b_any, b_gcd, b_dict, m_app, m_ext, m_popi, m_pop, x_tup, x_fz, List.map_cons, List.map_nil, List.length_cons, List.length_nil, List.replicate, List.append_nil, List.cons_append, List.nil_append, List.getElem?_cons_zero, List.getElem?_cons_succ, List.set_cons_zero, List.set_cons_succ, Option.some.injEq, D.int.injEq, D.bl.injEq, D.str.injEq, D.tup.injEq, D.ref.injEq, exists_eq_left', exists_eq_left, exists_eq_right, true_and, and_true, Nat.reduceSub, Nat.reduceAdd, Nat.zero_add, reduceCtorEq, false_implies, true_implies, decide_eq_true_eq, decide_eq_false_iff_not, forall_const, List.any_cons, List.any_nil, Bool.or_false, subTy, pl1_0, pn1, pl2_0, pl2_1, pn2, pl3_0, pl3_1, pl3_2, pn3, pl4_0, pl4_1, pl4_2, pl4_3, pn4, pl5_0, pl5_1, pl5_2, pl5_3, pl5_4, pn5, pl6_0, pl6_1, pl6_2, pl6_3, pl6_4, pl6_5, pn6, pl7_0, pl7_1, pl7_2, pl7_3, pl7_4, pl7_5, pl7_6, pn7, pl8_0, pl8_1, pl8_2, pl8_3, pl8_4, pl8_5, pl8_6, pl8_7, pn8, pl9_0, pl9_1, pl9_2, pl9_3, pl9_4, pl9_5, pl9_6, pl9_7, pl9_8, pn9]
structure Tells (w : Str) (c d : D) (due : D) : Prop where
  met : ∀ (n : Nat) (S : Sto) (j : Nat) (x : Bool) (Q : Po) (E : Xo), lstAt S j = some [c, d] → Out S Q "told" due → run sub TT (n + 6) i__law_met [.str w, .ref j, .bl x] S Q E
  sm : ∀ (b : Nat) (S : Sto), Sm b S 1 due due
section
variable {x y : Rat}
theorem tells_plus (hx : Sz 4000 x) (hy : Sz 4000 y) : Tells (Str.ofString "plus") (FD x) (FD y) (FD (x + y)) :=
  ⟨fun n S j nm Q E hj o => met_plus hj wf_fd wf_fd (fun h => by rw [isFr_fd] at h; cases h) (fun _ h => by rw [isFr_fd] at h; cases h) (fun a c ha hc => by
    cases fd_inj ha; cases fd_inj hc
    exact ⟨hx, hy, o⟩), fun b S => sm_fd⟩
theorem tells_minus (hx : Sz 4000 x) (hy : Sz 4000 y) : Tells (Str.ofString "minus") (FD x) (FD y) (FD (x + -y)) :=
  ⟨fun n S j nm Q E hj o => met_minus hj wf_fd wf_fd (fun h => by rw [isFr_fd] at h; cases h) (fun _ h => by rw [isFr_fd] at h; cases h) (fun a c ha hc => by
    cases fd_inj ha; cases fd_inj hc
    rw [Rat.sub_eq_add_neg]
    exact ⟨hx, hy, o⟩), fun b S => sm_fd⟩
theorem tells_times (hx : Sz 4000 x) (hy : Sz 4000 y) : Tells (Str.ofString "times") (FD x) (FD y) (FD (x * y)) :=
  ⟨fun n S j nm Q E hj o => met_times hj wf_fd wf_fd (fun h => by rw [isFr_fd] at h; cases h) (fun _ h => by rw [isFr_fd] at h; cases h) (fun a c ha hc => by
    cases fd_inj ha; cases fd_inj hc
    exact ⟨hx, hy, o⟩), fun b S => sm_fd⟩
theorem tells_less (hx : Sz 4000 x) (hy : Sz 4000 y) : Tells (Str.ofString "less") (FD x) (FD y) (.bl (decide (x < y))) :=
  ⟨fun n S j nm Q E hj o => met_less hj wf_fd wf_fd (fun h => by rw [isFr_fd] at h; cases h) (fun _ h => by rw [isFr_fd] at h; cases h) (fun a c ha hc => by
    cases fd_inj ha; cases fd_inj hc
    exact ⟨hx, hy, o⟩), fun b S => .bl _⟩
theorem tells_over (hx : Sz 4000 x) (hy : Sz 4000 y) (h0 : y ≠ 0) : Tells (Str.ofString "over") (FD x) (FD y) (FD (x / y)) :=
  ⟨fun n S j nm Q E hj o => met_over hj wf_fd wf_fd (fun h => by rw [isFr_fd] at h; cases h) (fun _ h => by
    rcases h with h | h
    · rw [isFr_fd] at h; cases h
    · exact absurd (fd_inj h) h0) (fun a c ha hc _ => by
    cases fd_inj ha; cases fd_inj hc
    exact ⟨hx, hy, o⟩), fun b S => sm_fd⟩
end
theorem told_le : (Str.ofString "told").length ≤ 1000 := by decide
theorem number_le : (Str.ofString "number").length ≤ 1000 := by decide
section
variable {n : Nat} {S : Sto} {Q : Po} {E : Xo} {b k : Nat}
theorem r__law_reckoned_right {nm : Bool} (hb : Box S b k) (hk : k + 20 ≤ 2 ^ 30) (q : ∀ S', Box S' b (k + 13) → Fr b S S' → Q (.bl true) S') : run sub TT (n + 9) i__law_reckoned_right [.ref b, .bl nm] S Q E := by
  rw [run_eq at__law_reckoned_right rfl]
  have m1 : (1 : Nat) ≤ most := by decide
  have m2 : (2 : Nat) ≤ most := by decide
  have m4 : (4 : Nat) ≤ most := by decide
  have m5 : (5 : Nat) ≤ most := by decide
  have hbl : b < S.length := let ⟨_, _, _, _, h, _⟩ := hb.ex; lst_lt h
  simp only [f__law_reckoned_right, _law_reckoned_right_1, wpS, wpE, wpEs, wpP, wpI, wpT, begin_, hxD, hxD.hxL, catch_, putAll, Ev.unpack, tgSem, wipe, o_add, o_sub, o_mul, o_div, o_mod, o_pow, o_tup, o_lst, o_rep, c_eq, c_ne, c_lt, c_le, c_gt, c_ge, c_isn, c_notn, c_isb, c_in, c_nin, q_int, q_bl, not_true_eq_false, not_false_eq_true, Bool.false_or, Bool.true_or, Bool.or_true, Bool.true_and, Bool.false_and, Bool.and_true, Bool.and_false,  id_eq, lst_new, boolsD, intsD, Option.map_some, List.all_cons, List.all_nil, List.map_append,  q_lit, String.reduceEq, decide_true, decide_false, Bool.not_true, Bool.not_false, Bool.true_eq_false, Bool.false_eq_true, eq_self, i_isn, i_isi, i_isb, i_iss, i_ist, i_isr, t_non, t_int, t_bl, t_str, t_tup, t_fz, b_abs, b_lent, b_lenf, b_lens, b_list, b_tuple, b_int, b_intb, b_sum, b_min2, b_max2, b_all, b_any, b_gcd, b_dict, m_app, m_ext, m_popi, m_pop, x_tup, x_fz, List.map_cons, List.map_nil, List.length_cons, List.length_nil, List.replicate, List.append_nil, List.cons_append, List.nil_append, List.getElem?_cons_zero, List.getElem?_cons_succ, List.set_cons_zero, List.set_cons_succ, Option.some.injEq, D.int.injEq, D.bl.injEq, D.str.injEq, D.tup.injEq, D.ref.injEq, exists_eq_left', exists_eq_left, exists_eq_right, true_and, and_true, Nat.reduceSub, Nat.reduceAdd, Nat.zero_add, reduceCtorEq, false_implies, true_implies, decide_eq_true_eq, decide_eq_false_iff_not, forall_const, List.any_cons, List.any_nil, Bool.or_false, subTy, pl1_0, pn1, pl2_0, pl2_1, pn2, pl3_0, pl3_1, pl3_2, pn3, pl4_0, pl4_1, pl4_2, pl4_3, pn4, pl5_0, pl5_1, pl5_2, pl5_3, pl5_4, pn5, pl6_0, pl6_1, pl6_2, pl6_3, pl6_4, pl6_5, pn6, pl7_0, pl7_1, pl7_2, pl7_3, pl7_4, pl7_5, pl7_6, pn7, pl8_0, pl8_1, pl8_2, pl8_3, pl8_4, pl8_5, pl8_6, pl8_7, pn8, pl9_0, pl9_1, pl9_2, pl9_3, pl9_4, pl9_5, pl9_6, pl9_7, pl9_8, pn9]
  refine r__law_some hb (by omega) fun S1 x hx hb1 fr1 => ?_
  refine r__law_some hb1 (by omega) fun S2 y hy hb2 fr2 => ?_
  simp only [_law_reckoned_right_2, wpS, wpE, wpEs, wpP, wpI, wpT, begin_, hxD, hxD.hxL, catch_, putAll, Ev.unpack, tgSem, wipe, o_add, o_sub, o_mul, o_div, o_mod, o_pow, o_tup, o_lst, o_rep, c_eq, c_ne, c_lt, c_le, c_gt, c_ge, c_isn, c_notn, c_isb, c_in, c_nin, q_int, q_bl, not_true_eq_false, not_false_eq_true, Bool.false_or, Bool.true_or, Bool.or_true, Bool.true_and, Bool.false_and, Bool.and_true, Bool.and_false,  id_eq, lst_new, boolsD, intsD, Option.map_some, List.all_cons, List.all_nil, List.map_append,  q_lit, String.reduceEq, decide_true, decide_false, Bool.not_true, Bool.not_false, Bool.true_eq_false, Bool.false_eq_true, eq_self, i_isn, i_isi, i_isb, i_iss, i_ist, i_isr, t_non, t_int, t_bl, t_str, t_tup, t_fz, b_abs, b_lent, b_lenf, b_lens, b_list, b_tuple, b_int, b_intb, b_sum, b_min2, b_max2, b_all, b_any, b_gcd, b_dict, m_app, m_ext, m_popi, m_pop, x_tup, x_fz, List.map_cons, List.map_nil, List.length_cons, List.length_nil, List.replicate, List.append_nil, List.cons_append, List.nil_append, List.getElem?_cons_zero, List.getElem?_cons_succ, List.set_cons_zero, List.set_cons_succ, Option.some.injEq, D.int.injEq, D.bl.injEq, D.str.injEq, D.tup.injEq, D.ref.injEq, exists_eq_left', exists_eq_left, exists_eq_right, true_and, and_true, Nat.reduceSub, Nat.reduceAdd, Nat.zero_add, reduceCtorEq, false_implies, true_implies, decide_eq_true_eq, decide_eq_false_iff_not, forall_const, List.any_cons, List.any_nil, Bool.or_false, subTy, pl1_0, pn1, pl2_0, pl2_1, pn2, pl3_0, pl3_1, pl3_2, pn3, pl4_0, pl4_1, pl4_2, pl4_3, pn4, pl5_0, pl5_1, pl5_2, pl5_3, pl5_4, pn5, pl6_0, pl6_1, pl6_2, pl6_3, pl6_4, pl6_5, pn6, pl7_0, pl7_1, pl7_2, pl7_3, pl7_4, pl7_5, pl7_6, pn7, pl8_0, pl8_1, pl8_2, pl8_3, pl8_4, pl8_5, pl8_6, pl8_7, pn8, pl9_0, pl9_1, pl9_2, pl9_3, pl9_4, pl9_5, pl9_6, pl9_7, pl9_8, pn9, r__law_neg, m2, m5]
  refine r__law_pick (hb2.gr Gr.one) (by omega) lst_new (by have := fr1.le; have := fr2.le; omega) (by simp) (by simp) fun S3 w hw hb3 fr3 => ?_
  obtain ⟨z, rfl, hz⟩ : ∃ z, w = FD z ∧ Sz 70 z := by
    simp only [List.mem_cons, List.not_mem_nil, or_false] at hw
    rcases hw with rfl | rfl | rfl | rfl | rfl
    · exact ⟨_, rfl, hy⟩
    · exact ⟨_, rfl, hy⟩
    · exact ⟨_, rfl, hx⟩
    · exact ⟨_, rfl, sz_neg hx⟩
    · exact ⟨0, rfl, by decide, by decide⟩
  have fr := ((fr1.trans fr2).trans Gr.one.fr).trans fr3
  clear fr1 fr2 fr3 hw hb1 hb2
  have hx := hx.mono (show 70 ≤ 4000 by decide)
  have hz := hz.mono (show 70 ≤ 4000 by decide)
  let I : Nat → List D → List D → Ev.Env → Sto → Prop := fun lr items rest env S' => ∃ (u t v : Option D), env = [some (.ref b), some (.bl nm), some (FD x), some (FD z), u, t, v] ∧ (∀ it ∈ rest, ∃ w due, it = .tup [.str w, due] ∧ Tells w (FD x) (FD z) due) ∧ lstAt S' lr = some items ∧ Box S' b (k + 13) ∧ Fr b S S'
  have step : ∀ (lr : Nat) (items : List D) (it : D) (rest : List D) (env : Ev.Env) (S' : Sto) (K : Kn), I lr items (it :: rest) env S' → (∀ env' S2, I lr items rest env' S2 → K.nx env' S2) → tgSem (.tp [5, 6]) it env S' fun env1 => wpS (run sub TT (n + 8)) sub _law_reckoned_right_4b_1 env1 S' K := by
    intro lr items it rest env S' K ⟨u, t, v, e1, e2, e3, e4, e5⟩ hK
    subst e1
    obtain ⟨w, due, rfl, tl⟩ := e2 it (by simp)
    have rest2 : ∀ it ∈ rest, ∃ w due, it = .tup [.str w, due] ∧ Tells w (FD x) (FD z) due := fun i hi => e2 i (by simp [hi])
    have hl := e5.le
    simp only [_law_reckoned_right_4b_1, wpS, wpE, wpEs, wpP, wpI, wpT, begin_, hxD, hxD.hxL, catch_, putAll, Ev.unpack, tgSem, wipe, o_add, o_sub, o_mul, o_div, o_mod, o_pow, o_tup, o_lst, o_rep, c_eq, c_ne, c_lt, c_le, c_gt, c_ge, c_isn, c_notn, c_isb, c_in, c_nin, q_int, q_bl, not_true_eq_false, not_false_eq_true, Bool.false_or, Bool.true_or, Bool.or_true, Bool.true_and, Bool.false_and, Bool.and_true, Bool.and_false,  id_eq, lst_new, boolsD, intsD, Option.map_some, List.all_cons, List.all_nil, List.map_append,  q_lit, String.reduceEq, decide_true, decide_false, Bool.not_true, Bool.not_false, Bool.true_eq_false, Bool.false_eq_true, eq_self, i_isn, i_isi, i_isb, i_iss, i_ist, i_isr, t_non, t_int, t_bl, t_str, t_tup, t_fz, b_abs, b_lent, b_lenf, b_lens, b_list, b_tuple, b_int, b_intb, b_sum, b_min2, b_max2, b_all, b_any, b_gcd, b_dict, m_app, m_ext, m_popi, m_pop, x_tup, x_fz, List.map_cons, List.map_nil, List.length_cons, List.length_nil, List.replicate, List.append_nil, List.cons_append, List.nil_append, List.getElem?_cons_zero, List.getElem?_cons_succ, List.set_cons_zero, List.set_cons_succ, Option.some.injEq, D.int.injEq, D.bl.injEq, D.str.injEq, D.tup.injEq, D.ref.injEq, exists_eq_left', exists_eq_left, exists_eq_right, true_and, and_true, Nat.reduceSub, Nat.reduceAdd, Nat.zero_add, reduceCtorEq, false_implies, true_implies, decide_eq_true_eq, decide_eq_false_iff_not, forall_const, List.any_cons, List.any_nil, Bool.or_false, subTy, pl1_0, pn1, pl2_0, pl2_1, pn2, pl3_0, pl3_1, pl3_2, pn3, pl4_0, pl4_1, pl4_2, pl4_3, pn4, pl5_0, pl5_1, pl5_2, pl5_3, pl5_4, pn5, pl6_0, pl6_1, pl6_2, pl6_3, pl6_4, pl6_5, pn6, pl7_0, pl7_1, pl7_2, pl7_3, pl7_4, pl7_5, pl7_6, pn7, pl8_0, pl8_1, pl8_2, pl8_3, pl8_4, pl8_5, pl8_6, pl8_7, pn8, pl9_0, pl9_1, pl9_2, pl9_3, pl9_4, pl9_5, pl9_6, pl9_7, pl9_8, pn9, m1, m2]
    refine tl.met _ _ _ _ _ _ lst_new fun S4 r4 g4 l4 t4 => ?_
    refine tl.met _ _ _ _ _ _ lst_new fun S5 r5 g5 l5 t5 => ?_
    have g := (Gr.one.trans g4).trans (Gr.one.trans g5)
    have le4 := gr_le g4
    have le5 := gr_le (Gr.one.trans g5)
    have lg := gr_le g
    simp only [List.length_append, List.length_cons, List.length_nil] at l4 l5 le4
    refine ⟨by decide, by decide, by decide, ?_⟩
    have e : (List.replicate (Int.toNat 2) [D.ref (S5 ++ [Ob.lst [D.ref r4, D.ref r5]]).length]).flatten = [D.ref (S5 ++ [Ob.lst [D.ref r4, D.ref r5]]).length, D.ref (S5 ++ [Ob.lst [D.ref r4, D.ref r5]]).length] := rfl
    rw [e]
    generalize hA : S5 ++ [Ob.lst [D.ref r4, D.ref r5]] = A
    generalize hB : A ++ [Ob.lst [D.str (Str.ofString "told"), due]] = B
    generalize hC : B ++ [Ob.lst [D.ref A.length]] = C
    generalize hD : C ++ [Ob.lst [D.ref A.length, D.ref A.length]] = DD
    have gA : Gr S5 A := hA ▸ Gr.one
    have gB : Gr A B := hB ▸ Gr.one
    have gC : Gr B C := hC ▸ Gr.one
    have gD : Gr C DD := hD ▸ Gr.one
    have gAD := gB.trans (gC.trans gD)
    have k1 : lstAt DD S5.length = some [.ref r4, .ref r5] := gAD.lst (hA ▸ lst_new)
    have k2 : lstAt DD C.length = some [.ref A.length, .ref A.length] := hD ▸ lst_new
    have k3 : lstAt DD r4 = some [.str (Str.ofString "told"), due] := (gA.trans gAD).lst ((Gr.one.trans g5).lst t4)
    have k4 : lstAt DD r5 = some [.str (Str.ofString "told"), due] := (gA.trans gAD).lst t5
    have k5 : lstAt DD A.length = some [.str (Str.ofString "told"), due] := (gC.trans gD).lst (hB ▸ lst_new)
    have lA := gr_le gA
    have lB := gr_le gB
    have lC := gr_le gC
    have inner : ∀ r, r ≠ b → lstAt DD r = some [.str (Str.ofString "told"), due] → Sm b DD 2 (.ref r) (.ref A.length) := fun r h1 h2 => .lst h1 (by omega) h2 k5 (by simp) (.cons (sm_lit (by decide)) (.cons (tl.sm _ _) .nil))
    refine r__law_same (b := b) 3 _ (by omega) (.lst (by omega) (by omega) k1 k2 (by simp) (.cons (inner r4 (by omega) k3) (.cons (inner r5 (by omega) k4) .nil))) fun S6 g6 => ?_
    simp only [wpS, wpE, wpEs, wpP, wpI, wpT, begin_, hxD, hxD.hxL, catch_, putAll, Ev.unpack, tgSem, wipe, o_add, o_sub, o_mul, o_div, o_mod, o_pow, o_tup, o_lst, o_rep, c_eq, c_ne, c_lt, c_le, c_gt, c_ge, c_isn, c_notn, c_isb, c_in, c_nin, q_int, q_bl, not_true_eq_false, not_false_eq_true, Bool.false_or, Bool.true_or, Bool.or_true, Bool.true_and, Bool.false_and, Bool.and_true, Bool.and_false,  id_eq, lst_new, boolsD, intsD, Option.map_some, List.all_cons, List.all_nil, List.map_append,  q_lit, String.reduceEq, decide_true, decide_false, Bool.not_true, Bool.not_false, Bool.true_eq_false, Bool.false_eq_true, eq_self, i_isn, i_isi, i_isb, i_iss, i_ist, i_isr, t_non, t_int, t_bl, t_str, t_tup, t_fz, b_abs, b_lent, b_lenf, b_lens, b_list, b_tuple, b_int, b_intb, b_sum, b_min2, b_max2, b_all, b_any, b_gcd, b_dict, m_app, m_ext, m_popi, m_pop, x_tup, x_fz, List.map_cons, List.map_nil, List.length_cons, List.length_nil, List.replicate, List.append_nil, List.cons_append, List.nil_append, List.getElem?_cons_zero, List.getElem?_cons_succ, List.set_cons_zero, List.set_cons_succ, Option.some.injEq, D.int.injEq, D.bl.injEq, D.str.injEq, D.tup.injEq, D.ref.injEq, exists_eq_left', exists_eq_left, exists_eq_right, true_and, and_true, Nat.reduceSub, Nat.reduceAdd, Nat.zero_add, reduceCtorEq, false_implies, true_implies, decide_eq_true_eq, decide_eq_false_iff_not, forall_const, List.any_cons, List.any_nil, Bool.or_false, subTy, pl1_0, pn1, pl2_0, pl2_1, pn2, pl3_0, pl3_1, pl3_2, pn3, pl4_0, pl4_1, pl4_2, pl4_3, pn4, pl5_0, pl5_1, pl5_2, pl5_3, pl5_4, pn5, pl6_0, pl6_1, pl6_2, pl6_3, pl6_4, pl6_5, pn6, pl7_0, pl7_1, pl7_2, pl7_3, pl7_4, pl7_5, pl7_6, pn7, pl8_0, pl8_1, pl8_2, pl8_3, pl8_4, pl8_5, pl8_6, pl8_7, pn8, pl9_0, pl9_1, pl9_2, pl9_3, pl9_4, pl9_5, pl9_6, pl9_7, pl9_8, pn9]
    have gg := (g.trans gA).trans (gAD.trans g6)
    exact hK _ _ ⟨_, _, _, rfl, rest2, gg.lst e3, e4.gr gg, e5.trans gg.fr⟩
  have fin : ∀ (lr : Nat) (items : List D) (env : Ev.Env) (S' : Sto) (K : Kn), I lr items [] env S' → K.rt = Q → wpS (run sub TT (n + 8)) sub _law_reckoned_right_5 env S' K := by
    intro lr items env S' K ⟨u, t, v, e1, e2, e3, e4, e5⟩ hK
    subst e1
    have hl := e5.le
    simp only [_law_reckoned_right_5, wpS, wpE, wpEs, wpP, wpI, wpT, begin_, hxD, hxD.hxL, catch_, putAll, Ev.unpack, tgSem, wipe, o_add, o_sub, o_mul, o_div, o_mod, o_pow, o_tup, o_lst, o_rep, c_eq, c_ne, c_lt, c_le, c_gt, c_ge, c_isn, c_notn, c_isb, c_in, c_nin, q_int, q_bl, not_true_eq_false, not_false_eq_true, Bool.false_or, Bool.true_or, Bool.or_true, Bool.true_and, Bool.false_and, Bool.and_true, Bool.and_false,  id_eq, lst_new, boolsD, intsD, Option.map_some, List.all_cons, List.all_nil, List.map_append,  q_lit, String.reduceEq, decide_true, decide_false, Bool.not_true, Bool.not_false, Bool.true_eq_false, Bool.false_eq_true, eq_self, i_isn, i_isi, i_isb, i_iss, i_ist, i_isr, t_non, t_int, t_bl, t_str, t_tup, t_fz, b_abs, b_lent, b_lenf, b_lens, b_list, b_tuple, b_int, b_intb, b_sum, b_min2, b_max2, b_all, b_any, b_gcd, b_dict, m_app, m_ext, m_popi, m_pop, x_tup, x_fz, List.map_cons, List.map_nil, List.length_cons, List.length_nil, List.replicate, List.append_nil, List.cons_append, List.nil_append, List.getElem?_cons_zero, List.getElem?_cons_succ, List.set_cons_zero, List.set_cons_succ, Option.some.injEq, D.int.injEq, D.bl.injEq, D.str.injEq, D.tup.injEq, D.ref.injEq, exists_eq_left', exists_eq_left, exists_eq_right, true_and, and_true, Nat.reduceSub, Nat.reduceAdd, Nat.zero_add, reduceCtorEq, false_implies, true_implies, decide_eq_true_eq, decide_eq_false_iff_not, forall_const, List.any_cons, List.any_nil, Bool.or_false, subTy, pl1_0, pn1, pl2_0, pl2_1, pn2, pl3_0, pl3_1, pl3_2, pn3, pl4_0, pl4_1, pl4_2, pl4_3, pn4, pl5_0, pl5_1, pl5_2, pl5_3, pl5_4, pn5, pl6_0, pl6_1, pl6_2, pl6_3, pl6_4, pl6_5, pn6, pl7_0, pl7_1, pl7_2, pl7_3, pl7_4, pl7_5, pl7_6, pn7, pl8_0, pl8_1, pl8_2, pl8_3, pl8_4, pl8_5, pl8_6, pl8_7, pn8, pl9_0, pl9_1, pl9_2, pl9_3, pl9_4, pl9_5, pl9_6, pl9_7, pl9_8, pn9, x_fd0, hK, m2]
    refine ⟨fun h => q _ e4 e5, fun h => ?_⟩
    have hz0 : z = 0 := by
      apply Rat.num_eq_zero.mp
      simpa using h
    refine met_over lst_new wf_fd wf_fd (fun h => by rw [isFr_fd] at h; cases h) (fun _ _ => fun S4 r4 g4 l4 t4 => ?_) (fun a c ha hc h0 => absurd (by rw [← fd_inj hc, hz0]) h0)
    have le4 := gr_le g4
    simp only [List.length_append, List.length_cons, List.length_nil] at l4 le4
    refine r__law_same (b := b) 2 _ (by omega) (.lst (by omega) (by omega) (lst_old t4) lst_new (by simp) (.cons (sm_lit (by decide)) (.cons sm_fd .nil))) fun S6 g6 => ?_
    have gg := (Gr.one.trans g4).trans (Gr.one.trans g6)
    exact q _ (e4.gr gg) (e5.trans gg.fr)
  simp only [_law_reckoned_right_3, wpS, wpE, wpEs, wpP, wpI, wpT, begin_, hxD, hxD.hxL, catch_, putAll, Ev.unpack, tgSem, wipe, o_add, o_sub, o_mul, o_div, o_mod, o_pow, o_tup, o_lst, o_rep, c_eq, c_ne, c_lt, c_le, c_gt, c_ge, c_isn, c_notn, c_isb, c_in, c_nin, q_int, q_bl, not_true_eq_false, not_false_eq_true, Bool.false_or, Bool.true_or, Bool.or_true, Bool.true_and, Bool.false_and, Bool.and_true, Bool.and_false,  id_eq, lst_new, boolsD, intsD, Option.map_some, List.all_cons, List.all_nil, List.map_append,  q_lit, String.reduceEq, decide_true, decide_false, Bool.not_true, Bool.not_false, Bool.true_eq_false, Bool.false_eq_true, eq_self, i_isn, i_isi, i_isb, i_iss, i_ist, i_isr, t_non, t_int, t_bl, t_str, t_tup, t_fz, b_abs, b_lent, b_lenf, b_lens, b_list, b_tuple, b_int, b_intb, b_sum, b_min2, b_max2, b_all, b_any, b_gcd, b_dict, m_app, m_ext, m_popi, m_pop, x_tup, x_fz, List.map_cons, List.map_nil, List.length_cons, List.length_nil, List.replicate, List.append_nil, List.cons_append, List.nil_append, List.getElem?_cons_zero, List.getElem?_cons_succ, List.set_cons_zero, List.set_cons_succ, Option.some.injEq, D.int.injEq, D.bl.injEq, D.str.injEq, D.tup.injEq, D.ref.injEq, exists_eq_left', exists_eq_left, exists_eq_right, true_and, and_true, Nat.reduceSub, Nat.reduceAdd, Nat.zero_add, reduceCtorEq, false_implies, true_implies, decide_eq_true_eq, decide_eq_false_iff_not, forall_const, List.any_cons, List.any_nil, Bool.or_false, subTy, pl1_0, pn1, pl2_0, pl2_1, pn2, pl3_0, pl3_1, pl3_2, pn3, pl4_0, pl4_1, pl4_2, pl4_3, pn4, pl5_0, pl5_1, pl5_2, pl5_3, pl5_4, pn5, pl6_0, pl6_1, pl6_2, pl6_3, pl6_4, pl6_5, pn6, pl7_0, pl7_1, pl7_2, pl7_3, pl7_4, pl7_5, pl7_6, pn7, pl8_0, pl8_1, pl8_2, pl8_3, pl8_4, pl8_5, pl8_6, pl8_7, pn8, pl9_0, pl9_1, pl9_2, pl9_3, pl9_4, pl9_5, pl9_6, pl9_7, pl9_8, pn9]
  refine r__law_add hx hz ?_
  refine ⟨m2, ?_⟩
  simp only [r__law_neg]
  refine r__law_add hx (sz_neg hz) ⟨m2, r__law_mul hx hz ⟨m2, ?_⟩⟩
  rw [r__law_less hx hz]
  refine ⟨m2, m4, ?_⟩
  simp only [_law_reckoned_right_4, wpS, wpE, wpEs, wpP, wpI, wpT, begin_, hxD, hxD.hxL, catch_, putAll, Ev.unpack, tgSem, wipe, o_add, o_sub, o_mul, o_div, o_mod, o_pow, o_tup, o_lst, o_rep, c_eq, c_ne, c_lt, c_le, c_gt, c_ge, c_isn, c_notn, c_isb, c_in, c_nin, q_int, q_bl, not_true_eq_false, not_false_eq_true, Bool.false_or, Bool.true_or, Bool.or_true, Bool.true_and, Bool.false_and, Bool.and_true, Bool.and_false,  id_eq, lst_new, boolsD, intsD, Option.map_some, List.all_cons, List.all_nil, List.map_append,  q_lit, String.reduceEq, decide_true, decide_false, Bool.not_true, Bool.not_false, Bool.true_eq_false, Bool.false_eq_true, eq_self, i_isn, i_isi, i_isb, i_iss, i_ist, i_isr, t_non, t_int, t_bl, t_str, t_tup, t_fz, b_abs, b_lent, b_lenf, b_lens, b_list, b_tuple, b_int, b_intb, b_sum, b_min2, b_max2, b_all, b_any, b_gcd, b_dict, m_app, m_ext, m_popi, m_pop, x_tup, x_fz, List.map_cons, List.map_nil, List.length_cons, List.length_nil, List.replicate, List.append_nil, List.cons_append, List.nil_append, List.getElem?_cons_zero, List.getElem?_cons_succ, List.set_cons_zero, List.set_cons_succ, Option.some.injEq, D.int.injEq, D.bl.injEq, D.str.injEq, D.tup.injEq, D.ref.injEq, exists_eq_left', exists_eq_left, exists_eq_right, true_and, and_true, Nat.reduceSub, Nat.reduceAdd, Nat.zero_add, reduceCtorEq, false_implies, true_implies, decide_eq_true_eq, decide_eq_false_iff_not, forall_const, List.any_cons, List.any_nil, Bool.or_false, subTy, pl1_0, pn1, pl2_0, pl2_1, pn2, pl3_0, pl3_1, pl3_2, pn3, pl4_0, pl4_1, pl4_2, pl4_3, pn4, pl5_0, pl5_1, pl5_2, pl5_3, pl5_4, pn5, pl6_0, pl6_1, pl6_2, pl6_3, pl6_4, pl6_5, pn6, pl7_0, pl7_1, pl7_2, pl7_3, pl7_4, pl7_5, pl7_6, pn7, pl8_0, pl8_1, pl8_2, pl8_3, pl8_4, pl8_5, pl8_6, pl8_7, pn8, pl9_0, pl9_1, pl9_2, pl9_3, pl9_4, pl9_5, pl9_6, pl9_7, pl9_8, pn9, x_fd0, m1, m2]
  generalize hd0 : [D.tup [D.str (Str.ofString "plus"), FD (x + z)], D.tup [D.str (Str.ofString "minus"), FD (x + -z)], D.tup [D.str (Str.ofString "times"), FD (x * z)], D.tup [D.str (Str.ofString "less"), D.bl (decide (x < z))]] = d0
  have hd1 : ∀ it ∈ d0, ∃ w due, it = D.tup [.str w, due] ∧ Tells w (FD x) (FD z) due := by
    subst hd0
    intro it hi
    simp only [List.mem_cons, List.not_mem_nil, or_false] at hi
    rcases hi with rfl | rfl | rfl | rfl
    · exact ⟨_, _, rfl, tells_plus hx hz⟩
    · exact ⟨_, _, rfl, tells_minus hx hz⟩
    · exact ⟨_, _, rfl, tells_times hx hz⟩
    · exact ⟨_, _, rfl, tells_less hx hz⟩
  have l0 : d0.length = 4 := by rw [← hd0]; rfl
  refine ⟨fun h => ?_, fun h => ?_⟩
  · have hz0 : z ≠ 0 := fun e => by
      rw [e] at h
      exact absurd h (by decide)
    refine r__law_div hx hz hz0 ?_
    refine ⟨d0, lst_old lst_new, by rw [l0, most_eq]; decide, .inl ⟨_, lst_new, ?_⟩⟩
    refine walk_I (I _ _) (fun _ _ _ ⟨_, _, _, _, _, h, _⟩ => h) (fun it rest env S' hI N hN => step _ _ it rest env S' _ hI hN) (fun env S' hI => fin _ _ env S' _ hI rfl) _ _ _ ⟨_, none, none, rfl, ?_, lst_new, (hb3.mono (by omega)).gr ((Gr.one.trans Gr.one).trans Gr.one), fr.trans ((Gr.one.trans Gr.one).trans Gr.one).fr⟩
    intro it hi
    rcases List.mem_append.mp hi with hi | hi
    · exact hd1 it hi
    · rw [List.mem_singleton.mp hi]
      exact ⟨_, _, rfl, tells_over hx hz hz0⟩
  · refine ⟨by decide, d0, lst_old lst_new, by rw [l0, most_eq]; decide, .inl ⟨_, lst_new, ?_⟩⟩
    refine walk_I (I _ _) (fun _ _ _ ⟨_, _, _, _, _, h, _⟩ => h) (fun it rest env S' hI N hN => step _ _ it rest env S' _ hI hN) (fun env S' hI => fin _ _ env S' _ hI rfl) _ _ _ ⟨_, none, none, rfl, hd1, lst_new, (hb3.mono (by omega)).gr ((Gr.one.trans Gr.one).trans Gr.one), fr.trans ((Gr.one.trans Gr.one).trans Gr.one).fr⟩
end
end EvL
end
section
set_option Elab.async false
set_option linter.all false
set_option maxRecDepth 100000
set_option maxHeartbeats 400000
set_option exponentiation.threshold 20000
namespace EvL
open PySem (Str)
open Ev
theorem fd_int (a : Int) : FD (Rat.divInt a 1) = .tup [.int a, .int 1] := by
  have h := fd_pos (a := a) (b := 1) (by decide)
  rw [← h]
  have e : Nat.gcd a.natAbs (1 : Int).natAbs = 1 := Nat.gcd_one_right _
  rw [e]
  have e2 : a.fdiv ((1 : Nat) : Int) = a := by
    show a.fdiv 1 = a
    rw [Int.fdiv_eq_ediv_of_nonneg _ (by decide), Int.ediv_one]
  rw [e2]
  rfl
theorem mul_sz {i j : Int} {a b : Nat} (h1 : i.natAbs < 2 ^ a) (h2 : j.natAbs < 2 ^ b) : (i * j).natAbs < 2 ^ (a + b) := mul_lt h1 h2
section
variable {n : Nat} {S : Sto} {Q : Po} {E : Xo} {b k : Nat}
theorem r__law_made_right {nm : Bool} (hb : Box S b k) (hk : k + 20 ≤ 2 ^ 30) (q : ∀ S', Box S' b (k + 6) → Fr b S S' → Q (.bl true) S') : run sub TT (n + 9) i__law_made_right [.ref b, .bl nm] S Q E := by
  rw [run_eq at__law_made_right rfl]
  have m1 : (1 : Nat) ≤ most := by decide
  have m2 : (2 : Nat) ≤ most := by decide
  have m5 : (5 : Nat) ≤ most := by decide
  have m6 : (6 : Nat) ≤ most := by decide
  have hbl : b < S.length := let ⟨_, _, _, _, h, _⟩ := hb.ex; lst_lt h
  simp only [f__law_made_right, _law_made_right_1, wpS, wpE, wpEs, wpP, wpI, wpT, begin_, hxD, hxD.hxL, catch_, putAll, Ev.unpack, tgSem, wipe, o_add, o_sub, o_mul, o_div, o_mod, o_pow, o_tup, o_lst, o_rep, c_eq, c_ne, c_lt, c_le, c_gt, c_ge, c_isn, c_notn, c_isb, c_in, c_nin, q_int, q_bl, not_true_eq_false, not_false_eq_true, Bool.false_or, Bool.true_or, Bool.or_true, Bool.true_and, Bool.false_and, Bool.and_true, Bool.and_false,  id_eq, lst_new, boolsD, intsD, Option.map_some, List.all_cons, List.all_nil, List.map_append,  q_lit, String.reduceEq, decide_true, decide_false, Bool.not_true, Bool.not_false, Bool.true_eq_false, Bool.false_eq_true, eq_self, i_isn, i_isi, i_isb, i_iss, i_ist, i_isr, t_non, t_int, t_bl, t_str, t_tup, t_fz, b_abs, b_lent, b_lenf, b_lens, b_list, b_tuple, b_int, b_intb, b_sum, b_min2, b_max2, b_all, b_any, b_gcd, b_dict, m_app, m_ext, m_popi, m_pop, x_tup, x_fz, List.map_cons, List.map_nil, List.length_cons, List.length_nil, List.replicate, List.append_nil, List.cons_append, List.nil_append, List.getElem?_cons_zero, List.getElem?_cons_succ, List.set_cons_zero, List.set_cons_succ, Option.some.injEq, D.int.injEq, D.bl.injEq, D.str.injEq, D.tup.injEq, D.ref.injEq, exists_eq_left', exists_eq_left, exists_eq_right, true_and, and_true, Nat.reduceSub, Nat.reduceAdd, Nat.zero_add, reduceCtorEq, false_implies, true_implies, decide_eq_true_eq, decide_eq_false_iff_not, forall_const, List.any_cons, List.any_nil, Bool.or_false, subTy, pl1_0, pn1, pl2_0, pl2_1, pn2, pl3_0, pl3_1, pl3_2, pn3, pl4_0, pl4_1, pl4_2, pl4_3, pn4, pl5_0, pl5_1, pl5_2, pl5_3, pl5_4, pn5, pl6_0, pl6_1, pl6_2, pl6_3, pl6_4, pl6_5, pn6, pl7_0, pl7_1, pl7_2, pl7_3, pl7_4, pl7_5, pl7_6, pn7, pl8_0, pl8_1, pl8_2, pl8_3, pl8_4, pl8_5, pl8_6, pl8_7, pn8, pl9_0, pl9_1, pl9_2, pl9_3, pl9_4, pl9_5, pl9_6, pl9_7, pl9_8, pn9, m6]
  refine r__law_pick (hb.gr Gr.one) (by omega) lst_new (by omega) (by simp) (by simp) fun S1 w hw hb1 fr1 => ?_
  obtain ⟨c, rfl, hc0, hc1⟩ : ∃ c, w = .int c ∧ c ≠ 0 ∧ c.natAbs < 2 ^ 6 := by
    simp only [List.mem_cons, List.not_mem_nil, or_false] at hw
    rcases hw with rfl | rfl | rfl | rfl | rfl | rfl <;> exact ⟨_, rfl, by decide, by decide⟩
  simp only [_law_made_right_2, wpS, wpE, wpEs, wpP, wpI, wpT, begin_, hxD, hxD.hxL, catch_, putAll, Ev.unpack, tgSem, wipe, o_add, o_sub, o_mul, o_div, o_mod, o_pow, o_tup, o_lst, o_rep, c_eq, c_ne, c_lt, c_le, c_gt, c_ge, c_isn, c_notn, c_isb, c_in, c_nin, q_int, q_bl, not_true_eq_false, not_false_eq_true, Bool.false_or, Bool.true_or, Bool.or_true, Bool.true_and, Bool.false_and, Bool.and_true, Bool.and_false,  id_eq, lst_new, boolsD, intsD, Option.map_some, List.all_cons, List.all_nil, List.map_append,  q_lit, String.reduceEq, decide_true, decide_false, Bool.not_true, Bool.not_false, Bool.true_eq_false, Bool.false_eq_true, eq_self, i_isn, i_isi, i_isb, i_iss, i_ist, i_isr, t_non, t_int, t_bl, t_str, t_tup, t_fz, b_abs, b_lent, b_lenf, b_lens, b_list, b_tuple, b_int, b_intb, b_sum, b_min2, b_max2, b_all, b_any, b_gcd, b_dict, m_app, m_ext, m_popi, m_pop, x_tup, x_fz, List.map_cons, List.map_nil, List.length_cons, List.length_nil, List.replicate, List.append_nil, List.cons_append, List.nil_append, List.getElem?_cons_zero, List.getElem?_cons_succ, List.set_cons_zero, List.set_cons_succ, Option.some.injEq, D.int.injEq, D.bl.injEq, D.str.injEq, D.tup.injEq, D.ref.injEq, exists_eq_left', exists_eq_left, exists_eq_right, true_and, and_true, Nat.reduceSub, Nat.reduceAdd, Nat.zero_add, reduceCtorEq, false_implies, true_implies, decide_eq_true_eq, decide_eq_false_iff_not, forall_const, List.any_cons, List.any_nil, Bool.or_false, subTy, pl1_0, pn1, pl2_0, pl2_1, pn2, pl3_0, pl3_1, pl3_2, pn3, pl4_0, pl4_1, pl4_2, pl4_3, pn4, pl5_0, pl5_1, pl5_2, pl5_3, pl5_4, pn5, pl6_0, pl6_1, pl6_2, pl6_3, pl6_4, pl6_5, pn6, pl7_0, pl7_1, pl7_2, pl7_3, pl7_4, pl7_5, pl7_6, pn7, pl8_0, pl8_1, pl8_2, pl8_3, pl8_4, pl8_5, pl8_6, pl8_7, pn8, pl9_0, pl9_1, pl9_2, pl9_3, pl9_4, pl9_5, pl9_6, pl9_7, pl9_8, pn9]
  refine r__law_integer hb1 (by omega) fun S2 z hz hb2 fr2 => ?_
  have d1 : DivOk z 100 := div_ok (k := 10) (by decide) (by decide) (by decide)
  simp only [d1, wpS, wpE, wpEs, wpP, wpI, wpT, begin_, hxD, hxD.hxL, catch_, putAll, Ev.unpack, tgSem, wipe, o_add, o_sub, o_mul, o_div, o_mod, o_pow, o_tup, o_lst, o_rep, c_eq, c_ne, c_lt, c_le, c_gt, c_ge, c_isn, c_notn, c_isb, c_in, c_nin, q_int, q_bl, not_true_eq_false, not_false_eq_true, Bool.false_or, Bool.true_or, Bool.or_true, Bool.true_and, Bool.false_and, Bool.and_true, Bool.and_false,  id_eq, lst_new, boolsD, intsD, Option.map_some, List.all_cons, List.all_nil, List.map_append,  q_lit, String.reduceEq, decide_true, decide_false, Bool.not_true, Bool.not_false, Bool.true_eq_false, Bool.false_eq_true, eq_self, i_isn, i_isi, i_isb, i_iss, i_ist, i_isr, t_non, t_int, t_bl, t_str, t_tup, t_fz, b_abs, b_lent, b_lenf, b_lens, b_list, b_tuple, b_int, b_intb, b_sum, b_min2, b_max2, b_all, b_any, b_gcd, b_dict, m_app, m_ext, m_popi, m_pop, x_tup, x_fz, List.map_cons, List.map_nil, List.length_cons, List.length_nil, List.replicate, List.append_nil, List.cons_append, List.nil_append, List.getElem?_cons_zero, List.getElem?_cons_succ, List.set_cons_zero, List.set_cons_succ, Option.some.injEq, D.int.injEq, D.bl.injEq, D.str.injEq, D.tup.injEq, D.ref.injEq, exists_eq_left', exists_eq_left, exists_eq_right, true_and, and_true, Nat.reduceSub, Nat.reduceAdd, Nat.zero_add, reduceCtorEq, false_implies, true_implies, decide_eq_true_eq, decide_eq_false_iff_not, forall_const, List.any_cons, List.any_nil, Bool.or_false, subTy, pl1_0, pn1, pl2_0, pl2_1, pn2, pl3_0, pl3_1, pl3_2, pn3, pl4_0, pl4_1, pl4_2, pl4_3, pn4, pl5_0, pl5_1, pl5_2, pl5_3, pl5_4, pn5, pl6_0, pl6_1, pl6_2, pl6_3, pl6_4, pl6_5, pn6, pl7_0, pl7_1, pl7_2, pl7_3, pl7_4, pl7_5, pl7_6, pn7, pl8_0, pl8_1, pl8_2, pl8_3, pl8_4, pl8_5, pl8_6, pl8_7, pn8, pl9_0, pl9_1, pl9_2, pl9_3, pl9_4, pl9_5, pl9_6, pl9_7, pl9_8, pn9, m5]
  have le1 := fr1.le
  have le2 := fr2.le
  simp only [List.length_append, List.length_cons, List.length_nil] at le1
  refine r__law_pick (hb2.gr Gr.one) (by omega) lst_new (by omega) (by simp) (by simp) fun S3 w hw hb3 fr3 => ?_
  obtain ⟨t, rfl, ht⟩ : ∃ t, w = .int t ∧ t.natAbs < 2 ^ 70 := by
    simp only [List.mem_cons, List.not_mem_nil, or_false] at hw
    rcases hw with rfl | rfl | rfl | rfl | rfl
    · exact ⟨_, rfl, by decide⟩
    · exact ⟨_, rfl, by decide⟩
    · exact ⟨_, rfl, by decide⟩
    · exact ⟨_, rfl, by decide⟩
    · refine ⟨_, rfl, ?_⟩
      rw [Int.fdiv_eq_ediv_of_nonneg _ (by decide)]
      omega
  have k1 : MulOk t c := mul_ok ht hc1 (by decide)
  simp only [wpS, wpE, wpEs, wpP, wpI, wpT, begin_, hxD, hxD.hxL, catch_, putAll, Ev.unpack, tgSem, wipe, o_add, o_sub, o_mul, o_div, o_mod, o_pow, o_tup, o_lst, o_rep, c_eq, c_ne, c_lt, c_le, c_gt, c_ge, c_isn, c_notn, c_isb, c_in, c_nin, q_int, q_bl, not_true_eq_false, not_false_eq_true, Bool.false_or, Bool.true_or, Bool.or_true, Bool.true_and, Bool.false_and, Bool.and_true, Bool.and_false,  id_eq, lst_new, boolsD, intsD, Option.map_some, List.all_cons, List.all_nil, List.map_append,  q_lit, String.reduceEq, decide_true, decide_false, Bool.not_true, Bool.not_false, Bool.true_eq_false, Bool.false_eq_true, eq_self, i_isn, i_isi, i_isb, i_iss, i_ist, i_isr, t_non, t_int, t_bl, t_str, t_tup, t_fz, b_abs, b_lent, b_lenf, b_lens, b_list, b_tuple, b_int, b_intb, b_sum, b_min2, b_max2, b_all, b_any, b_gcd, b_dict, m_app, m_ext, m_popi, m_pop, x_tup, x_fz, List.map_cons, List.map_nil, List.length_cons, List.length_nil, List.replicate, List.append_nil, List.cons_append, List.nil_append, List.getElem?_cons_zero, List.getElem?_cons_succ, List.set_cons_zero, List.set_cons_succ, Option.some.injEq, D.int.injEq, D.bl.injEq, D.str.injEq, D.tup.injEq, D.ref.injEq, exists_eq_left', exists_eq_left, exists_eq_right, true_and, and_true, Nat.reduceSub, Nat.reduceAdd, Nat.zero_add, reduceCtorEq, false_implies, true_implies, decide_eq_true_eq, decide_eq_false_iff_not, forall_const, List.any_cons, List.any_nil, Bool.or_false, subTy, pl1_0, pn1, pl2_0, pl2_1, pn2, pl3_0, pl3_1, pl3_2, pn3, pl4_0, pl4_1, pl4_2, pl4_3, pn4, pl5_0, pl5_1, pl5_2, pl5_3, pl5_4, pn5, pl6_0, pl6_1, pl6_2, pl6_3, pl6_4, pl6_5, pn6, pl7_0, pl7_1, pl7_2, pl7_3, pl7_4, pl7_5, pl7_6, pn7, pl8_0, pl8_1, pl8_2, pl8_3, pl8_4, pl8_5, pl8_6, pl8_7, pn8, pl9_0, pl9_1, pl9_2, pl9_3, pl9_4, pl9_5, pl9_6, pl9_7, pl9_8, pn9, k1]
  have le3 := fr3.le
  simp only [List.length_append, List.length_cons, List.length_nil] at le3
  refine r__law_pick (hb3.gr Gr.one) (by omega) lst_new (by omega) (by simp) (by simp) fun S4 w hw hb4 fr4 => ?_
  obtain ⟨u, rfl, hu0, hu⟩ : ∃ c, w = .int c ∧ c ≠ 0 ∧ c.natAbs < 2 ^ 6 := by
    simp only [List.mem_cons, List.not_mem_nil, or_false] at hw
    rcases hw with rfl | rfl | rfl | rfl | rfl <;> exact ⟨_, rfl, by decide, by decide⟩
  have k2 : MulOk u c := mul_ok hu hc1 (by decide)
  simp only [wpS, wpE, wpEs, wpP, wpI, wpT, begin_, hxD, hxD.hxL, catch_, putAll, Ev.unpack, tgSem, wipe, o_add, o_sub, o_mul, o_div, o_mod, o_pow, o_tup, o_lst, o_rep, c_eq, c_ne, c_lt, c_le, c_gt, c_ge, c_isn, c_notn, c_isb, c_in, c_nin, q_int, q_bl, not_true_eq_false, not_false_eq_true, Bool.false_or, Bool.true_or, Bool.or_true, Bool.true_and, Bool.false_and, Bool.and_true, Bool.and_false,  id_eq, lst_new, boolsD, intsD, Option.map_some, List.all_cons, List.all_nil, List.map_append,  q_lit, String.reduceEq, decide_true, decide_false, Bool.not_true, Bool.not_false, Bool.true_eq_false, Bool.false_eq_true, eq_self, i_isn, i_isi, i_isb, i_iss, i_ist, i_isr, t_non, t_int, t_bl, t_str, t_tup, t_fz, b_abs, b_lent, b_lenf, b_lens, b_list, b_tuple, b_int, b_intb, b_sum, b_min2, b_max2, b_all, b_any, b_gcd, b_dict, m_app, m_ext, m_popi, m_pop, x_tup, x_fz, List.map_cons, List.map_nil, List.length_cons, List.length_nil, List.replicate, List.append_nil, List.cons_append, List.nil_append, List.getElem?_cons_zero, List.getElem?_cons_succ, List.set_cons_zero, List.set_cons_succ, Option.some.injEq, D.int.injEq, D.bl.injEq, D.str.injEq, D.tup.injEq, D.ref.injEq, exists_eq_left', exists_eq_left, exists_eq_right, true_and, and_true, Nat.reduceSub, Nat.reduceAdd, Nat.zero_add, reduceCtorEq, false_implies, true_implies, decide_eq_true_eq, decide_eq_false_iff_not, forall_const, List.any_cons, List.any_nil, Bool.or_false, subTy, pl1_0, pn1, pl2_0, pl2_1, pn2, pl3_0, pl3_1, pl3_2, pn3, pl4_0, pl4_1, pl4_2, pl4_3, pn4, pl5_0, pl5_1, pl5_2, pl5_3, pl5_4, pn5, pl6_0, pl6_1, pl6_2, pl6_3, pl6_4, pl6_5, pn6, pl7_0, pl7_1, pl7_2, pl7_3, pl7_4, pl7_5, pl7_6, pn7, pl8_0, pl8_1, pl8_2, pl8_3, pl8_4, pl8_5, pl8_6, pl8_7, pn8, pl9_0, pl9_1, pl9_2, pl9_3, pl9_4, pl9_5, pl9_6, pl9_7, pl9_8, pn9, k2]
  have fr := (((Gr.one.fr.trans fr1).trans fr2).trans (Gr.one.fr.trans fr3)).trans (Gr.one.fr.trans fr4)
  have s1 := mul_lt ht hc1
  have s2 := mul_lt hu hc1
  have s3 : u * c ≠ 0 := Int.mul_ne_zero hu0 hc0
  generalize u * c = lo at s2 s3 ⊢
  generalize t * c = hi at s1 ⊢
  clear hw k1 k2 d1 fr1 fr2 fr3 fr4 hb1 hb2 hb3
  simp only [_law_made_right_3, wpS, wpE, wpEs, wpP, wpI, wpT, begin_, hxD, hxD.hxL, catch_, putAll, Ev.unpack, tgSem, wipe, o_add, o_sub, o_mul, o_div, o_mod, o_pow, o_tup, o_lst, o_rep, c_eq, c_ne, c_lt, c_le, c_gt, c_ge, c_isn, c_notn, c_isb, c_in, c_nin, q_int, q_bl, not_true_eq_false, not_false_eq_true, Bool.false_or, Bool.true_or, Bool.or_true, Bool.true_and, Bool.false_and, Bool.and_true, Bool.and_false,  id_eq, lst_new, boolsD, intsD, Option.map_some, List.all_cons, List.all_nil, List.map_append,  q_lit, String.reduceEq, decide_true, decide_false, Bool.not_true, Bool.not_false, Bool.true_eq_false, Bool.false_eq_true, eq_self, i_isn, i_isi, i_isb, i_iss, i_ist, i_isr, t_non, t_int, t_bl, t_str, t_tup, t_fz, b_abs, b_lent, b_lenf, b_lens, b_list, b_tuple, b_int, b_intb, b_sum, b_min2, b_max2, b_all, b_any, b_gcd, b_dict, m_app, m_ext, m_popi, m_pop, x_tup, x_fz, List.map_cons, List.map_nil, List.length_cons, List.length_nil, List.replicate, List.append_nil, List.cons_append, List.nil_append, List.getElem?_cons_zero, List.getElem?_cons_succ, List.set_cons_zero, List.set_cons_succ, Option.some.injEq, D.int.injEq, D.bl.injEq, D.str.injEq, D.tup.injEq, D.ref.injEq, exists_eq_left', exists_eq_left, exists_eq_right, true_and, and_true, Nat.reduceSub, Nat.reduceAdd, Nat.zero_add, reduceCtorEq, false_implies, true_implies, decide_eq_true_eq, decide_eq_false_iff_not, forall_const, List.any_cons, List.any_nil, Bool.or_false, subTy, pl1_0, pn1, pl2_0, pl2_1, pn2, pl3_0, pl3_1, pl3_2, pn3, pl4_0, pl4_1, pl4_2, pl4_3, pn4, pl5_0, pl5_1, pl5_2, pl5_3, pl5_4, pn5, pl6_0, pl6_1, pl6_2, pl6_3, pl6_4, pl6_5, pn6, pl7_0, pl7_1, pl7_2, pl7_3, pl7_4, pl7_5, pl7_6, pn7, pl8_0, pl8_1, pl8_2, pl8_3, pl8_4, pl8_5, pl8_6, pl8_7, pn8, pl9_0, pl9_1, pl9_2, pl9_3, pl9_4, pl9_5, pl9_6, pl9_7, pl9_8, pn9]
  refine r__law_fr s3 (lt_up s1 (by decide)) (lt_up s2 (by decide)) ?_
  simp only [_law_made_right_4, wpS, wpE, wpEs, wpP, wpI, wpT, begin_, hxD, hxD.hxL, catch_, putAll, Ev.unpack, tgSem, wipe, o_add, o_sub, o_mul, o_div, o_mod, o_pow, o_tup, o_lst, o_rep, c_eq, c_ne, c_lt, c_le, c_gt, c_ge, c_isn, c_notn, c_isb, c_in, c_nin, q_int, q_bl, not_true_eq_false, not_false_eq_true, Bool.false_or, Bool.true_or, Bool.or_true, Bool.true_and, Bool.false_and, Bool.and_true, Bool.and_false,  id_eq, lst_new, boolsD, intsD, Option.map_some, List.all_cons, List.all_nil, List.map_append,  q_lit, String.reduceEq, decide_true, decide_false, Bool.not_true, Bool.not_false, Bool.true_eq_false, Bool.false_eq_true, eq_self, i_isn, i_isi, i_isb, i_iss, i_ist, i_isr, t_non, t_int, t_bl, t_str, t_tup, t_fz, b_abs, b_lent, b_lenf, b_lens, b_list, b_tuple, b_int, b_intb, b_sum, b_min2, b_max2, b_all, b_any, b_gcd, b_dict, m_app, m_ext, m_popi, m_pop, x_tup, x_fz, List.map_cons, List.map_nil, List.length_cons, List.length_nil, List.replicate, List.append_nil, List.cons_append, List.nil_append, List.getElem?_cons_zero, List.getElem?_cons_succ, List.set_cons_zero, List.set_cons_succ, Option.some.injEq, D.int.injEq, D.bl.injEq, D.str.injEq, D.tup.injEq, D.ref.injEq, exists_eq_left', exists_eq_left, exists_eq_right, true_and, and_true, Nat.reduceSub, Nat.reduceAdd, Nat.zero_add, reduceCtorEq, false_implies, true_implies, decide_eq_true_eq, decide_eq_false_iff_not, forall_const, List.any_cons, List.any_nil, Bool.or_false, subTy, pl1_0, pn1, pl2_0, pl2_1, pn2, pl3_0, pl3_1, pl3_2, pn3, pl4_0, pl4_1, pl4_2, pl4_3, pn4, pl5_0, pl5_1, pl5_2, pl5_3, pl5_4, pn5, pl6_0, pl6_1, pl6_2, pl6_3, pl6_4, pl6_5, pn6, pl7_0, pl7_1, pl7_2, pl7_3, pl7_4, pl7_5, pl7_6, pn7, pl8_0, pl8_1, pl8_2, pl8_3, pl8_4, pl8_5, pl8_6, pl8_7, pn8, pl9_0, pl9_1, pl9_2, pl9_3, pl9_4, pl9_5, pl9_6, pl9_7, pl9_8, pn9, m2]
  refine met_fraction lst_new ⟨_, rfl⟩ ⟨_, rfl⟩ (fun h => by cases h) (fun _ h => by rcases h with h | h; cases h; exact absurd (D.int.inj h) s3) (fun a c ha hc h0 => ?_)
  cases ha
  cases hc
  refine ⟨lt_up s2 (by decide), fun S5 r5 g5 l5 t5 => ?_⟩
  refine met_fraction lst_new ⟨_, rfl⟩ ⟨_, rfl⟩ (fun h => by cases h) (fun _ h => by rcases h with h | h <;> cases h) (fun a c ha hc h0 => ?_)
  cases ha
  cases hc
  refine ⟨by decide, fun S6 r6 g6 l6 t6 => ?_⟩
  rw [fd_int] at t6
  generalize hA : S6 ++ [Ob.lst [D.ref r5, D.ref r6]] = A
  generalize hB : A ++ [Ob.lst [D.str (Str.ofString "told"), FD (Rat.divInt hi lo)]] = B
  generalize hC : B ++ [Ob.lst [D.str (Str.ofString "told"), D.tup [D.int lo, D.int 1]]] = C
  generalize hD : C ++ [Ob.lst [D.ref A.length, D.ref B.length]] = DD
  have gA : Gr S6 A := hA ▸ Gr.one
  have gB : Gr A B := hB ▸ Gr.one
  have gC : Gr B C := hC ▸ Gr.one
  have gD : Gr C DD := hD ▸ Gr.one
  have gBD := gC.trans gD
  have gAD := gB.trans gBD
  have g0 := (Gr.one.trans g5).trans (Gr.one.trans g6)
  have le4 := fr.le
  have le0 := gr_le g0
  have le5 := gr_le (Gr.one.trans g5)
  have leA := gr_le gA
  have leB := gr_le gB
  have leC := gr_le gC
  simp only [List.length_append, List.length_cons, List.length_nil] at l5 l6
  have k1 : lstAt DD S6.length = some [.ref r5, .ref r6] := gAD.lst (hA ▸ lst_new)
  have k2 : lstAt DD C.length = some [.ref A.length, .ref B.length] := hD ▸ lst_new
  have k3 := (gA.trans gAD).lst ((Gr.one.trans g6).lst t5)
  have k4 := (gA.trans gAD).lst t6
  have k5 : lstAt DD A.length = some [.str (Str.ofString "told"), FD (Rat.divInt hi lo)] := gBD.lst (hB ▸ lst_new)
  have k6 : lstAt DD B.length = some [.str (Str.ofString "told"), D.tup [D.int lo, D.int 1]] := gD.lst (hC ▸ lst_new)
  have c1 : Sm b DD 2 (.ref r5) (.ref A.length) := .lst (by omega) (by omega) k3 k5 (by simp) (.cons (sm_lit (by decide)) (.cons sm_fd .nil))
  have c2 : Sm b DD 2 (.ref r6) (.ref B.length) := .lst (by omega) (by omega) k4 k6 (by simp) (.cons (sm_lit (by decide)) (.cons (.tup (by simp) (.cons (.int _) (.cons (.int _) .nil))) .nil))
  refine r__law_same (b := b) 3 _ (by omega) (.lst (by omega) (by omega) k1 k2 (by simp) (.cons c1 (.cons c2 .nil))) fun S7 g7 => ?_
  have gg := (g0.trans gA).trans (gAD.trans g7)
  have kg : kwG D.non (exLen .nil) (0 + 1) [0] [] [FD (Rat.divInt hi lo)] = [FD (Rat.divInt hi lo)] := rfl
  have final : ∀ S8, Gr S7 S8 → run sub TT (n + 8) 25 [.bl (isFr (FD (Rat.divInt hi lo))), .bl true] S8 Q E := fun S8 g8 => by
    rw [isFr_fd]
    exact r__law_same (b := b) 0 _ (by omega) (.bl true) fun S9 g9 => q _ ((hb4.mono (by omega)).gr ((gg.trans g8).trans g9)) (fr.trans ((gg.trans g8).trans g9).fr)
  simp only [_law_made_right_5, wpS, wpE, wpEs, wpP, wpI, wpT, begin_, hxD, hxD.hxL, catch_, putAll, Ev.unpack, tgSem, wipe, o_add, o_sub, o_mul, o_div, o_mod, o_pow, o_tup, o_lst, o_rep, c_eq, c_ne, c_lt, c_le, c_gt, c_ge, c_isn, c_notn, c_isb, c_in, c_nin, q_int, q_bl, not_true_eq_false, not_false_eq_true, Bool.false_or, Bool.true_or, Bool.or_true, Bool.true_and, Bool.false_and, Bool.and_true, Bool.and_false,  id_eq, lst_new, boolsD, intsD, Option.map_some, List.all_cons, List.all_nil, List.map_append,  q_lit, String.reduceEq, decide_true, decide_false, Bool.not_true, Bool.not_false, Bool.true_eq_false, Bool.false_eq_true, eq_self, i_isn, i_isi, i_isb, i_iss, i_ist, i_isr, t_non, t_int, t_bl, t_str, t_tup, t_fz, b_abs, b_lent, b_lenf, b_lens, b_list, b_tuple, b_int, b_intb, b_sum, b_min2, b_max2, b_all, b_any, b_gcd, b_dict, m_app, m_ext, m_popi, m_pop, x_tup, x_fz, List.map_cons, List.map_nil, List.length_cons, List.length_nil, List.replicate, List.append_nil, List.cons_append, List.nil_append, List.getElem?_cons_zero, List.getElem?_cons_succ, List.set_cons_zero, List.set_cons_succ, Option.some.injEq, D.int.injEq, D.bl.injEq, D.str.injEq, D.tup.injEq, D.ref.injEq, exists_eq_left', exists_eq_left, exists_eq_right, true_and, and_true, Nat.reduceSub, Nat.reduceAdd, Nat.zero_add, reduceCtorEq, false_implies, true_implies, decide_eq_true_eq, decide_eq_false_iff_not, forall_const, List.any_cons, List.any_nil, Bool.or_false, subTy, pl1_0, pn1, pl2_0, pl2_1, pn2, pl3_0, pl3_1, pl3_2, pn3, pl4_0, pl4_1, pl4_2, pl4_3, pn4, pl5_0, pl5_1, pl5_2, pl5_3, pl5_4, pn5, pl6_0, pl6_1, pl6_2, pl6_3, pl6_4, pl6_5, pn6, pl7_0, pl7_1, pl7_2, pl7_3, pl7_4, pl7_5, pl7_6, pn7, pl8_0, pl8_1, pl8_2, pl8_3, pl8_4, pl8_5, pl8_6, pl8_7, pn8, pl9_0, pl9_1, pl9_2, pl9_3, pl9_4, pl9_5, pl9_6, pl9_7, pl9_8, pn9, kg]
  cases nm <;> simp only [wpS, wpE, wpEs, wpP, wpI, wpT, begin_, hxD, hxD.hxL, catch_, putAll, Ev.unpack, tgSem, wipe, o_add, o_sub, o_mul, o_div, o_mod, o_pow, o_tup, o_lst, o_rep, c_eq, c_ne, c_lt, c_le, c_gt, c_ge, c_isn, c_notn, c_isb, c_in, c_nin, q_int, q_bl, not_true_eq_false, not_false_eq_true, Bool.false_or, Bool.true_or, Bool.or_true, Bool.true_and, Bool.false_and, Bool.and_true, Bool.and_false,  id_eq, lst_new, boolsD, intsD, Option.map_some, List.all_cons, List.all_nil, List.map_append,  q_lit, String.reduceEq, decide_true, decide_false, Bool.not_true, Bool.not_false, Bool.true_eq_false, Bool.false_eq_true, eq_self, i_isn, i_isi, i_isb, i_iss, i_ist, i_isr, t_non, t_int, t_bl, t_str, t_tup, t_fz, b_abs, b_lent, b_lenf, b_lens, b_list, b_tuple, b_int, b_intb, b_sum, b_min2, b_max2, b_all, b_any, b_gcd, b_dict, m_app, m_ext, m_popi, m_pop, x_tup, x_fz, List.map_cons, List.map_nil, List.length_cons, List.length_nil, List.replicate, List.append_nil, List.cons_append, List.nil_append, List.getElem?_cons_zero, List.getElem?_cons_succ, List.set_cons_zero, List.set_cons_succ, Option.some.injEq, D.int.injEq, D.bl.injEq, D.str.injEq, D.tup.injEq, D.ref.injEq, exists_eq_left', exists_eq_left, exists_eq_right, true_and, and_true, Nat.reduceSub, Nat.reduceAdd, Nat.zero_add, reduceCtorEq, false_implies, true_implies, decide_eq_true_eq, decide_eq_false_iff_not, forall_const, List.any_cons, List.any_nil, Bool.or_false, subTy, pl1_0, pn1, pl2_0, pl2_1, pn2, pl3_0, pl3_1, pl3_2, pn3, pl4_0, pl4_1, pl4_2, pl4_3, pn4, pl5_0, pl5_1, pl5_2, pl5_3, pl5_4, pn5, pl6_0, pl6_1, pl6_2, pl6_3, pl6_4, pl6_5, pn6, pl7_0, pl7_1, pl7_2, pl7_3, pl7_4, pl7_5, pl7_6, pn7, pl8_0, pl8_1, pl8_2, pl8_3, pl8_4, pl8_5, pl8_6, pl8_7, pn8, pl9_0, pl9_1, pl9_2, pl9_3, pl9_4, pl9_5, pl9_6, pl9_7, pl9_8, pn9] <;> exact r_is_fraction wf_fd final
end
end EvL
end
section
set_option Elab.async false
set_option linter.all false
set_option maxRecDepth 100000
set_option maxHeartbeats 400000
set_option exponentiation.threshold 20000
namespace EvL
open PySem (Str)
open Ev
theorem sq_num (B : Rat) : (B * B).num = B.num * B.num ∧ (B * B).den = B.den * B.den := by
  have h : Nat.Coprime (B.num * B.num).natAbs (B.den * B.den) := by
    rw [Int.natAbs_mul]
    exact Nat.Coprime.mul_right (Nat.Coprime.mul_left B.reduced B.reduced) (Nat.Coprime.mul_left B.reduced B.reduced)
  have e : B * B = ⟨B.num * B.num, B.den * B.den, Nat.mul_ne_zero B.den_nz B.den_nz, h⟩ := by
    rw [← mul_eq, Rat.mk_eq_divInt, Int.natCast_mul]
  rw [e]
  exact ⟨rfl, rfl⟩
theorem rootV_sq {B : Rat} (h : 0 ≤ B.num) : rootV (B * B) = FD B := by
  obtain ⟨h1, h2⟩ := sq_num B
  obtain ⟨a, ha⟩ : ∃ a : Nat, B.num = (a : Int) := ⟨B.num.toNat, by omega⟩
  have e : (B.num * B.num).toNat = a * a := by
    rw [ha, ← Int.natCast_mul, Int.toNat_natCast]
  have h0 : ¬ B.num * B.num < 0 := by
    rw [ha, ← Int.natCast_mul]
    omega
  unfold rootV
  rw [h1, h2, e, isq_sq, isq_sq, if_neg h0, if_pos ⟨rfl, rfl⟩]
  unfold FD
  rw [ha]
theorem irr : ∀ (m k : Nat), 2 * (m * m) = k * k → m = 0 := by
  intro m
  induction m using Nat.strongRecOn with
  | _ m ih =>
    intro k h
    have hk : k % 2 = 0 := by
      have : (k * k) % 2 = 0 := by omega
      rw [Nat.mul_mod] at this
      rcases Nat.mod_two_eq_zero_or_one k with e | e
      · exact e
      · rw [e] at this
        cases this
    obtain ⟨j, rfl⟩ : ∃ j, k = 2 * j := ⟨k / 2, by omega⟩
    have h2 : 2 * (j * j) = m * m := by
      have : 2 * j * (2 * j) = 4 * (j * j) := by
        rw [Nat.mul_mul_mul_comm]
      omega
    rcases Nat.lt_or_ge j m with g | g
    · have := ih j g m h2
      subst this
      rcases Nat.mul_eq_zero.mp (show m * m = 0 by omega) with e | e <;> exact e
    · have := Nat.mul_le_mul g g
      rcases Nat.mul_eq_zero.mp (show m * m = 0 by omega) with e | e <;> exact e
theorem rootV_two {B : Rat} (h : 0 < (B * B).num) : rootV (Rat.divInt (2 * (B * B).num) ((B * B).den : Int)) = .non := by
  obtain ⟨h1, h2⟩ := sq_num B
  have hx := Rat.num_divInt_den (Rat.divInt (2 * (B * B).num) ((B * B).den : Int))
  generalize hX : Rat.divInt (2 * (B * B).num) ((B * B).den : Int) = x at hx ⊢
  rw [← hX, Rat.divInt_eq_divInt_iff (den_ne _) (den_ne _), hX, h1, h2] at hx
  rw [h1] at h
  unfold rootV
  split
  · rfl
  split
  · rename_i n0 hs
    exfalso
    obtain ⟨s1, s2⟩ := hs
    generalize isq x.num.toNat = p at s1
    generalize isq x.den = r at s2
    have e1 : x.num = (p * p : Nat) := by omega
    have e2 : B.num * B.num = (B.num.natAbs * B.num.natAbs : Nat) := by
      rw [Int.natCast_mul, Int.natAbs_mul_self']
    rw [e1, e2, ← s2] at hx
    generalize B.num.natAbs = a at hx e2
    generalize hb : B.den = b at hx
    have e3 : (p * p) * (b * b) = 2 * (a * a) * (r * r) := by exact_mod_cast hx
    have e4 : 2 * ((a * r) * (a * r)) = (p * b) * (p * b) := by
      rw [Nat.mul_mul_mul_comm a r a r, Nat.mul_mul_mul_comm p b p b, e3]
      exact (Nat.mul_assoc _ _ _).symm
    have := irr _ _ e4
    rcases Nat.mul_eq_zero.mp this with e | e
    · subst e
      rw [e2] at h
      exact absurd h (by decide)
    · subst e
      have := x.den_nz
      omega
  · rfl
theorem rootV_zero : rootV 0 = FD 0 := rfl
theorem sq_nn (B : Rat) : 0 ≤ (B * B).num := by
  rw [(sq_num B).1, ← Int.natAbs_mul_self']
  exact Int.mul_nonneg (by omega) (by omega)
theorem rootV_neg {x : Rat} (h : 0 < x.num) : rootV (-x) = .non := by
  unfold rootV
  rw [if_pos (by rw [Rat.neg_num]; omega)]
/-- a thing and its root -/
def Rooted (it : D) : Prop := ∃ x, it = .tup [FD x, rootV x] ∧ Sz 4000 x
theorem rootV_sm {b : Nat} {S : Sto} {x : Rat} : Sm b S 1 (rootV x) (rootV x) := by
  unfold rootV
  split
  · exact .non
  split
  · exact .tup (by simp) (.cons (.int _) (.cons (.int _) .nil))
  · exact .non
theorem rooted1 : Rooted (.tup [.tup [.int 4, .int 9], .tup [.int 2, .int 3]]) := ⟨⟨4, 9, by decide, by decide⟩, rfl, by decide, by decide⟩
theorem rooted2 : Rooted (.tup [.tup [.int 2, .int 1], .non]) := ⟨⟨2, 1, by decide, by decide⟩, rfl, by decide, by decide⟩
theorem rooted3 : Rooted (.tup [.tup [.int 0, .int 1], .tup [.int 0, .int 1]]) := ⟨⟨0, 1, by decide, by decide⟩, rfl, by decide, by decide⟩
theorem rooted4 : Rooted (.tup [.tup [.int (-1), .int 4], .non]) := ⟨⟨-1, 4, by decide, by decide⟩, rfl, by decide, by decide⟩
theorem rooted5 : Rooted (.tup [.tup [.int 1, .int 3], .non]) := ⟨⟨1, 3, by decide, by decide⟩, rfl, by decide, by decide⟩
theorem rooted6 : Rooted (.tup [.tup [.int 8, .int 1], .non]) := ⟨⟨8, 1, by decide, by decide⟩, rfl, by decide, by decide⟩
theorem rooted7 : Rooted (.tup [.tup [.int 49, .int 1], .tup [.int 7, .int 1]]) := ⟨⟨49, 1, by decide, by decide⟩, rfl, by decide, by decide⟩
end EvL
end
section
set_option Elab.async false
set_option linter.all false
set_option maxRecDepth 100000
set_option maxHeartbeats 400000
set_option exponentiation.threshold 20000
namespace EvL
open PySem (Str)
open Ev
theorem mem_cut {α : Type} {xs : List α} {lo hi : Option Int} {x : α} (h : x ∈ cut xs lo hi) : x ∈ xs := List.mem_of_mem_drop (List.mem_of_mem_take h)
section
variable {n : Nat} {S : Sto} {Q : Po} {E : Xo} {b k : Nat}
theorem size_of {xs : List D} {w : D} (h : w ∈ [D.int 10, D.int 1000, D.int (10 ^ Int.toNat 9)]) : ∃ m : Int, w = .int m ∧ 0 < m ∧ m ≤ 2 ^ 30 := by
  simp only [List.mem_cons, List.not_mem_nil, or_false] at h
  rcases h with rfl | rfl | rfl <;> exact ⟨_, rfl, by decide, by decide⟩
theorem r__law_roots_right {nm : Bool} (hb : Box S b k) (hk : k + 40 ≤ 2 ^ 30) (q : ∀ S', Box S' b (k + 15) → Fr b S S' → Q (.bl true) S') : run sub TT (n + 9) i__law_roots_right [.ref b, .bl nm] S Q E := by
  rw [run_eq at__law_roots_right rfl]
  have m1 : (1 : Nat) ≤ most := by decide
  have m2 : (2 : Nat) ≤ most := by decide
  have m3 : (3 : Nat) ≤ most := by decide
  have m6 : (6 : Nat) ≤ most := by decide
  have p1 : PowOk 10 9 := ⟨by decide, by decide, by decide⟩
  have hbl : b < S.length := let ⟨_, _, _, _, h, _⟩ := hb.ex; lst_lt h
  simp only [f__law_roots_right, _law_roots_right_1, wpS, wpE, wpEs, wpP, wpI, wpT, begin_, hxD, hxD.hxL, catch_, putAll, Ev.unpack, tgSem, wipe, o_add, o_sub, o_mul, o_div, o_mod, o_pow, o_tup, o_lst, o_rep, c_eq, c_ne, c_lt, c_le, c_gt, c_ge, c_isn, c_notn, c_isb, c_in, c_nin, q_int, q_bl, not_true_eq_false, not_false_eq_true, Bool.false_or, Bool.true_or, Bool.or_true, Bool.true_and, Bool.false_and, Bool.and_true, Bool.and_false,  id_eq, lst_new, boolsD, intsD, Option.map_some, List.all_cons, List.all_nil, List.map_append,  q_lit, String.reduceEq, decide_true, decide_false, Bool.not_true, Bool.not_false, Bool.true_eq_false, Bool.false_eq_true, eq_self, i_isn, i_isi, i_isb, i_iss, i_ist, i_isr, t_non, t_int, t_bl, t_str, t_tup, t_fz, b_abs, b_lent, b_lenf, b_lens, b_list, b_tuple, b_int, b_intb, b_sum, b_min2, b_max2, b_all, b_any, b_gcd, b_dict, m_app, m_ext, m_popi, m_pop, x_tup, x_fz, List.map_cons, List.map_nil, List.length_cons, List.length_nil, List.replicate, List.append_nil, List.cons_append, List.nil_append, List.getElem?_cons_zero, List.getElem?_cons_succ, List.set_cons_zero, List.set_cons_succ, Option.some.injEq, D.int.injEq, D.bl.injEq, D.str.injEq, D.tup.injEq, D.ref.injEq, exists_eq_left', exists_eq_left, exists_eq_right, true_and, and_true, Nat.reduceSub, Nat.reduceAdd, Nat.zero_add, reduceCtorEq, false_implies, true_implies, decide_eq_true_eq, decide_eq_false_iff_not, forall_const, List.any_cons, List.any_nil, Bool.or_false, subTy, pl1_0, pn1, pl2_0, pl2_1, pn2, pl3_0, pl3_1, pl3_2, pn3, pl4_0, pl4_1, pl4_2, pl4_3, pn4, pl5_0, pl5_1, pl5_2, pl5_3, pl5_4, pn5, pl6_0, pl6_1, pl6_2, pl6_3, pl6_4, pl6_5, pn6, pl7_0, pl7_1, pl7_2, pl7_3, pl7_4, pl7_5, pl7_6, pn7, pl8_0, pl8_1, pl8_2, pl8_3, pl8_4, pl8_5, pl8_6, pl8_7, pn8, pl9_0, pl9_1, pl9_2, pl9_3, pl9_4, pl9_5, pl9_6, pl9_7, pl9_8, pn9, m3, p1]
  simp only [_law_roots_right_2, wpS, wpE, wpEs, wpP, wpI, wpT, begin_, hxD, hxD.hxL, catch_, putAll, Ev.unpack, tgSem, wipe, o_add, o_sub, o_mul, o_div, o_mod, o_pow, o_tup, o_lst, o_rep, c_eq, c_ne, c_lt, c_le, c_gt, c_ge, c_isn, c_notn, c_isb, c_in, c_nin, q_int, q_bl, not_true_eq_false, not_false_eq_true, Bool.false_or, Bool.true_or, Bool.or_true, Bool.true_and, Bool.false_and, Bool.and_true, Bool.and_false,  id_eq, lst_new, boolsD, intsD, Option.map_some, List.all_cons, List.all_nil, List.map_append,  q_lit, String.reduceEq, decide_true, decide_false, Bool.not_true, Bool.not_false, Bool.true_eq_false, Bool.false_eq_true, eq_self, i_isn, i_isi, i_isb, i_iss, i_ist, i_isr, t_non, t_int, t_bl, t_str, t_tup, t_fz, b_abs, b_lent, b_lenf, b_lens, b_list, b_tuple, b_int, b_intb, b_sum, b_min2, b_max2, b_all, b_any, b_gcd, b_dict, m_app, m_ext, m_popi, m_pop, x_tup, x_fz, List.map_cons, List.map_nil, List.length_cons, List.length_nil, List.replicate, List.append_nil, List.cons_append, List.nil_append, List.getElem?_cons_zero, List.getElem?_cons_succ, List.set_cons_zero, List.set_cons_succ, Option.some.injEq, D.int.injEq, D.bl.injEq, D.str.injEq, D.tup.injEq, D.ref.injEq, exists_eq_left', exists_eq_left, exists_eq_right, true_and, and_true, Nat.reduceSub, Nat.reduceAdd, Nat.zero_add, reduceCtorEq, false_implies, true_implies, decide_eq_true_eq, decide_eq_false_iff_not, forall_const, List.any_cons, List.any_nil, Bool.or_false, subTy, pl1_0, pn1, pl2_0, pl2_1, pn2, pl3_0, pl3_1, pl3_2, pn3, pl4_0, pl4_1, pl4_2, pl4_3, pn4, pl5_0, pl5_1, pl5_2, pl5_3, pl5_4, pn5, pl6_0, pl6_1, pl6_2, pl6_3, pl6_4, pl6_5, pn6, pl7_0, pl7_1, pl7_2, pl7_3, pl7_4, pl7_5, pl7_6, pn7, pl8_0, pl8_1, pl8_2, pl8_3, pl8_4, pl8_5, pl8_6, pl8_7, pn8, pl9_0, pl9_1, pl9_2, pl9_3, pl9_4, pl9_5, pl9_6, pl9_7, pl9_8, pn9]
  refine r__law_pick (hb.gr Gr.one) (by omega) lst_new (by omega) (by simp) (by simp) fun S1 w hw hb1 fr1 => ?_
  obtain ⟨z1, rfl, z10, z11⟩ := size_of (xs := []) hw
  refine r__law_take hb1 (by omega) z10 (by omega) fun S2 u u0 u1 hb2 fr2 => ?_
  have hs := (fr1.trans fr2).lst (by omega) (lst_new (S := S) (xs := [D.int 10, D.int 1000, D.int (10 ^ Int.toNat 9)]))
  refine r__law_pick hb2 (by omega) hs (by omega) (by simp) (by simp) fun S3 w hw hb3 fr3 => ?_
  obtain ⟨z2, rfl, z20, z21⟩ := size_of (xs := []) hw
  refine r__law_take hb3 (by omega) z20 (by omega) fun S4 v v0 v1 hb4 fr4 => ?_
  have fr := ((((Gr.one (o := Ob.lst [D.int 10, D.int 1000, D.int (10 ^ Int.toNat 9)])).fr.trans fr1).trans fr2).trans fr3).trans fr4
  clear hb1 hb2 hb3 fr1 fr2 fr3 fr4 hs hw
  have a1 : u.natAbs < 2 ^ 32 := by omega
  have a2 : (1 + v).natAbs < 2 ^ 32 := by omega
  have a3 : 1 + v ≠ 0 := by omega
  rw [o_add]
  refine r__law_fr a3 (lt_up a1 (by decide)) (lt_up a2 (by decide)) ?_
  have sB := sz_divInt a1 a2 a3
  have nB : 0 ≤ (Rat.divInt u (1 + v)).num := by
    rw [Rat.num_divInt, Int.sign_eq_one_of_pos (show 0 < 1 + v by omega), Int.one_mul]
    exact Int.ediv_nonneg u0 (by omega)
  generalize Rat.divInt u (1 + v) = B at sB nB ⊢
  simp only [wpS, wpE, wpEs, wpP, wpI, wpT, begin_, hxD, hxD.hxL, catch_, putAll, Ev.unpack, tgSem, wipe, o_add, o_sub, o_mul, o_div, o_mod, o_pow, o_tup, o_lst, o_rep, c_eq, c_ne, c_lt, c_le, c_gt, c_ge, c_isn, c_notn, c_isb, c_in, c_nin, q_int, q_bl, not_true_eq_false, not_false_eq_true, Bool.false_or, Bool.true_or, Bool.or_true, Bool.true_and, Bool.false_and, Bool.and_true, Bool.and_false,  id_eq, lst_new, boolsD, intsD, Option.map_some, List.all_cons, List.all_nil, List.map_append,  q_lit, String.reduceEq, decide_true, decide_false, Bool.not_true, Bool.not_false, Bool.true_eq_false, Bool.false_eq_true, eq_self, i_isn, i_isi, i_isb, i_iss, i_ist, i_isr, t_non, t_int, t_bl, t_str, t_tup, t_fz, b_abs, b_lent, b_lenf, b_lens, b_list, b_tuple, b_int, b_intb, b_sum, b_min2, b_max2, b_all, b_any, b_gcd, b_dict, m_app, m_ext, m_popi, m_pop, x_tup, x_fz, List.map_cons, List.map_nil, List.length_cons, List.length_nil, List.replicate, List.append_nil, List.cons_append, List.nil_append, List.getElem?_cons_zero, List.getElem?_cons_succ, List.set_cons_zero, List.set_cons_succ, Option.some.injEq, D.int.injEq, D.bl.injEq, D.str.injEq, D.tup.injEq, D.ref.injEq, exists_eq_left', exists_eq_left, exists_eq_right, true_and, and_true, Nat.reduceSub, Nat.reduceAdd, Nat.zero_add, reduceCtorEq, false_implies, true_implies, decide_eq_true_eq, decide_eq_false_iff_not, forall_const, List.any_cons, List.any_nil, Bool.or_false, subTy, pl1_0, pn1, pl2_0, pl2_1, pn2, pl3_0, pl3_1, pl3_2, pn3, pl4_0, pl4_1, pl4_2, pl4_3, pn4, pl5_0, pl5_1, pl5_2, pl5_3, pl5_4, pn5, pl6_0, pl6_1, pl6_2, pl6_3, pl6_4, pl6_5, pn6, pl7_0, pl7_1, pl7_2, pl7_3, pl7_4, pl7_5, pl7_6, pn7, pl8_0, pl8_1, pl8_2, pl8_3, pl8_4, pl8_5, pl8_6, pl8_7, pn8, pl9_0, pl9_1, pl9_2, pl9_3, pl9_4, pl9_5, pl9_6, pl9_7, pl9_8, pn9, _law_roots_right_3]
  refine r__law_mul (sB.mono (by decide)) (sB.mono (by decide)) ?_
  have sW := sz_mul sB sB
  have nW := sq_nn B
  have hW := rootV_sq nB
  have hT := @rootV_two B
  generalize B * B = W at sW nW hW hT ⊢
  have mw : MulOk 2 W.num := mul_ok (a := 2) (by decide) sW.num (by decide)
  have dW := den_ne W
  have t1 : (2 * W.num).natAbs < 2 ^ 70 := lt_up (mul_lt (a := 2) (by decide) sW.num) (by decide)
  have t2 : ((W.den : Nat) : Int).natAbs < 2 ^ 70 := lt_up sW.den (by decide)
  have t3 : (W.num + 1).natAbs < 2 ^ 70 := lt_up (add_lt sW.num (show (1 : Int).natAbs < 2 ^ (32 + 32) by decide)) (by decide)
  have le := fr.le
  clear hb
  have loop : ∀ (A : List D) (lr : Nat) (S5 : Sto) (s : Option D), (∀ it ∈ A, Rooted it) → A.length = 3 → lstAt S5 lr = some A → Box S5 b (k + 4) → Fr b S S5 → wpS (run sub TT (n + 8)) sub (.seq _law_roots_right_5 (.seq _law_roots_right_6 (.seq _law_roots_right_7 _law_roots_right_8))) [some (.ref b), some (.bl nm), s, some (FD B), some (FD W), some (.ref lr), none, none] S5 ⟨fun _ S1 => Q .non S1, Q, fun _ _ => False, fun _ _ => False, E⟩ := by
    intro A lr S5 s hA lA hl hb5 fr5
    have s3 := sz_divInt t3 t2 dW
    have x3 := s3.mono (show 70 ≤ 4000 by decide)
    have le5 := fr5.le
    simp only [_law_roots_right_5, wpS, wpE, wpEs, wpP, wpI, wpT, begin_, hxD, hxD.hxL, catch_, putAll, Ev.unpack, tgSem, wipe, o_add, o_sub, o_mul, o_div, o_mod, o_pow, o_tup, o_lst, o_rep, c_eq, c_ne, c_lt, c_le, c_gt, c_ge, c_isn, c_notn, c_isb, c_in, c_nin, q_int, q_bl, not_true_eq_false, not_false_eq_true, Bool.false_or, Bool.true_or, Bool.or_true, Bool.true_and, Bool.false_and, Bool.and_true, Bool.and_false,  id_eq, lst_new, boolsD, intsD, Option.map_some, List.all_cons, List.all_nil, List.map_append,  q_lit, String.reduceEq, decide_true, decide_false, Bool.not_true, Bool.not_false, Bool.true_eq_false, Bool.false_eq_true, eq_self, i_isn, i_isi, i_isb, i_iss, i_ist, i_isr, t_non, t_int, t_bl, t_str, t_tup, t_fz, b_abs, b_lent, b_lenf, b_lens, b_list, b_tuple, b_int, b_intb, b_sum, b_min2, b_max2, b_all, b_any, b_gcd, b_dict, m_app, m_ext, m_popi, m_pop, x_tup, x_fz, List.map_cons, List.map_nil, List.length_cons, List.length_nil, List.replicate, List.append_nil, List.cons_append, List.nil_append, List.getElem?_cons_zero, List.getElem?_cons_succ, List.set_cons_zero, List.set_cons_succ, Option.some.injEq, D.int.injEq, D.bl.injEq, D.str.injEq, D.tup.injEq, D.ref.injEq, exists_eq_left', exists_eq_left, exists_eq_right, true_and, and_true, Nat.reduceSub, Nat.reduceAdd, Nat.zero_add, reduceCtorEq, false_implies, true_implies, decide_eq_true_eq, decide_eq_false_iff_not, forall_const, List.any_cons, List.any_nil, Bool.or_false, subTy, pl1_0, pn1, pl2_0, pl2_1, pn2, pl3_0, pl3_1, pl3_2, pn3, pl4_0, pl4_1, pl4_2, pl4_3, pn4, pl5_0, pl5_1, pl5_2, pl5_3, pl5_4, pn5, pl6_0, pl6_1, pl6_2, pl6_3, pl6_4, pl6_5, pn6, pl7_0, pl7_1, pl7_2, pl7_3, pl7_4, pl7_5, pl7_6, pn7, pl8_0, pl8_1, pl8_2, pl8_3, pl8_4, pl8_5, pl8_6, pl8_7, pn8, pl9_0, pl9_1, pl9_2, pl9_3, pl9_4, pl9_5, pl9_6, pl9_7, pl9_8, pn9, x_fd0, x_fd1]
    refine r__law_fr dW (lt_up t3 (by decide)) (lt_up t2 (by decide)) ?_
    refine r__law_fr dW (lt_up t3 (by decide)) (lt_up t2 (by decide)) ?_
    refine r__law_sqrt x3 ?_
    simp only [wpS, wpE, wpEs, wpP, wpI, wpT, begin_, hxD, hxD.hxL, catch_, putAll, Ev.unpack, tgSem, wipe, o_add, o_sub, o_mul, o_div, o_mod, o_pow, o_tup, o_lst, o_rep, c_eq, c_ne, c_lt, c_le, c_gt, c_ge, c_isn, c_notn, c_isb, c_in, c_nin, q_int, q_bl, not_true_eq_false, not_false_eq_true, Bool.false_or, Bool.true_or, Bool.or_true, Bool.true_and, Bool.false_and, Bool.and_true, Bool.and_false,  id_eq, lst_new, boolsD, intsD, Option.map_some, List.all_cons, List.all_nil, List.map_append,  q_lit, String.reduceEq, decide_true, decide_false, Bool.not_true, Bool.not_false, Bool.true_eq_false, Bool.false_eq_true, eq_self, i_isn, i_isi, i_isb, i_iss, i_ist, i_isr, t_non, t_int, t_bl, t_str, t_tup, t_fz, b_abs, b_lent, b_lenf, b_lens, b_list, b_tuple, b_int, b_intb, b_sum, b_min2, b_max2, b_all, b_any, b_gcd, b_dict, m_app, m_ext, m_popi, m_pop, x_tup, x_fz, List.map_cons, List.map_nil, List.length_cons, List.length_nil, List.replicate, List.append_nil, List.cons_append, List.nil_append, List.getElem?_cons_zero, List.getElem?_cons_succ, List.set_cons_zero, List.set_cons_succ, Option.some.injEq, D.int.injEq, D.bl.injEq, D.str.injEq, D.tup.injEq, D.ref.injEq, exists_eq_left', exists_eq_left, exists_eq_right, true_and, and_true, Nat.reduceSub, Nat.reduceAdd, Nat.zero_add, reduceCtorEq, false_implies, true_implies, decide_eq_true_eq, decide_eq_false_iff_not, forall_const, List.any_cons, List.any_nil, Bool.or_false, subTy, pl1_0, pn1, pl2_0, pl2_1, pn2, pl3_0, pl3_1, pl3_2, pn3, pl4_0, pl4_1, pl4_2, pl4_3, pn4, pl5_0, pl5_1, pl5_2, pl5_3, pl5_4, pn5, pl6_0, pl6_1, pl6_2, pl6_3, pl6_4, pl6_5, pn6, pl7_0, pl7_1, pl7_2, pl7_3, pl7_4, pl7_5, pl7_6, pn7, pl8_0, pl8_1, pl8_2, pl8_3, pl8_4, pl8_5, pl8_6, pl8_7, pn8, pl9_0, pl9_1, pl9_2, pl9_3, pl9_4, pl9_5, pl9_6, pl9_7, pl9_8, pn9, m2, m6, lst_old hl, lA]
    generalize Rat.divInt (W.num + 1) (W.den : Int) = V at s3 x3 ⊢
    refine ⟨by decide, ?_⟩
    simp only [_law_roots_right_6, wpS, wpE, wpEs, wpP, wpI, wpT, begin_, hxD, hxD.hxL, catch_, putAll, Ev.unpack, tgSem, wipe, o_add, o_sub, o_mul, o_div, o_mod, o_pow, o_tup, o_lst, o_rep, c_eq, c_ne, c_lt, c_le, c_gt, c_ge, c_isn, c_notn, c_isb, c_in, c_nin, q_int, q_bl, not_true_eq_false, not_false_eq_true, Bool.false_or, Bool.true_or, Bool.or_true, Bool.true_and, Bool.false_and, Bool.and_true, Bool.and_false,  id_eq, lst_new, boolsD, intsD, Option.map_some, List.all_cons, List.all_nil, List.map_append,  q_lit, String.reduceEq, decide_true, decide_false, Bool.not_true, Bool.not_false, Bool.true_eq_false, Bool.false_eq_true, eq_self, i_isn, i_isi, i_isb, i_iss, i_ist, i_isr, t_non, t_int, t_bl, t_str, t_tup, t_fz, b_abs, b_lent, b_lenf, b_lens, b_list, b_tuple, b_int, b_intb, b_sum, b_min2, b_max2, b_all, b_any, b_gcd, b_dict, m_app, m_ext, m_popi, m_pop, x_tup, x_fz, List.map_cons, List.map_nil, List.length_cons, List.length_nil, List.replicate, List.append_nil, List.cons_append, List.nil_append, List.getElem?_cons_zero, List.getElem?_cons_succ, List.set_cons_zero, List.set_cons_succ, Option.some.injEq, D.int.injEq, D.bl.injEq, D.str.injEq, D.tup.injEq, D.ref.injEq, exists_eq_left', exists_eq_left, exists_eq_right, true_and, and_true, Nat.reduceSub, Nat.reduceAdd, Nat.zero_add, reduceCtorEq, false_implies, true_implies, decide_eq_true_eq, decide_eq_false_iff_not, forall_const, List.any_cons, List.any_nil, Bool.or_false, subTy, pl1_0, pn1, pl2_0, pl2_1, pn2, pl3_0, pl3_1, pl3_2, pn3, pl4_0, pl4_1, pl4_2, pl4_3, pn4, pl5_0, pl5_1, pl5_2, pl5_3, pl5_4, pn5, pl6_0, pl6_1, pl6_2, pl6_3, pl6_4, pl6_5, pn6, pl7_0, pl7_1, pl7_2, pl7_3, pl7_4, pl7_5, pl7_6, pn7, pl8_0, pl8_1, pl8_2, pl8_3, pl8_4, pl8_5, pl8_6, pl8_7, pn8, pl9_0, pl9_1, pl9_2, pl9_3, pl9_4, pl9_5, pl9_6, pl9_7, pl9_8, pn9, m2]
    refine ⟨_, lst_old lst_new, by simp only [List.length_append, lA, most_eq, List.length_cons, List.length_nil]; omega, ?_⟩
    simp only [_law_roots_right_7, wpS, wpE, wpEs, wpP, wpI, wpT, begin_, hxD, hxD.hxL, catch_, putAll, Ev.unpack, tgSem, wipe, o_add, o_sub, o_mul, o_div, o_mod, o_pow, o_tup, o_lst, o_rep, c_eq, c_ne, c_lt, c_le, c_gt, c_ge, c_isn, c_notn, c_isb, c_in, c_nin, q_int, q_bl, not_true_eq_false, not_false_eq_true, Bool.false_or, Bool.true_or, Bool.or_true, Bool.true_and, Bool.false_and, Bool.and_true, Bool.and_false,  id_eq, lst_new, boolsD, intsD, Option.map_some, List.all_cons, List.all_nil, List.map_append,  q_lit, String.reduceEq, decide_true, decide_false, Bool.not_true, Bool.not_false, Bool.true_eq_false, Bool.false_eq_true, eq_self, i_isn, i_isi, i_isb, i_iss, i_ist, i_isr, t_non, t_int, t_bl, t_str, t_tup, t_fz, b_abs, b_lent, b_lenf, b_lens, b_list, b_tuple, b_int, b_intb, b_sum, b_min2, b_max2, b_all, b_any, b_gcd, b_dict, m_app, m_ext, m_popi, m_pop, x_tup, x_fz, List.map_cons, List.map_nil, List.length_cons, List.length_nil, List.replicate, List.append_nil, List.cons_append, List.nil_append, List.getElem?_cons_zero, List.getElem?_cons_succ, List.set_cons_zero, List.set_cons_succ, Option.some.injEq, D.int.injEq, D.bl.injEq, D.str.injEq, D.tup.injEq, D.ref.injEq, exists_eq_left', exists_eq_left, exists_eq_right, true_and, and_true, Nat.reduceSub, Nat.reduceAdd, Nat.zero_add, reduceCtorEq, false_implies, true_implies, decide_eq_true_eq, decide_eq_false_iff_not, forall_const, List.any_cons, List.any_nil, Bool.or_false, subTy, pl1_0, pn1, pl2_0, pl2_1, pn2, pl3_0, pl3_1, pl3_2, pn3, pl4_0, pl4_1, pl4_2, pl4_3, pn4, pl5_0, pl5_1, pl5_2, pl5_3, pl5_4, pn5, pl6_0, pl6_1, pl6_2, pl6_3, pl6_4, pl6_5, pn6, pl7_0, pl7_1, pl7_2, pl7_3, pl7_4, pl7_5, pl7_6, pn7, pl8_0, pl8_1, pl8_2, pl8_3, pl8_4, pl8_5, pl8_6, pl8_7, pn8, pl9_0, pl9_1, pl9_2, pl9_3, pl9_4, pl9_5, pl9_6, pl9_7, pl9_8, pn9]
    have all : ∀ it ∈ (A ++ [D.tup [FD V, rootV V], D.tup [D.tup [D.int 4, D.int 9], D.tup [D.int 2, D.int 3]], D.tup [D.tup [D.int 2, D.int 1], D.non], D.tup [D.tup [D.int 0, D.int 1], D.tup [D.int 0, D.int 1]], D.tup [D.tup [D.int (-1), D.int 4], D.non], D.tup [D.tup [D.int 1, D.int 3], D.non]]) ++ [D.tup [D.tup [D.int 8, D.int 1], D.non], D.tup [D.tup [D.int 49, D.int 1], D.tup [D.int 7, D.int 1]]], Rooted it := by
      intro it hi
      rcases List.mem_append.mp hi with hi | hi
      · rcases List.mem_append.mp hi with hi | hi
        · exact hA it hi
        · simp only [List.mem_cons, List.not_mem_nil, or_false] at hi
          rcases hi with rfl | rfl | rfl | rfl | rfl | rfl
          · exact ⟨V, rfl, x3⟩
          · exact rooted1
          · exact rooted2
          · exact rooted3
          · exact rooted4
          · exact rooted5
      · simp only [List.mem_cons, List.not_mem_nil, or_false] at hi
        rcases hi with rfl | rfl
        · exact rooted6
        · exact rooted7
    have g5 : Gr S5 _ := ((Gr.one (o := Ob.lst [D.tup [FD V, rootV V], D.tup [D.tup [D.int 4, D.int 9], D.tup [D.int 2, D.int 3]], D.tup [D.tup [D.int 2, D.int 1], D.non], D.tup [D.tup [D.int 0, D.int 1], D.tup [D.int 0, D.int 1]], D.tup [D.tup [D.int (-1), D.int 4], D.non], D.tup [D.tup [D.int 1, D.int 3], D.non]])).trans (Gr.one (o := Ob.lst (A ++ [D.tup [FD V, rootV V], D.tup [D.tup [D.int 4, D.int 9], D.tup [D.int 2, D.int 3]], D.tup [D.tup [D.int 2, D.int 1], D.non], D.tup [D.tup [D.int 0, D.int 1], D.tup [D.int 0, D.int 1]], D.tup [D.tup [D.int (-1), D.int 4], D.non], D.tup [D.tup [D.int 1, D.int 3], D.non]])))).trans ((Gr.one (o := Ob.lst [D.tup [D.tup [D.int 8, D.int 1], D.non], D.tup [D.tup [D.int 49, D.int 1], D.tup [D.int 7, D.int 1]]])).trans (Gr.one (o := Ob.lst ((A ++ [D.tup [FD V, rootV V], D.tup [D.tup [D.int 4, D.int 9], D.tup [D.int 2, D.int 3]], D.tup [D.tup [D.int 2, D.int 1], D.non], D.tup [D.tup [D.int 0, D.int 1], D.tup [D.int 0, D.int 1]], D.tup [D.tup [D.int (-1), D.int 4], D.non], D.tup [D.tup [D.int 1, D.int 3], D.non]]) ++ [D.tup [D.tup [D.int 8, D.int 1], D.non], D.tup [D.tup [D.int 49, D.int 1], D.tup [D.int 7, D.int 1]]]))))
    refine r__law_mixed (hb5.gr g5) (by simp only [List.length_append, lA, List.length_cons, List.length_nil]; omega) lst_new (by simp only [List.length_append, lA, List.length_cons, List.length_nil]; omega) fun S6 r ys hp hy hr hb6 fr6 => ?_
    simp only [List.length_append, lA, List.length_cons, List.length_nil] at hb6
    rw [s_lst hy]
    simp only [wpS, wpE, wpEs, wpP, wpI, wpT, begin_, hxD, hxD.hxL, catch_, putAll, Ev.unpack, tgSem, wipe, o_add, o_sub, o_mul, o_div, o_mod, o_pow, o_tup, o_lst, o_rep, c_eq, c_ne, c_lt, c_le, c_gt, c_ge, c_isn, c_notn, c_isb, c_in, c_nin, q_int, q_bl, not_true_eq_false, not_false_eq_true, Bool.false_or, Bool.true_or, Bool.or_true, Bool.true_and, Bool.false_and, Bool.and_true, Bool.and_false,  id_eq, lst_new, boolsD, intsD, Option.map_some, List.all_cons, List.all_nil, List.map_append,  q_lit, String.reduceEq, decide_true, decide_false, Bool.not_true, Bool.not_false, Bool.true_eq_false, Bool.false_eq_true, eq_self, i_isn, i_isi, i_isb, i_iss, i_ist, i_isr, t_non, t_int, t_bl, t_str, t_tup, t_fz, b_abs, b_lent, b_lenf, b_lens, b_list, b_tuple, b_int, b_intb, b_sum, b_min2, b_max2, b_all, b_any, b_gcd, b_dict, m_app, m_ext, m_popi, m_pop, x_tup, x_fz, List.map_cons, List.map_nil, List.length_cons, List.length_nil, List.replicate, List.append_nil, List.cons_append, List.nil_append, List.getElem?_cons_zero, List.getElem?_cons_succ, List.set_cons_zero, List.set_cons_succ, Option.some.injEq, D.int.injEq, D.bl.injEq, D.str.injEq, D.tup.injEq, D.ref.injEq, exists_eq_left', exists_eq_left, exists_eq_right, true_and, and_true, Nat.reduceSub, Nat.reduceAdd, Nat.zero_add, reduceCtorEq, false_implies, true_implies, decide_eq_true_eq, decide_eq_false_iff_not, forall_const, List.any_cons, List.any_nil, Bool.or_false, subTy, pl1_0, pn1, pl2_0, pl2_1, pn2, pl3_0, pl3_1, pl3_2, pn3, pl4_0, pl4_1, pl4_2, pl4_3, pn4, pl5_0, pl5_1, pl5_2, pl5_3, pl5_4, pn5, pl6_0, pl6_1, pl6_2, pl6_3, pl6_4, pl6_5, pn6, pl7_0, pl7_1, pl7_2, pl7_3, pl7_4, pl7_5, pl7_6, pn7, pl8_0, pl8_1, pl8_2, pl8_3, pl8_4, pl8_5, pl8_6, pl8_7, pn8, pl9_0, pl9_1, pl9_2, pl9_3, pl9_4, pl9_5, pl9_6, pl9_7, pl9_8, pn9, srcVal]
    refine .inl ?_
    have frr := (fr5.trans g5.fr).trans fr6
    let I : List D → Ev.Env → Sto → Prop := fun rest env S' => ∃ (nm' : Bool) (c u v w : Option D), env = [some (.ref b), some (.bl nm'), c, some (FD B), some (FD W), u, v, w] ∧ (∀ it ∈ rest, Rooted it) ∧ lstAt S' S6.length = some (cut ys none (some 6)) ∧ Box S' b (k + 15) ∧ Fr b S S'
    refine walk_I I (fun _ _ _ ⟨_, _, _, _, _, _, _, h, _⟩ => h) (fun it rest env S' hI N hN => ?_) (fun env S' hI => ?_) _ _ _ ?_
    rotate_left 2
    · exact ⟨nm, _, _, none, none, rfl, fun it hi => all it (hp.mem_iff.mp (mem_cut hi)), lst_new, (hb6.mono (by omega)).gr Gr.one, frr.trans Gr.one.fr⟩
    · obtain ⟨nm', c, u, v, w, rfl, h1, h2, h3, h4⟩ := hI
      obtain ⟨x, rfl, sx⟩ := h1 it (by simp)
      have h1' : ∀ i ∈ rest, Rooted i := fun i hi => h1 i (by simp [hi])
      have hl4 := h4.le
      simp only [_law_roots_right_7b_1, wpS, wpE, wpEs, wpP, wpI, wpT, begin_, hxD, hxD.hxL, catch_, putAll, Ev.unpack, tgSem, wipe, o_add, o_sub, o_mul, o_div, o_mod, o_pow, o_tup, o_lst, o_rep, c_eq, c_ne, c_lt, c_le, c_gt, c_ge, c_isn, c_notn, c_isb, c_in, c_nin, q_int, q_bl, not_true_eq_false, not_false_eq_true, Bool.false_or, Bool.true_or, Bool.or_true, Bool.true_and, Bool.false_and, Bool.and_true, Bool.and_false,  id_eq, lst_new, boolsD, intsD, Option.map_some, List.all_cons, List.all_nil, List.map_append,  q_lit, String.reduceEq, decide_true, decide_false, Bool.not_true, Bool.not_false, Bool.true_eq_false, Bool.false_eq_true, eq_self, i_isn, i_isi, i_isb, i_iss, i_ist, i_isr, t_non, t_int, t_bl, t_str, t_tup, t_fz, b_abs, b_lent, b_lenf, b_lens, b_list, b_tuple, b_int, b_intb, b_sum, b_min2, b_max2, b_all, b_any, b_gcd, b_dict, m_app, m_ext, m_popi, m_pop, x_tup, x_fz, List.map_cons, List.map_nil, List.length_cons, List.length_nil, List.replicate, List.append_nil, List.cons_append, List.nil_append, List.getElem?_cons_zero, List.getElem?_cons_succ, List.set_cons_zero, List.set_cons_succ, Option.some.injEq, D.int.injEq, D.bl.injEq, D.str.injEq, D.tup.injEq, D.ref.injEq, exists_eq_left', exists_eq_left, exists_eq_right, true_and, and_true, Nat.reduceSub, Nat.reduceAdd, Nat.zero_add, reduceCtorEq, false_implies, true_implies, decide_eq_true_eq, decide_eq_false_iff_not, forall_const, List.any_cons, List.any_nil, Bool.or_false, subTy, pl1_0, pn1, pl2_0, pl2_1, pn2, pl3_0, pl3_1, pl3_2, pn3, pl4_0, pl4_1, pl4_2, pl4_3, pn4, pl5_0, pl5_1, pl5_2, pl5_3, pl5_4, pn5, pl6_0, pl6_1, pl6_2, pl6_3, pl6_4, pl6_5, pn6, pl7_0, pl7_1, pl7_2, pl7_3, pl7_4, pl7_5, pl7_6, pn7, pl8_0, pl8_1, pl8_2, pl8_3, pl8_4, pl8_5, pl8_6, pl8_7, pn8, pl9_0, pl9_1, pl9_2, pl9_3, pl9_4, pl9_5, pl9_6, pl9_7, pl9_8, pn9, m1, m2]
      refine met_root lst_new wf_fd (fun h => by rw [isFr_fd] at h; cases h) fun x' hx' => ?_
      cases fd_inj hx'
      refine ⟨sx, fun S7 r7 g7 l7 t7 => ?_⟩
      have le7 := gr_le g7
      simp only [List.length_append, List.length_cons, List.length_nil] at l7 le7
      refine r__law_same (b := b) 2 _ (by omega) (.lst (by omega) (by omega) (lst_old t7) lst_new (by simp) (.cons (sm_lit (by decide)) (.cons rootV_sm .nil))) fun S8 g8 => ?_
      simp only [_law_roots_right_7b_2, wpS, wpE, wpEs, wpP, wpI, wpT, begin_, hxD, hxD.hxL, catch_, putAll, Ev.unpack, tgSem, wipe, o_add, o_sub, o_mul, o_div, o_mod, o_pow, o_tup, o_lst, o_rep, c_eq, c_ne, c_lt, c_le, c_gt, c_ge, c_isn, c_notn, c_isb, c_in, c_nin, q_int, q_bl, not_true_eq_false, not_false_eq_true, Bool.false_or, Bool.true_or, Bool.or_true, Bool.true_and, Bool.false_and, Bool.and_true, Bool.and_false,  id_eq, lst_new, boolsD, intsD, Option.map_some, List.all_cons, List.all_nil, List.map_append,  q_lit, String.reduceEq, decide_true, decide_false, Bool.not_true, Bool.not_false, Bool.true_eq_false, Bool.false_eq_true, eq_self, i_isn, i_isi, i_isb, i_iss, i_ist, i_isr, t_non, t_int, t_bl, t_str, t_tup, t_fz, b_abs, b_lent, b_lenf, b_lens, b_list, b_tuple, b_int, b_intb, b_sum, b_min2, b_max2, b_all, b_any, b_gcd, b_dict, m_app, m_ext, m_popi, m_pop, x_tup, x_fz, List.map_cons, List.map_nil, List.length_cons, List.length_nil, List.replicate, List.append_nil, List.cons_append, List.nil_append, List.getElem?_cons_zero, List.getElem?_cons_succ, List.set_cons_zero, List.set_cons_succ, Option.some.injEq, D.int.injEq, D.bl.injEq, D.str.injEq, D.tup.injEq, D.ref.injEq, exists_eq_left', exists_eq_left, exists_eq_right, true_and, and_true, Nat.reduceSub, Nat.reduceAdd, Nat.zero_add, reduceCtorEq, false_implies, true_implies, decide_eq_true_eq, decide_eq_false_iff_not, forall_const, List.any_cons, List.any_nil, Bool.or_false, subTy, pl1_0, pn1, pl2_0, pl2_1, pn2, pl3_0, pl3_1, pl3_2, pn3, pl4_0, pl4_1, pl4_2, pl4_3, pn4, pl5_0, pl5_1, pl5_2, pl5_3, pl5_4, pn5, pl6_0, pl6_1, pl6_2, pl6_3, pl6_4, pl6_5, pn6, pl7_0, pl7_1, pl7_2, pl7_3, pl7_4, pl7_5, pl7_6, pn7, pl8_0, pl8_1, pl8_2, pl8_3, pl8_4, pl8_5, pl8_6, pl8_7, pn8, pl9_0, pl9_1, pl9_2, pl9_3, pl9_4, pl9_5, pl9_6, pl9_7, pl9_8, pn9]
      have gg := (Gr.one.trans g7).trans (Gr.one.trans g8)
      exact hN _ _ ⟨!nm', _, _, _, _, rfl, h1', gg.lst h2, h3.gr gg, h4.trans gg.fr⟩
    · obtain ⟨nm', c, u, v, w, rfl, h1, h2, h3, h4⟩ := hI
      simp only [_law_roots_right_8, wpS, wpE, wpEs, wpP, wpI, wpT, begin_, hxD, hxD.hxL, catch_, putAll, Ev.unpack, tgSem, wipe, o_add, o_sub, o_mul, o_div, o_mod, o_pow, o_tup, o_lst, o_rep, c_eq, c_ne, c_lt, c_le, c_gt, c_ge, c_isn, c_notn, c_isb, c_in, c_nin, q_int, q_bl, not_true_eq_false, not_false_eq_true, Bool.false_or, Bool.true_or, Bool.or_true, Bool.true_and, Bool.false_and, Bool.and_true, Bool.and_false,  id_eq, lst_new, boolsD, intsD, Option.map_some, List.all_cons, List.all_nil, List.map_append,  q_lit, String.reduceEq, decide_true, decide_false, Bool.not_true, Bool.not_false, Bool.true_eq_false, Bool.false_eq_true, eq_self, i_isn, i_isi, i_isb, i_iss, i_ist, i_isr, t_non, t_int, t_bl, t_str, t_tup, t_fz, b_abs, b_lent, b_lenf, b_lens, b_list, b_tuple, b_int, b_intb, b_sum, b_min2, b_max2, b_all, b_any, b_gcd, b_dict, m_app, m_ext, m_popi, m_pop, x_tup, x_fz, List.map_cons, List.map_nil, List.length_cons, List.length_nil, List.replicate, List.append_nil, List.cons_append, List.nil_append, List.getElem?_cons_zero, List.getElem?_cons_succ, List.set_cons_zero, List.set_cons_succ, Option.some.injEq, D.int.injEq, D.bl.injEq, D.str.injEq, D.tup.injEq, D.ref.injEq, exists_eq_left', exists_eq_left, exists_eq_right, true_and, and_true, Nat.reduceSub, Nat.reduceAdd, Nat.zero_add, reduceCtorEq, false_implies, true_implies, decide_eq_true_eq, decide_eq_false_iff_not, forall_const, List.any_cons, List.any_nil, Bool.or_false, subTy, pl1_0, pn1, pl2_0, pl2_1, pn2, pl3_0, pl3_1, pl3_2, pn3, pl4_0, pl4_1, pl4_2, pl4_3, pn4, pl5_0, pl5_1, pl5_2, pl5_3, pl5_4, pn5, pl6_0, pl6_1, pl6_2, pl6_3, pl6_4, pl6_5, pn6, pl7_0, pl7_1, pl7_2, pl7_3, pl7_4, pl7_5, pl7_6, pn7, pl8_0, pl8_1, pl8_2, pl8_3, pl8_4, pl8_5, pl8_6, pl8_7, pn8, pl9_0, pl9_1, pl9_2, pl9_3, pl9_4, pl9_5, pl9_6, pl9_7, pl9_8, pn9]
      exact q _ h3 h4
  have sw := sW.mono (show 32 + 32 ≤ 4000 by decide)
  have sT := (sz_divInt t1 t2 dW).mono (show 70 ≤ 4000 by decide)
  simp only [wpS, wpE, wpEs, wpP, wpI, wpT, begin_, hxD, hxD.hxL, catch_, putAll, Ev.unpack, tgSem, wipe, o_add, o_sub, o_mul, o_div, o_mod, o_pow, o_tup, o_lst, o_rep, c_eq, c_ne, c_lt, c_le, c_gt, c_ge, c_isn, c_notn, c_isb, c_in, c_nin, q_int, q_bl, not_true_eq_false, not_false_eq_true, Bool.false_or, Bool.true_or, Bool.or_true, Bool.true_and, Bool.false_and, Bool.and_true, Bool.and_false,  id_eq, lst_new, boolsD, intsD, Option.map_some, List.all_cons, List.all_nil, List.map_append,  q_lit, String.reduceEq, decide_true, decide_false, Bool.not_true, Bool.not_false, Bool.true_eq_false, Bool.false_eq_true, eq_self, i_isn, i_isi, i_isb, i_iss, i_ist, i_isr, t_non, t_int, t_bl, t_str, t_tup, t_fz, b_abs, b_lent, b_lenf, b_lens, b_list, b_tuple, b_int, b_intb, b_sum, b_min2, b_max2, b_all, b_any, b_gcd, b_dict, m_app, m_ext, m_popi, m_pop, x_tup, x_fz, List.map_cons, List.map_nil, List.length_cons, List.length_nil, List.replicate, List.append_nil, List.cons_append, List.nil_append, List.getElem?_cons_zero, List.getElem?_cons_succ, List.set_cons_zero, List.set_cons_succ, Option.some.injEq, D.int.injEq, D.bl.injEq, D.str.injEq, D.tup.injEq, D.ref.injEq, exists_eq_left', exists_eq_left, exists_eq_right, true_and, and_true, Nat.reduceSub, Nat.reduceAdd, Nat.zero_add, reduceCtorEq, false_implies, true_implies, decide_eq_true_eq, decide_eq_false_iff_not, forall_const, List.any_cons, List.any_nil, Bool.or_false, subTy, pl1_0, pn1, pl2_0, pl2_1, pn2, pl3_0, pl3_1, pl3_2, pn3, pl4_0, pl4_1, pl4_2, pl4_3, pn4, pl5_0, pl5_1, pl5_2, pl5_3, pl5_4, pn5, pl6_0, pl6_1, pl6_2, pl6_3, pl6_4, pl6_5, pn6, pl7_0, pl7_1, pl7_2, pl7_3, pl7_4, pl7_5, pl7_6, pn7, pl8_0, pl8_1, pl8_2, pl8_3, pl8_4, pl8_5, pl8_6, pl8_7, pn8, pl9_0, pl9_1, pl9_2, pl9_3, pl9_4, pl9_5, pl9_6, pl9_7, pl9_8, pn9, _law_roots_right_4, r__law_neg, x_fd0, x_fd1, mw, m2, m3]
  refine ⟨fun hp => ?_, fun hp => ?_⟩ <;> refine r__law_fr dW (lt_up t1 (by decide)) (lt_up t2 (by decide)) ⟨fun hp2 => ?_, fun hp2 => ?_⟩
  · refine loop _ _ _ _ ?_ rfl lst_new ((hb4.mono (by omega)).gr Gr.one) (fr.trans Gr.one.fr)
    intro it hi
    simp only [List.mem_cons, List.not_mem_nil, or_false] at hi
    rcases hi with rfl | rfl | rfl
    · exact ⟨W, by rw [hW], sw⟩
    · exact ⟨-W, by rw [rootV_neg hp], sz_neg sw⟩
    · exact ⟨_, by rw [hT hp], sT⟩
  · exact absurd hp hp2
  · exact absurd hp2 hp
  · have hW0 : W = 0 := Rat.num_eq_zero.mp (by omega)
    refine loop _ _ _ _ ?_ rfl lst_new ((hb4.mono (by omega)).gr Gr.one) (fr.trans Gr.one.fr)
    intro it hi
    simp only [List.mem_cons, List.not_mem_nil, or_false] at hi
    rcases hi with rfl | rfl | rfl
    · exact ⟨W, by rw [hW], sw⟩
    · exact ⟨-W, by rw [hW0]; rfl, sz_neg sw⟩
    · exact ⟨_, by rw [hW0]; rfl, sT⟩
end
end EvL
end
section
set_option Elab.async false
set_option linter.all false
set_option maxRecDepth 100000
set_option maxHeartbeats 400000
set_option exponentiation.threshold 20000
namespace EvL
open PySem (Str)
open Ev
/-- what may be judged -/
def Good (S : Sto) (d : D) : Prop := Wf1 S d ∧ ∀ a b : Int, d = .tup [.int a, .int b] → a.natAbs < 2 ^ 9000 ∧ b.natAbs < 2 ^ 9000
theorem Good.gr {S S' : Sto} {d : D} (g : Gr S S') (h : Good S d) : Good S' d := ⟨h.1.gr g, h.2⟩
theorem good_im {S : Sto} {d : D} (h : im 3 d = true) (hz : ∀ a b : Int, d ≠ .tup [.int a, .int b]) : Good S d := ⟨im_wf h, fun a b e => absurd e (hz a b)⟩
theorem good_two {S : Sto} {a b : Int} (h1 : a.natAbs < 2 ^ 70) (h2 : b.natAbs < 2 ^ 70) : Good S (.tup [.int a, .int b]) := ⟨im_wf (k := 3) rfl, fun c d e => by
  cases e
  exact ⟨lt_up h1 (by decide), lt_up h2 (by decide)⟩⟩
theorem good_lst {S : Sto} {r : Nat} {xs : List D} (h : lstAt S r = some xs) : Good S (.ref r) := ⟨⟨⟨_, t_lst h⟩, fun _ e => by cases e⟩, fun _ _ e => by cases e⟩
theorem good_dct {S : Sto} {r : Nat} (h : S[r]? = some (.dct [])) : Good S (.ref r) := ⟨⟨⟨_, t_dct h⟩, fun _ e => by cases e⟩, fun _ _ e => by cases e⟩
theorem seqOf_fd {S : Sto} {x : Rat} : seqOf S (FD x) = some [.int x.num, .int (x.den : Int)] := rfl
section
variable {n : Nat} {S : Sto} {Q : Po} {E : Xo} {b k : Nat}
theorem r__law_judged_right {nm : Bool} (hb : Box S b k) (hk : k + 40 ≤ 2 ^ 30) (q : ∀ S', Box S' b (k + 2) → Fr b S S' → Q (.bl true) S') : run sub TT (n + 9) i__law_judged_right [.ref b, .bl nm] S Q E := by
  rw [run_eq at__law_judged_right rfl]
  have m0 : (0 : Nat) ≤ most := by decide
  have m1 : (1 : Nat) ≤ most := by decide
  have m2 : (2 : Nat) ≤ most := by decide
  have m3 : (3 : Nat) ≤ most := by decide
  have m14 : (14 : Nat) ≤ most := by decide
  have m11 : (11 : Nat) ≤ most := by decide
  have me : mergeD [] [] = [] := rfl
  have p1 : PowOk 10 20 := ⟨by decide, by decide, by decide⟩
  have hbl : b < S.length := let ⟨_, _, _, _, h, _⟩ := hb.ex; lst_lt h
  simp only [f__law_judged_right, _law_judged_right_1, wpS, wpE, wpEs, wpP, wpI, wpT, begin_, hxD, hxD.hxL, catch_, putAll, Ev.unpack, tgSem, wipe, o_add, o_sub, o_mul, o_div, o_mod, o_pow, o_tup, o_lst, o_rep, c_eq, c_ne, c_lt, c_le, c_gt, c_ge, c_isn, c_notn, c_isb, c_in, c_nin, q_int, q_bl, not_true_eq_false, not_false_eq_true, Bool.false_or, Bool.true_or, Bool.or_true, Bool.true_and, Bool.false_and, Bool.and_true, Bool.and_false,  id_eq, lst_new, boolsD, intsD, Option.map_some, List.all_cons, List.all_nil, List.map_append,  q_lit, String.reduceEq, decide_true, decide_false, Bool.not_true, Bool.not_false, Bool.true_eq_false, Bool.false_eq_true, eq_self, i_isn, i_isi, i_isb, i_iss, i_ist, i_isr, t_non, t_int, t_bl, t_str, t_tup, t_fz, b_abs, b_lent, b_lenf, b_lens, b_list, b_tuple, b_int, b_intb, b_sum, b_min2, b_max2, b_all, b_any, b_gcd, b_dict, m_app, m_ext, m_popi, m_pop, x_tup, x_fz, List.map_cons, List.map_nil, List.length_cons, List.length_nil, List.replicate, List.append_nil, List.cons_append, List.nil_append, List.getElem?_cons_zero, List.getElem?_cons_succ, List.set_cons_zero, List.set_cons_succ, Option.some.injEq, D.int.injEq, D.bl.injEq, D.str.injEq, D.tup.injEq, D.ref.injEq, exists_eq_left', exists_eq_left, exists_eq_right, true_and, and_true, Nat.reduceSub, Nat.reduceAdd, Nat.zero_add, reduceCtorEq, false_implies, true_implies, decide_eq_true_eq, decide_eq_false_iff_not, forall_const, List.any_cons, List.any_nil, Bool.or_false, subTy, pl1_0, pn1, pl2_0, pl2_1, pn2, pl3_0, pl3_1, pl3_2, pn3, pl4_0, pl4_1, pl4_2, pl4_3, pn4, pl5_0, pl5_1, pl5_2, pl5_3, pl5_4, pn5, pl6_0, pl6_1, pl6_2, pl6_3, pl6_4, pl6_5, pn6, pl7_0, pl7_1, pl7_2, pl7_3, pl7_4, pl7_5, pl7_6, pn7, pl8_0, pl8_1, pl8_2, pl8_3, pl8_4, pl8_5, pl8_6, pl8_7, pn8, pl9_0, pl9_1, pl9_2, pl9_3, pl9_4, pl9_5, pl9_6, pl9_7, pl9_8, pn9]
  refine r__law_take hb (by omega) (by decide) (by decide) fun S1 u u0 u1 hb1 fr1 => ?_
  rw [o_sub]
  refine r__law_take hb1 (by omega) (by decide) (by decide) fun S2 v v0 v1 hb2 fr2 => ?_
  rw [o_add]
  have fr := fr1.trans fr2
  have a1 : (u - 30).natAbs < 2 ^ 32 := by omega
  have a2 : (1 + v).natAbs < 2 ^ 32 := by omega
  have a3 : 1 + v ≠ 0 := by omega
  refine r__law_fr a3 (lt_up a1 (by decide)) (lt_up a2 (by decide)) ?_
  have so := sz_divInt a1 a2 a3
  generalize Rat.divInt (u - 30) (1 + v) = o at so ⊢
  have s1 := so.num
  have s2 := so.den
  have w1 : MulOk 3 o.num := mul_ok (a := 2) (by decide) s1 (by decide)
  have w2 : MulOk 3 (o.den : Int) := mul_ok (a := 2) (by decide) s2 (by decide)
  simp only [wpS, wpE, wpEs, wpP, wpI, wpT, begin_, hxD, hxD.hxL, catch_, putAll, Ev.unpack, tgSem, wipe, o_add, o_sub, o_mul, o_div, o_mod, o_pow, o_tup, o_lst, o_rep, c_eq, c_ne, c_lt, c_le, c_gt, c_ge, c_isn, c_notn, c_isb, c_in, c_nin, q_int, q_bl, not_true_eq_false, not_false_eq_true, Bool.false_or, Bool.true_or, Bool.or_true, Bool.true_and, Bool.false_and, Bool.and_true, Bool.and_false,  id_eq, lst_new, boolsD, intsD, Option.map_some, List.all_cons, List.all_nil, List.map_append,  q_lit, String.reduceEq, decide_true, decide_false, Bool.not_true, Bool.not_false, Bool.true_eq_false, Bool.false_eq_true, eq_self, i_isn, i_isi, i_isb, i_iss, i_ist, i_isr, t_non, t_int, t_bl, t_str, t_tup, t_fz, b_abs, b_lent, b_lenf, b_lens, b_list, b_tuple, b_int, b_intb, b_sum, b_min2, b_max2, b_all, b_any, b_gcd, b_dict, m_app, m_ext, m_popi, m_pop, x_tup, x_fz, List.map_cons, List.map_nil, List.length_cons, List.length_nil, List.replicate, List.append_nil, List.cons_append, List.nil_append, List.getElem?_cons_zero, List.getElem?_cons_succ, List.set_cons_zero, List.set_cons_succ, Option.some.injEq, D.int.injEq, D.bl.injEq, D.str.injEq, D.tup.injEq, D.ref.injEq, exists_eq_left', exists_eq_left, exists_eq_right, true_and, and_true, Nat.reduceSub, Nat.reduceAdd, Nat.zero_add, reduceCtorEq, false_implies, true_implies, decide_eq_true_eq, decide_eq_false_iff_not, forall_const, List.any_cons, List.any_nil, Bool.or_false, subTy, pl1_0, pn1, pl2_0, pl2_1, pn2, pl3_0, pl3_1, pl3_2, pn3, pl4_0, pl4_1, pl4_2, pl4_3, pn4, pl5_0, pl5_1, pl5_2, pl5_3, pl5_4, pn5, pl6_0, pl6_1, pl6_2, pl6_3, pl6_4, pl6_5, pn6, pl7_0, pl7_1, pl7_2, pl7_3, pl7_4, pl7_5, pl7_6, pn7, pl8_0, pl8_1, pl8_2, pl8_3, pl8_4, pl8_5, pl8_6, pl8_7, pn8, pl9_0, pl9_1, pl9_2, pl9_3, pl9_4, pl9_5, pl9_6, pl9_7, pl9_8, pn9, _law_judged_right_2, x_fd0, x_fd1, seqOf_fd, w1, w2, m1, m2, m3, m14]
  generalize hL1 : [FD o, D.ref S2.length, D.tup [D.int (0 - o.num), D.int (0 - (o.den : Int))], D.tup [D.int (3 * o.num), D.int (3 * (o.den : Int))], D.tup [D.int o.num, D.int 0], D.tup [D.int o.num, D.bl true], D.tup [D.bl true, D.int 1], D.tup [D.bl false, D.int 1], D.tup [D.int 0, D.int 1], D.tup [D.int 0, D.int 2], D.tup [D.int 0, D.int (-1)], D.tup [D.int 1], D.tup [D.int 1, D.int 2, D.int 3], D.tup [D.int (-5), D.int 3]] = L1
  have lL1 : L1.length = 14 := by rw [← hL1]; rfl
  have gL1 : ∀ S', Gr (S2 ++ [Ob.lst [D.int o.num, D.int (o.den : Int)]]) S' → ∀ it ∈ L1, Good S' it := by
    intro S' g it hi
    subst hL1
    simp only [List.mem_cons, List.not_mem_nil, or_false] at hi
    rcases hi with rfl | rfl | rfl | rfl | rfl | rfl | rfl | rfl | rfl | rfl | rfl | rfl | rfl | rfl
    · exact good_two (by omega) (by omega)
    · exact good_lst (g.lst lst_new)
    · exact good_two (by omega) (by omega)
    · exact good_two (by omega) (by omega)
    · exact good_two (by omega) (by omega)
    · exact good_im rfl (fun _ _ e => by cases e)
    · exact good_im rfl (fun _ _ e => by cases e)
    · exact good_im rfl (fun _ _ e => by cases e)
    · exact good_two (by omega) (by omega)
    · exact good_two (by omega) (by omega)
    · exact good_two (by omega) (by omega)
    · exact good_im rfl (fun _ _ e => by cases e)
    · exact good_im rfl (fun _ _ e => by cases e)
    · exact good_two (by omega) (by omega)
  simp only [_law_judged_right_3, wpS, wpE, wpEs, wpP, wpI, wpT, begin_, hxD, hxD.hxL, catch_, putAll, Ev.unpack, tgSem, wipe, o_add, o_sub, o_mul, o_div, o_mod, o_pow, o_tup, o_lst, o_rep, c_eq, c_ne, c_lt, c_le, c_gt, c_ge, c_isn, c_notn, c_isb, c_in, c_nin, q_int, q_bl, not_true_eq_false, not_false_eq_true, Bool.false_or, Bool.true_or, Bool.or_true, Bool.true_and, Bool.false_and, Bool.and_true, Bool.and_false,  id_eq, lst_new, boolsD, intsD, Option.map_some, List.all_cons, List.all_nil, List.map_append,  q_lit, String.reduceEq, decide_true, decide_false, Bool.not_true, Bool.not_false, Bool.true_eq_false, Bool.false_eq_true, eq_self, i_isn, i_isi, i_isb, i_iss, i_ist, i_isr, t_non, t_int, t_bl, t_str, t_tup, t_fz, b_abs, b_lent, b_lenf, b_lens, b_list, b_tuple, b_int, b_intb, b_sum, b_min2, b_max2, b_all, b_any, b_gcd, b_dict, m_app, m_ext, m_popi, m_pop, x_tup, x_fz, List.map_cons, List.map_nil, List.length_cons, List.length_nil, List.replicate, List.append_nil, List.cons_append, List.nil_append, List.getElem?_cons_zero, List.getElem?_cons_succ, List.set_cons_zero, List.set_cons_succ, Option.some.injEq, D.int.injEq, D.bl.injEq, D.str.injEq, D.tup.injEq, D.ref.injEq, exists_eq_left', exists_eq_left, exists_eq_right, true_and, and_true, Nat.reduceSub, Nat.reduceAdd, Nat.zero_add, reduceCtorEq, false_implies, true_implies, decide_eq_true_eq, decide_eq_false_iff_not, forall_const, List.any_cons, List.any_nil, Bool.or_false, subTy, pl1_0, pn1, pl2_0, pl2_1, pn2, pl3_0, pl3_1, pl3_2, pn3, pl4_0, pl4_1, pl4_2, pl4_3, pn4, pl5_0, pl5_1, pl5_2, pl5_3, pl5_4, pn5, pl6_0, pl6_1, pl6_2, pl6_3, pl6_4, pl6_5, pn6, pl7_0, pl7_1, pl7_2, pl7_3, pl7_4, pl7_5, pl7_6, pn7, pl8_0, pl8_1, pl8_2, pl8_3, pl8_4, pl8_5, pl8_6, pl8_7, pn8, pl9_0, pl9_1, pl9_2, pl9_3, pl9_4, pl9_5, pl9_6, pl9_7, pl9_8, pn9, p1, m0, m1, m2, m11, me, List.zip_nil_left, Nat.zero_le]
  generalize hA0 : S2 ++ [Ob.lst [D.int o.num, D.int (o.den : Int)]] = A0 at gL1 ⊢
  have g0 : Gr S2 A0 := hA0 ▸ Gr.one
  generalize hA1 : A0 ++ [Ob.lst L1] = A1
  have g1 : Gr A0 A1 := hA1 ▸ Gr.one
  have k1 : lstAt A1 A0.length = some L1 := hA1 ▸ lst_new
  generalize hA2 : A1 ++ [Ob.dct []] = A2
  have g2 : Gr A1 A2 := hA2 ▸ Gr.one
  have k2 : A2[A1.length]? = some (.dct []) := hA2 ▸ dct_new
  generalize hA3 : A2 ++ [Ob.lst [FD o]] = A3
  have g3 : Gr A2 A3 := hA3 ▸ Gr.one
  have k3 : lstAt A3 A2.length = some [FD o] := hA3 ▸ lst_new
  have k2' : A3[A1.length]? = some (.dct []) := by
    obtain ⟨T, rfl⟩ := g3
    exact dct_old k2
  generalize hL2 : [D.non, D.bl true, D.int 5, D.str (Str.ofString "1/2"), D.ref A1.length, D.tup [], D.ref A2.length, D.tup [FD o, D.int 1], D.tup [D.str (Str.ofString "1"), D.int 2], D.tup [D.non, D.int 1], D.tup [D.int (10 ^ Int.toNat 20 - 1), D.int (10 ^ Int.toNat 20 - 2)]] = L2
  have lL2 : L2.length = 11 := by rw [← hL2]; rfl
  have gL2 : ∀ S', Gr A3 S' → ∀ it ∈ L2, Good S' it := by
    intro S' g it hi
    refine Good.gr g ?_
    clear g
    subst hL2
    simp only [List.mem_cons, List.not_mem_nil, or_false] at hi
    rcases hi with rfl | rfl | rfl | rfl | rfl | rfl | rfl | rfl | rfl | rfl | rfl
    · exact good_im rfl (fun _ _ e => by cases e)
    · exact good_im rfl (fun _ _ e => by cases e)
    · exact good_im rfl (fun _ _ e => by cases e)
    · exact ⟨⟨⟨_, rfl⟩, fun _ e => by cases e⟩, fun _ _ e => by cases e⟩
    · exact good_dct k2'
    · exact good_im rfl (fun _ _ e => by cases e)
    · exact good_lst k3
    · exact good_im rfl (fun _ _ e => by cases e)
    · refine ⟨⟨⟨_, rfl⟩, fun xs e x hx => ?_⟩, fun _ _ e => by cases e⟩
      cases e
      simp only [List.mem_cons, List.not_mem_nil, or_false] at hx
      rcases hx with rfl | rfl <;> exact ⟨_, rfl⟩
    · exact good_im rfl (fun _ _ e => by cases e)
    · exact good_two (by decide) (by decide)
  have g4 : Gr A3 (A3 ++ [Ob.lst L2] ++ [Ob.lst (L1 ++ L2)]) := Gr.one.trans Gr.one
  refine ⟨L1, lst_old (g3.lst (g2.lst k1)), by rw [lL1, most_eq]; decide, .inl ⟨_, lst_new, ?_⟩⟩
  have gA := g0.trans (g1.trans (g2.trans (g3.trans g4)))
  let I : List D → Ev.Env → Sto → Prop := fun rest env S' => ∃ (nm' : Bool) (c v : Option D), env = [some (.ref b), some (.bl nm'), some (FD o), c, v] ∧ (∀ it ∈ rest, it ∈ L1 ++ L2) ∧ Gr (A3 ++ [Ob.lst L2] ++ [Ob.lst (L1 ++ L2)]) S'
  refine walk_I I (fun _ _ _ ⟨_, _, _, _, _, h⟩ => h.lst lst_new) (fun it rest env S' hI N hN => ?_) (fun env S' hI => ?_) _ _ _ ⟨nm, _, none, rfl, fun it hi => hi, Gr.refl⟩
  · obtain ⟨nm', c, v, rfl, h1, h2⟩ := hI
    have hit := h1 it (by simp)
    have h1' : ∀ i ∈ rest, i ∈ L1 ++ L2 := fun i hi => h1 i (by simp [hi])
    have good : ∀ S2, Gr S' S2 → Good S2 it := fun S2 g => by
      rcases List.mem_append.mp hit with h | h
      · exact gL1 _ (((g1.trans g2).trans g3).trans ((g4.trans h2).trans g)) it h
      · exact gL2 _ ((g4.trans h2).trans g) it h
    have kg : kwG D.non (exLen .nil) (0 + 1) [0] [] [it] = [it] := rfl
    have key : ∀ S3, Gr S' S3 → ∀ (P : Po) (E' : Xo), (∀ S4, Gr S' S4 → P (.bl true) S4) → run sub TT (n + 8) 38 [it] S3 (fun x S1 => run sub TT (n + 8) 25 [.bl (isFr it), x] S1 P E') E' := fun S3 g P E' hP => by
      obtain ⟨w, z⟩ := good S3 g
      exact r__law_is_fraction w z (r__law_same (b := b) 0 _ (by omega) (.bl _) fun S5 g5 => hP _ (g.trans g5))
    simp only [_law_judged_right_3b_1, wpS, wpE, wpEs, wpP, wpI, wpT, begin_, hxD, hxD.hxL, catch_, putAll, Ev.unpack, tgSem, wipe, o_add, o_sub, o_mul, o_div, o_mod, o_pow, o_tup, o_lst, o_rep, c_eq, c_ne, c_lt, c_le, c_gt, c_ge, c_isn, c_notn, c_isb, c_in, c_nin, q_int, q_bl, not_true_eq_false, not_false_eq_true, Bool.false_or, Bool.true_or, Bool.or_true, Bool.true_and, Bool.false_and, Bool.and_true, Bool.and_false,  id_eq, lst_new, boolsD, intsD, Option.map_some, List.all_cons, List.all_nil, List.map_append,  q_lit, String.reduceEq, decide_true, decide_false, Bool.not_true, Bool.not_false, Bool.true_eq_false, Bool.false_eq_true, eq_self, i_isn, i_isi, i_isb, i_iss, i_ist, i_isr, t_non, t_int, t_bl, t_str, t_tup, t_fz, b_abs, b_lent, b_lenf, b_lens, b_list, b_tuple, b_int, b_intb, b_sum, b_min2, b_max2, b_all, b_any, b_gcd, b_dict, m_app, m_ext, m_popi, m_pop, x_tup, x_fz, List.map_cons, List.map_nil, List.length_cons, List.length_nil, List.replicate, List.append_nil, List.cons_append, List.nil_append, List.getElem?_cons_zero, List.getElem?_cons_succ, List.set_cons_zero, List.set_cons_succ, Option.some.injEq, D.int.injEq, D.bl.injEq, D.str.injEq, D.tup.injEq, D.ref.injEq, exists_eq_left', exists_eq_left, exists_eq_right, true_and, and_true, Nat.reduceSub, Nat.reduceAdd, Nat.zero_add, reduceCtorEq, false_implies, true_implies, decide_eq_true_eq, decide_eq_false_iff_not, forall_const, List.any_cons, List.any_nil, Bool.or_false, subTy, pl1_0, pn1, pl2_0, pl2_1, pn2, pl3_0, pl3_1, pl3_2, pn3, pl4_0, pl4_1, pl4_2, pl4_3, pn4, pl5_0, pl5_1, pl5_2, pl5_3, pl5_4, pn5, pl6_0, pl6_1, pl6_2, pl6_3, pl6_4, pl6_5, pn6, pl7_0, pl7_1, pl7_2, pl7_3, pl7_4, pl7_5, pl7_6, pn7, pl8_0, pl8_1, pl8_2, pl8_3, pl8_4, pl8_5, pl8_6, pl8_7, pn8, pl9_0, pl9_1, pl9_2, pl9_3, pl9_4, pl9_5, pl9_6, pl9_7, pl9_8, pn9, kg]
    have fin : ∀ S4, Gr S' S4 → N [some (.ref b), some (.bl (!nm')), some (FD o), c, some it] S4 := fun S4 g => hN _ _ ⟨!nm', _, _, rfl, h1', h2.trans g⟩
    cases nm' <;> simp only [wpS, wpE, wpEs, wpP, wpI, wpT, begin_, hxD, hxD.hxL, catch_, putAll, Ev.unpack, tgSem, wipe, o_add, o_sub, o_mul, o_div, o_mod, o_pow, o_tup, o_lst, o_rep, c_eq, c_ne, c_lt, c_le, c_gt, c_ge, c_isn, c_notn, c_isb, c_in, c_nin, q_int, q_bl, not_true_eq_false, not_false_eq_true, Bool.false_or, Bool.true_or, Bool.or_true, Bool.true_and, Bool.false_and, Bool.and_true, Bool.and_false,  id_eq, lst_new, boolsD, intsD, Option.map_some, List.all_cons, List.all_nil, List.map_append,  q_lit, String.reduceEq, decide_true, decide_false, Bool.not_true, Bool.not_false, Bool.true_eq_false, Bool.false_eq_true, eq_self, i_isn, i_isi, i_isb, i_iss, i_ist, i_isr, t_non, t_int, t_bl, t_str, t_tup, t_fz, b_abs, b_lent, b_lenf, b_lens, b_list, b_tuple, b_int, b_intb, b_sum, b_min2, b_max2, b_all, b_any, b_gcd, b_dict, m_app, m_ext, m_popi, m_pop, x_tup, x_fz, List.map_cons, List.map_nil, List.length_cons, List.length_nil, List.replicate, List.append_nil, List.cons_append, List.nil_append, List.getElem?_cons_zero, List.getElem?_cons_succ, List.set_cons_zero, List.set_cons_succ, Option.some.injEq, D.int.injEq, D.bl.injEq, D.str.injEq, D.tup.injEq, D.ref.injEq, exists_eq_left', exists_eq_left, exists_eq_right, true_and, and_true, Nat.reduceSub, Nat.reduceAdd, Nat.zero_add, reduceCtorEq, false_implies, true_implies, decide_eq_true_eq, decide_eq_false_iff_not, forall_const, List.any_cons, List.any_nil, Bool.or_false, subTy, pl1_0, pn1, pl2_0, pl2_1, pn2, pl3_0, pl3_1, pl3_2, pn3, pl4_0, pl4_1, pl4_2, pl4_3, pn4, pl5_0, pl5_1, pl5_2, pl5_3, pl5_4, pn5, pl6_0, pl6_1, pl6_2, pl6_3, pl6_4, pl6_5, pn6, pl7_0, pl7_1, pl7_2, pl7_3, pl7_4, pl7_5, pl7_6, pn7, pl8_0, pl8_1, pl8_2, pl8_3, pl8_4, pl8_5, pl8_6, pl8_7, pn8, pl9_0, pl9_1, pl9_2, pl9_3, pl9_4, pl9_5, pl9_6, pl9_7, pl9_8, pn9] <;> refine r_is_fraction (good S' Gr.refl).1 fun S3 g3 => key S3 g3 _ _ fun S4 g4 => ?_ <;> simp only [_law_judged_right_3b_2, wpS, wpE, wpEs, wpP, wpI, wpT, begin_, hxD, hxD.hxL, catch_, putAll, Ev.unpack, tgSem, wipe, o_add, o_sub, o_mul, o_div, o_mod, o_pow, o_tup, o_lst, o_rep, c_eq, c_ne, c_lt, c_le, c_gt, c_ge, c_isn, c_notn, c_isb, c_in, c_nin, q_int, q_bl, not_true_eq_false, not_false_eq_true, Bool.false_or, Bool.true_or, Bool.or_true, Bool.true_and, Bool.false_and, Bool.and_true, Bool.and_false,  id_eq, lst_new, boolsD, intsD, Option.map_some, List.all_cons, List.all_nil, List.map_append,  q_lit, String.reduceEq, decide_true, decide_false, Bool.not_true, Bool.not_false, Bool.true_eq_false, Bool.false_eq_true, eq_self, i_isn, i_isi, i_isb, i_iss, i_ist, i_isr, t_non, t_int, t_bl, t_str, t_tup, t_fz, b_abs, b_lent, b_lenf, b_lens, b_list, b_tuple, b_int, b_intb, b_sum, b_min2, b_max2, b_all, b_any, b_gcd, b_dict, m_app, m_ext, m_popi, m_pop, x_tup, x_fz, List.map_cons, List.map_nil, List.length_cons, List.length_nil, List.replicate, List.append_nil, List.cons_append, List.nil_append, List.getElem?_cons_zero, List.getElem?_cons_succ, List.set_cons_zero, List.set_cons_succ, Option.some.injEq, D.int.injEq, D.bl.injEq, D.str.injEq, D.tup.injEq, D.ref.injEq, exists_eq_left', exists_eq_left, exists_eq_right, true_and, and_true, Nat.reduceSub, Nat.reduceAdd, Nat.zero_add, reduceCtorEq, false_implies, true_implies, decide_eq_true_eq, decide_eq_false_iff_not, forall_const, List.any_cons, List.any_nil, Bool.or_false, subTy, pl1_0, pn1, pl2_0, pl2_1, pn2, pl3_0, pl3_1, pl3_2, pn3, pl4_0, pl4_1, pl4_2, pl4_3, pn4, pl5_0, pl5_1, pl5_2, pl5_3, pl5_4, pn5, pl6_0, pl6_1, pl6_2, pl6_3, pl6_4, pl6_5, pn6, pl7_0, pl7_1, pl7_2, pl7_3, pl7_4, pl7_5, pl7_6, pn7, pl8_0, pl8_1, pl8_2, pl8_3, pl8_4, pl8_5, pl8_6, pl8_7, pn8, pl9_0, pl9_1, pl9_2, pl9_3, pl9_4, pl9_5, pl9_6, pl9_7, pl9_8, pn9] <;> exact fin S4 g4
  · obtain ⟨nm', c, v, rfl, h1, h2⟩ := hI
    simp only [_law_judged_right_4, wpS, wpE, wpEs, wpP, wpI, wpT, begin_, hxD, hxD.hxL, catch_, putAll, Ev.unpack, tgSem, wipe, o_add, o_sub, o_mul, o_div, o_mod, o_pow, o_tup, o_lst, o_rep, c_eq, c_ne, c_lt, c_le, c_gt, c_ge, c_isn, c_notn, c_isb, c_in, c_nin, q_int, q_bl, not_true_eq_false, not_false_eq_true, Bool.false_or, Bool.true_or, Bool.or_true, Bool.true_and, Bool.false_and, Bool.and_true, Bool.and_false,  id_eq, lst_new, boolsD, intsD, Option.map_some, List.all_cons, List.all_nil, List.map_append,  q_lit, String.reduceEq, decide_true, decide_false, Bool.not_true, Bool.not_false, Bool.true_eq_false, Bool.false_eq_true, eq_self, i_isn, i_isi, i_isb, i_iss, i_ist, i_isr, t_non, t_int, t_bl, t_str, t_tup, t_fz, b_abs, b_lent, b_lenf, b_lens, b_list, b_tuple, b_int, b_intb, b_sum, b_min2, b_max2, b_all, b_any, b_gcd, b_dict, m_app, m_ext, m_popi, m_pop, x_tup, x_fz, List.map_cons, List.map_nil, List.length_cons, List.length_nil, List.replicate, List.append_nil, List.cons_append, List.nil_append, List.getElem?_cons_zero, List.getElem?_cons_succ, List.set_cons_zero, List.set_cons_succ, Option.some.injEq, D.int.injEq, D.bl.injEq, D.str.injEq, D.tup.injEq, D.ref.injEq, exists_eq_left', exists_eq_left, exists_eq_right, true_and, and_true, Nat.reduceSub, Nat.reduceAdd, Nat.zero_add, reduceCtorEq, false_implies, true_implies, decide_eq_true_eq, decide_eq_false_iff_not, forall_const, List.any_cons, List.any_nil, Bool.or_false, subTy, pl1_0, pn1, pl2_0, pl2_1, pn2, pl3_0, pl3_1, pl3_2, pn3, pl4_0, pl4_1, pl4_2, pl4_3, pn4, pl5_0, pl5_1, pl5_2, pl5_3, pl5_4, pn5, pl6_0, pl6_1, pl6_2, pl6_3, pl6_4, pl6_5, pn6, pl7_0, pl7_1, pl7_2, pl7_3, pl7_4, pl7_5, pl7_6, pn7, pl8_0, pl8_1, pl8_2, pl8_3, pl8_4, pl8_5, pl8_6, pl8_7, pn8, pl9_0, pl9_1, pl9_2, pl9_3, pl9_4, pl9_5, pl9_6, pl9_7, pl9_8, pn9]
    exact q _ ((hb2.mono (by omega)).gr (gA.trans h2)) (fr.trans (gA.trans h2).fr)
end
end EvL
end
section
set_option Elab.async false
set_option linter.all false
set_option maxRecDepth 100000
set_option maxHeartbeats 400000
set_option exponentiation.threshold 20000
namespace EvL
open PySem (Str)
open Ev
theorem FrD.lst {d : D} {S S' : Sto} {r : Nat} {xs : List D} (f : FrD d S S') (h : d ≠ .ref r) (hl : lstAt S r = some xs) : lstAt S' r = some xs := by
  have := lst_lt hl
  unfold lstAt at hl ⊢
  rw [f.2 r this h]
  exact hl
theorem FrD.box {d : D} {S S' : Sto} {b k : Nat} (f : FrD d S S') (h : d ≠ .ref b) (hb : Box S b k) : Box S' b k := by
  obtain ⟨g, x, m, c, h1, h2⟩ := hb.ex
  exact ⟨g, x, m, c, f.lst h h1, h2⟩
theorem Bad.frd {d e : D} {S S' : Sto} {lo : Nat} (f : FrD d S S') (h : ∀ i, e = .ref i → d ≠ .ref i) : Bad S lo e → Bad S' lo e
  | .im h => .im h
  | .lst h1 h2 h3 h4 => .lst h1 (f.lst (h _ rfl) h2) h3 h4
  | .dct h1 h2 => .dct h1 (by rw [f.2 _ (List.getElem?_eq_some_iff.mp h2).1 (h _ rfl), h2])
theorem Bad.lo {d : D} {S : Sto} {lo : Nat} : Bad S lo d → ∀ i, d = .ref i → lo ≤ i ∧ i < S.length
  | .im h, i, e => by rw [e, im_ref] at h; cases h
  | .lst h1 h2 _ _, i, e => by cases e; exact ⟨h1, lst_lt h2⟩
  | .dct h1 h2, i, e => by cases e; exact ⟨h1, (List.getElem?_eq_some_iff.mp h2).1⟩
theorem Bad.gr {S S' : Sto} {lo : Nat} {d : D} (g : Gr S S') : Bad S lo d → Bad S' lo d
  | .im h => .im h
  | .lst h1 h2 h3 h4 => .lst h1 (g.lst h2) h3 h4
  | .dct h1 h2 => .dct h1 (by obtain ⟨T, rfl⟩ := g; exact dct_old h2)
theorem fr_frd {d : D} {S0 S S' : Sto} {b : Nat} (f : Fr b S0 S) (g : FrD d S S') (h : ∀ i, d = .ref i → S0.length ≤ i) : Fr b S0 S' := ⟨Nat.le_trans f.le g.1, fun i hi hl => by
  rw [g.2 i (Nat.lt_of_lt_of_le hl f.le) (fun e => by have := h i e; omega), f.at_ i hi hl]⟩
theorem shaped_two {z : Str} (hz : PySem.PyData.strOk z = true) : PySem.SeqAt.shaped (.list [.str z, .str z]) = true := by
  have h : PySem.PyData.canLay0 (.list [.str z, .str z]) = true := by simp [PySem.PyData.canLay0, PySem.PyData.canLayAll0, hz]
  unfold PySem.SeqAt.shaped
  rw [h]
  rfl
theorem q_two {S : Sto} {n m : Nat} {z : Str} {k : Bool → Prop} (hz : PySem.PyData.strOk z = true) (h1 : lstAt S n = some [.str z, .str z]) (h2 : lstAt S m = some [.str z, .str z]) (h : k true) : eqSem (.ref n) (.ref m) S k :=
  ⟨.list [.str z, .str z], .list [.str z, .str z], .lst h1 (.cons (.str _) (.cons (.str _) .nil)), .lst h2 (.cons (.str _) (.cons (.str _) .nil)), shaped_two hz, shaped_two hz, (by
    have e : PySem.PyData.eqv (.list [.str z, .str z]) (.list [.str z, .str z]) = true := by simp [PySem.PyData.eqv, PySem.PyData.eqvAll]
    rw [e]
    exact h)⟩
/-- a word that refuses -/
def Refuse (w : Str) : Prop := ∀ (n : Nat) (S : Sto) (j : Nat) (x : Bool) (Q : Po) (E : Xo) (c d : D), lstAt S j = some [c, d] → Wf1 S c → Wf1 S d → (isFr c = false → Out S Q "number" c) → (isFr c = true → isFr d = false ∧ Out S Q "number" d) → run sub TT (n + 6) i__law_met [.str w, .ref j, .bl x] S Q E
theorem ref_plus : Refuse (Str.ofString "plus") := fun n S j x Q E c d hj hc hd e e2 => met_plus hj hc hd e (fun h _ => (e2 h).2) (fun x y hx hy => by
  have h1 : isFr c = true := hx ▸ isFr_fd
  have h2 : isFr d = true := hy ▸ isFr_fd
  have := (e2 h1).1
  rw [h2] at this
  cases this)
theorem ref_minus : Refuse (Str.ofString "minus") := fun n S j x Q E c d hj hc hd e e2 => met_minus hj hc hd e (fun h _ => (e2 h).2) (fun x y hx hy => by
  have h1 : isFr c = true := hx ▸ isFr_fd
  have h2 : isFr d = true := hy ▸ isFr_fd
  have := (e2 h1).1
  rw [h2] at this
  cases this)
theorem ref_times : Refuse (Str.ofString "times") := fun n S j x Q E c d hj hc hd e e2 => met_times hj hc hd e (fun h _ => (e2 h).2) (fun x y hx hy => by
  have h1 : isFr c = true := hx ▸ isFr_fd
  have h2 : isFr d = true := hy ▸ isFr_fd
  have := (e2 h1).1
  rw [h2] at this
  cases this)
theorem ref_over : Refuse (Str.ofString "over") := fun n S j x Q E c d hj hc hd e e2 => met_over hj hc hd e (fun h _ => (e2 h).2) (fun x y hx hy _ => by
  have h1 : isFr c = true := hx ▸ isFr_fd
  have h2 : isFr d = true := hy ▸ isFr_fd
  have := (e2 h1).1
  rw [h2] at this
  cases this)
theorem ref_less : Refuse (Str.ofString "less") := fun n S j x Q E c d hj hc hd e e2 => met_less hj hc hd e (fun h _ => (e2 h).2) (fun x y hx hy => by
  have h1 : isFr c = true := hx ▸ isFr_fd
  have h2 : isFr d = true := hy ▸ isFr_fd
  have := (e2 h1).1
  rw [h2] at this
  cases this)
section
variable {n : Nat} {S : Sto} {Q : Po} {E : Xo} {b k : Nat}
theorem r__law_refused_right {nm : Bool} (hb : Box S b k) (hk : k + 60 ≤ 2 ^ 30) (q : ∀ S', Box S' b (k + 26) → Fr b S S' → Q (.bl true) S') : run sub TT (n + 9) i__law_refused_right [.ref b, .bl nm] S Q E := by
  rw [run_eq at__law_refused_right rfl]
  have m1 : (1 : Nat) ≤ most := by decide
  have m2 : (2 : Nat) ≤ most := by decide
  have m3 : (3 : Nat) ≤ most := by decide
  have m5 : (5 : Nat) ≤ most := by decide
  have m6 : (6 : Nat) ≤ most := by decide
  have me : mergeD [] [] = [] := rfl
  have hbl : b < S.length := let ⟨_, _, _, _, h, _⟩ := hb.ex; lst_lt h
  simp only [f__law_refused_right, _law_refused_right_1, wpS, wpE, wpEs, wpP, wpI, wpT, begin_, hxD, hxD.hxL, catch_, putAll, Ev.unpack, tgSem, wipe, o_add, o_sub, o_mul, o_div, o_mod, o_pow, o_tup, o_lst, o_rep, c_eq, c_ne, c_lt, c_le, c_gt, c_ge, c_isn, c_notn, c_isb, c_in, c_nin, q_int, q_bl, not_true_eq_false, not_false_eq_true, Bool.false_or, Bool.true_or, Bool.or_true, Bool.true_and, Bool.false_and, Bool.and_true, Bool.and_false,  id_eq, lst_new, boolsD, intsD, Option.map_some, List.all_cons, List.all_nil, List.map_append,  q_lit, String.reduceEq, decide_true, decide_false, Bool.not_true, Bool.not_false, Bool.true_eq_false, Bool.false_eq_true, eq_self, i_isn, i_isi, i_isb, i_iss, i_ist, i_isr, t_non, t_int, t_bl, t_str, t_tup, t_fz, b_abs, b_lent, b_lenf, b_lens, b_list, b_tuple, b_int, b_intb, b_sum, b_min2, b_max2, b_all, b_any, b_gcd, b_dict, m_app, m_ext, m_popi, m_pop, x_tup, x_fz, List.map_cons, List.map_nil, List.length_cons, List.length_nil, List.replicate, List.append_nil, List.cons_append, List.nil_append, List.getElem?_cons_zero, List.getElem?_cons_succ, List.set_cons_zero, List.set_cons_succ, Option.some.injEq, D.int.injEq, D.bl.injEq, D.str.injEq, D.tup.injEq, D.ref.injEq, exists_eq_left', exists_eq_left, exists_eq_right, true_and, and_true, Nat.reduceSub, Nat.reduceAdd, Nat.zero_add, reduceCtorEq, false_implies, true_implies, decide_eq_true_eq, decide_eq_false_iff_not, forall_const, List.any_cons, List.any_nil, Bool.or_false, subTy, pl1_0, pn1, pl2_0, pl2_1, pn2, pl3_0, pl3_1, pl3_2, pn3, pl4_0, pl4_1, pl4_2, pl4_3, pn4, pl5_0, pl5_1, pl5_2, pl5_3, pl5_4, pn5, pl6_0, pl6_1, pl6_2, pl6_3, pl6_4, pl6_5, pn6, pl7_0, pl7_1, pl7_2, pl7_3, pl7_4, pl7_5, pl7_6, pn7, pl8_0, pl8_1, pl8_2, pl8_3, pl8_4, pl8_5, pl8_6, pl8_7, pn8, pl9_0, pl9_1, pl9_2, pl9_3, pl9_4, pl9_5, pl9_6, pl9_7, pl9_8, pn9]
  refine r__law_some hb (by omega) fun S1 x hx hb1 fr1 => ?_
  simp only [_law_refused_right_2, wpS, wpE, wpEs, wpP, wpI, wpT, begin_, hxD, hxD.hxL, catch_, putAll, Ev.unpack, tgSem, wipe, o_add, o_sub, o_mul, o_div, o_mod, o_pow, o_tup, o_lst, o_rep, c_eq, c_ne, c_lt, c_le, c_gt, c_ge, c_isn, c_notn, c_isb, c_in, c_nin, q_int, q_bl, not_true_eq_false, not_false_eq_true, Bool.false_or, Bool.true_or, Bool.or_true, Bool.true_and, Bool.false_and, Bool.and_true, Bool.and_false,  id_eq, lst_new, boolsD, intsD, Option.map_some, List.all_cons, List.all_nil, List.map_append,  q_lit, String.reduceEq, decide_true, decide_false, Bool.not_true, Bool.not_false, Bool.true_eq_false, Bool.false_eq_true, eq_self, i_isn, i_isi, i_isb, i_iss, i_ist, i_isr, t_non, t_int, t_bl, t_str, t_tup, t_fz, b_abs, b_lent, b_lenf, b_lens, b_list, b_tuple, b_int, b_intb, b_sum, b_min2, b_max2, b_all, b_any, b_gcd, b_dict, m_app, m_ext, m_popi, m_pop, x_tup, x_fz, List.map_cons, List.map_nil, List.length_cons, List.length_nil, List.replicate, List.append_nil, List.cons_append, List.nil_append, List.getElem?_cons_zero, List.getElem?_cons_succ, List.set_cons_zero, List.set_cons_succ, Option.some.injEq, D.int.injEq, D.bl.injEq, D.str.injEq, D.tup.injEq, D.ref.injEq, exists_eq_left', exists_eq_left, exists_eq_right, true_and, and_true, Nat.reduceSub, Nat.reduceAdd, Nat.zero_add, reduceCtorEq, false_implies, true_implies, decide_eq_true_eq, decide_eq_false_iff_not, forall_const, List.any_cons, List.any_nil, Bool.or_false, subTy, pl1_0, pn1, pl2_0, pl2_1, pn2, pl3_0, pl3_1, pl3_2, pn3, pl4_0, pl4_1, pl4_2, pl4_3, pn4, pl5_0, pl5_1, pl5_2, pl5_3, pl5_4, pn5, pl6_0, pl6_1, pl6_2, pl6_3, pl6_4, pl6_5, pn6, pl7_0, pl7_1, pl7_2, pl7_3, pl7_4, pl7_5, pl7_6, pn7, pl8_0, pl8_1, pl8_2, pl8_3, pl8_4, pl8_5, pl8_6, pl8_7, pn8, pl9_0, pl9_1, pl9_2, pl9_3, pl9_4, pl9_5, pl9_6, pl9_7, pl9_8, pn9, m5, srcVal]
  let I : List D → Ev.Env → Sto → Prop := fun rest env S' => ∃ (j : Nat) (nm' : Bool) (a1 a2 a3 a4 : Option D), env = [some (.ref b), some (.bl nm'), some (FD x), a1, a2, a3, a4, none, none, none, none] ∧ (∀ it ∈ rest, ∃ w, it = .str w ∧ Refuse w) ∧ Box S' b j ∧ j + 3 * rest.length ≤ k + 21 ∧ Fr b S S'
  refine walk_I I (fun _ _ _ _ => trivial) (fun it rest env S' hI N hN => ?_) (fun env S' hI => ?_) _ _ _ ⟨k + 6, nm, none, none, none, none, rfl, ?_, hb1, by simp, fr1⟩
  · obtain ⟨j, nm', a1, a2, a3, a4, rfl, h1, h2, h3, h4⟩ := hI
    obtain ⟨w, rfl, hw⟩ := h1 it (by simp)
    have h1' : ∀ i ∈ rest, ∃ w, i = D.str w ∧ Refuse w := fun i hi => h1 i (by simp [hi])
    rw [List.length_cons] at h3
    simp only [_law_refused_right_2b_1, wpS, wpE, wpEs, wpP, wpI, wpT, begin_, hxD, hxD.hxL, catch_, putAll, Ev.unpack, tgSem, wipe, o_add, o_sub, o_mul, o_div, o_mod, o_pow, o_tup, o_lst, o_rep, c_eq, c_ne, c_lt, c_le, c_gt, c_ge, c_isn, c_notn, c_isb, c_in, c_nin, q_int, q_bl, not_true_eq_false, not_false_eq_true, Bool.false_or, Bool.true_or, Bool.or_true, Bool.true_and, Bool.false_and, Bool.and_true, Bool.and_false,  id_eq, lst_new, boolsD, intsD, Option.map_some, List.all_cons, List.all_nil, List.map_append,  q_lit, String.reduceEq, decide_true, decide_false, Bool.not_true, Bool.not_false, Bool.true_eq_false, Bool.false_eq_true, eq_self, i_isn, i_isi, i_isb, i_iss, i_ist, i_isr, t_non, t_int, t_bl, t_str, t_tup, t_fz, b_abs, b_lent, b_lenf, b_lens, b_list, b_tuple, b_int, b_intb, b_sum, b_min2, b_max2, b_all, b_any, b_gcd, b_dict, m_app, m_ext, m_popi, m_pop, x_tup, x_fz, List.map_cons, List.map_nil, List.length_cons, List.length_nil, List.replicate, List.append_nil, List.cons_append, List.nil_append, List.getElem?_cons_zero, List.getElem?_cons_succ, List.set_cons_zero, List.set_cons_succ, Option.some.injEq, D.int.injEq, D.bl.injEq, D.str.injEq, D.tup.injEq, D.ref.injEq, exists_eq_left', exists_eq_left, exists_eq_right, true_and, and_true, Nat.reduceSub, Nat.reduceAdd, Nat.zero_add, reduceCtorEq, false_implies, true_implies, decide_eq_true_eq, decide_eq_false_iff_not, forall_const, List.any_cons, List.any_nil, Bool.or_false, subTy, pl1_0, pn1, pl2_0, pl2_1, pn2, pl3_0, pl3_1, pl3_2, pn3, pl4_0, pl4_1, pl4_2, pl4_3, pn4, pl5_0, pl5_1, pl5_2, pl5_3, pl5_4, pn5, pl6_0, pl6_1, pl6_2, pl6_3, pl6_4, pl6_5, pn6, pl7_0, pl7_1, pl7_2, pl7_3, pl7_4, pl7_5, pl7_6, pn7, pl8_0, pl8_1, pl8_2, pl8_3, pl8_4, pl8_5, pl8_6, pl8_7, pn8, pl9_0, pl9_1, pl9_2, pl9_3, pl9_4, pl9_5, pl9_6, pl9_7, pl9_8, pn9]
    refine r__law_bad_fraction h2 (by omega) fun S2 bad B2 f2 hb2 fr2 => ?_
    refine r__law_bad_fraction hb2 (by omega) fun S3 odd B3 f3 hb3 fr3 => ?_
    have le4 := h4.le
    have le2 := fr2.le
    have le3 := fr3.le
    simp only [_law_refused_right_2b_2, wpS, wpE, wpEs, wpP, wpI, wpT, begin_, hxD, hxD.hxL, catch_, putAll, Ev.unpack, tgSem, wipe, o_add, o_sub, o_mul, o_div, o_mod, o_pow, o_tup, o_lst, o_rep, c_eq, c_ne, c_lt, c_le, c_gt, c_ge, c_isn, c_notn, c_isb, c_in, c_nin, q_int, q_bl, not_true_eq_false, not_false_eq_true, Bool.false_or, Bool.true_or, Bool.or_true, Bool.true_and, Bool.false_and, Bool.and_true, Bool.and_false,  id_eq, lst_new, boolsD, intsD, Option.map_some, List.all_cons, List.all_nil, List.map_append,  q_lit, String.reduceEq, decide_true, decide_false, Bool.not_true, Bool.not_false, Bool.true_eq_false, Bool.false_eq_true, eq_self, i_isn, i_isi, i_isb, i_iss, i_ist, i_isr, t_non, t_int, t_bl, t_str, t_tup, t_fz, b_abs, b_lent, b_lenf, b_lens, b_list, b_tuple, b_int, b_intb, b_sum, b_min2, b_max2, b_all, b_any, b_gcd, b_dict, m_app, m_ext, m_popi, m_pop, x_tup, x_fz, List.map_cons, List.map_nil, List.length_cons, List.length_nil, List.replicate, List.append_nil, List.cons_append, List.nil_append, List.getElem?_cons_zero, List.getElem?_cons_succ, List.set_cons_zero, List.set_cons_succ, Option.some.injEq, D.int.injEq, D.bl.injEq, D.str.injEq, D.tup.injEq, D.ref.injEq, exists_eq_left', exists_eq_left, exists_eq_right, true_and, and_true, Nat.reduceSub, Nat.reduceAdd, Nat.zero_add, reduceCtorEq, false_implies, true_implies, decide_eq_true_eq, decide_eq_false_iff_not, forall_const, List.any_cons, List.any_nil, Bool.or_false, subTy, pl1_0, pn1, pl2_0, pl2_1, pn2, pl3_0, pl3_1, pl3_2, pn3, pl4_0, pl4_1, pl4_2, pl4_3, pn4, pl5_0, pl5_1, pl5_2, pl5_3, pl5_4, pn5, pl6_0, pl6_1, pl6_2, pl6_3, pl6_4, pl6_5, pn6, pl7_0, pl7_1, pl7_2, pl7_3, pl7_4, pl7_5, pl7_6, pn7, pl8_0, pl8_1, pl8_2, pl8_3, pl8_4, pl8_5, pl8_6, pl8_7, pn8, pl9_0, pl9_1, pl9_2, pl9_3, pl9_4, pl9_5, pl9_6, pl9_7, pl9_8, pn9, m2]
    refine r__law_copy B3 fun S4 d4 g4 B4 hc hi => ?_
    have le4' := gr_le g4
    refine r__law_pick (hb3.gr (g4.trans Gr.one)) (by omega) lst_new (by omega) (by simp) (by simp) fun S5 w5 hw5 hb5 fr5 => ?_
    have fr35 := (g4.trans Gr.one).fr.trans fr5
    have le5 := fr35.le
    have Bd := (B2.fr (by omega) fr3).fr (by omega) fr35
    have Bo := B3.fr (by omega) fr35
    have wf5 : Wf1 S5 w5 := by
      simp only [List.mem_cons, List.not_mem_nil, or_false] at hw5
      rcases hw5 with rfl | rfl
      · exact wf_fd
      · exact ((B4.gr Gr.one).fr (by omega) fr5).wf
    refine hw _ _ _ _ _ _ _ _ lst_new (Bd.gr Gr.one).wf (wf5.gr Gr.one) (fun _ S6 r6 g6 l6 t6 => ?_) (fun h => by rw [f2] at h; cases h)
    refine hw _ _ _ _ _ _ _ _ lst_new wf_fd (Bo.gr (Gr.one.trans (g6.trans Gr.one))).wf (fun h => by rw [isFr_fd] at h; cases h) (fun _ => ⟨f3, fun S7 r7 g7 l7 t7 => ?_⟩)
    have g57 : Gr S5 S7 := (Gr.one.trans g6).trans (Gr.one.trans g7)
    have t6' := (Gr.one.trans g7).lst t6
    have le56 := gr_le (Gr.one.trans g6)
    have le67 := gr_le (Gr.one.trans g7)
    have l6' := lst_lt t6
    have l7' := lst_lt t7
    simp only [List.length_append, List.length_cons, List.length_nil] at l6 l7
    show wpS _ _ _ _ (S7 ++ [Ob.lst [D.ref r6, D.ref r7]]) _
    generalize hA : S7 ++ [Ob.lst [D.ref r6, D.ref r7]] = A
    have gA : Gr S7 A := hA ▸ Gr.one
    have kA : lstAt A S7.length = some [.ref r6, .ref r7] := hA ▸ lst_new
    have k6 := gA.lst t6'
    have k7 := gA.lst t7
    have Bd := Bd.gr (g57.trans gA)
    have Bo := Bo.gr (g57.trans gA)
    have hbA := hb5.gr (g57.trans gA)
    have frA := ((h4.trans fr2).trans fr3).trans (fr35.trans (g57.trans gA).fr)
    simp only [_law_refused_right_2b_3, wpS, wpE, wpEs, wpP, wpI, wpT, begin_, hxD, hxD.hxL, catch_, putAll, Ev.unpack, tgSem, wipe, o_add, o_sub, o_mul, o_div, o_mod, o_pow, o_tup, o_lst, o_rep, c_eq, c_ne, c_lt, c_le, c_gt, c_ge, c_isn, c_notn, c_isb, c_in, c_nin, q_int, q_bl, not_true_eq_false, not_false_eq_true, Bool.false_or, Bool.true_or, Bool.or_true, Bool.true_and, Bool.false_and, Bool.and_true, Bool.and_false,  id_eq, lst_new, boolsD, intsD, Option.map_some, List.all_cons, List.all_nil, List.map_append,  q_lit, String.reduceEq, decide_true, decide_false, Bool.not_true, Bool.not_false, Bool.true_eq_false, Bool.false_eq_true, eq_self, i_isn, i_isi, i_isb, i_iss, i_ist, i_isr, t_non, t_int, t_bl, t_str, t_tup, t_fz, b_abs, b_lent, b_lenf, b_lens, b_list, b_tuple, b_int, b_intb, b_sum, b_min2, b_max2, b_all, b_any, b_gcd, b_dict, m_app, m_ext, m_popi, m_pop, x_tup, x_fz, List.map_cons, List.map_nil, List.length_cons, List.length_nil, List.replicate, List.append_nil, List.cons_append, List.nil_append, List.getElem?_cons_zero, List.getElem?_cons_succ, List.set_cons_zero, List.set_cons_succ, Option.some.injEq, D.int.injEq, D.bl.injEq, D.str.injEq, D.tup.injEq, D.ref.injEq, exists_eq_left', exists_eq_left, exists_eq_right, true_and, and_true, Nat.reduceSub, Nat.reduceAdd, Nat.zero_add, reduceCtorEq, false_implies, true_implies, decide_eq_true_eq, decide_eq_false_iff_not, forall_const, List.any_cons, List.any_nil, Bool.or_false, subTy, pl1_0, pn1, pl2_0, pl2_1, pn2, pl3_0, pl3_1, pl3_2, pn3, pl4_0, pl4_1, pl4_2, pl4_3, pn4, pl5_0, pl5_1, pl5_2, pl5_3, pl5_4, pn5, pl6_0, pl6_1, pl6_2, pl6_3, pl6_4, pl6_5, pn6, pl7_0, pl7_1, pl7_2, pl7_3, pl7_4, pl7_5, pl7_6, pn7, pl8_0, pl8_1, pl8_2, pl8_3, pl8_4, pl8_5, pl8_6, pl8_7, pn8, pl9_0, pl9_1, pl9_2, pl9_3, pl9_4, pl9_5, pl9_6, pl9_7, pl9_8, pn9, srcVal, isVar]
    refine .inl ⟨_, kA, ?_⟩
    refine gather_map (fun _ => .str (Str.ofString "number")) kA _ _ (fun it hit kk hkk => ?_) (by simp [most]) ?_
    · have : ∃ z, it = .ref z ∧ ∃ v, lstAt A z = some [.str (Str.ofString "number"), v] := by
        simp only [List.mem_cons, List.not_mem_nil, or_false] at hit
        rcases hit with rfl | rfl
        · exact ⟨_, rfl, _, k6⟩
        · exact ⟨_, rfl, _, k7⟩
      obtain ⟨z, rfl, v, hz⟩ := this
      simp only [wpS, wpE, wpEs, wpP, wpI, wpT, begin_, hxD, hxD.hxL, catch_, putAll, Ev.unpack, tgSem, wipe, o_add, o_sub, o_mul, o_div, o_mod, o_pow, o_tup, o_lst, o_rep, c_eq, c_ne, c_lt, c_le, c_gt, c_ge, c_isn, c_notn, c_isb, c_in, c_nin, q_int, q_bl, not_true_eq_false, not_false_eq_true, Bool.false_or, Bool.true_or, Bool.or_true, Bool.true_and, Bool.false_and, Bool.and_true, Bool.and_false,  id_eq, lst_new, boolsD, intsD, Option.map_some, List.all_cons, List.all_nil, List.map_append,  q_lit, String.reduceEq, decide_true, decide_false, Bool.not_true, Bool.not_false, Bool.true_eq_false, Bool.false_eq_true, eq_self, i_isn, i_isi, i_isb, i_iss, i_ist, i_isr, t_non, t_int, t_bl, t_str, t_tup, t_fz, b_abs, b_lent, b_lenf, b_lens, b_list, b_tuple, b_int, b_intb, b_sum, b_min2, b_max2, b_all, b_any, b_gcd, b_dict, m_app, m_ext, m_popi, m_pop, x_tup, x_fz, List.map_cons, List.map_nil, List.length_cons, List.length_nil, List.replicate, List.append_nil, List.cons_append, List.nil_append, List.getElem?_cons_zero, List.getElem?_cons_succ, List.set_cons_zero, List.set_cons_succ, Option.some.injEq, D.int.injEq, D.bl.injEq, D.str.injEq, D.tup.injEq, D.ref.injEq, exists_eq_left', exists_eq_left, exists_eq_right, true_and, and_true, Nat.reduceSub, Nat.reduceAdd, Nat.zero_add, reduceCtorEq, false_implies, true_implies, decide_eq_true_eq, decide_eq_false_iff_not, forall_const, List.any_cons, List.any_nil, Bool.or_false, subTy, pl1_0, pn1, pl2_0, pl2_1, pn2, pl3_0, pl3_1, pl3_2, pn3, pl4_0, pl4_1, pl4_2, pl4_3, pn4, pl5_0, pl5_1, pl5_2, pl5_3, pl5_4, pn5, pl6_0, pl6_1, pl6_2, pl6_3, pl6_4, pl6_5, pn6, pl7_0, pl7_1, pl7_2, pl7_3, pl7_4, pl7_5, pl7_6, pn7, pl8_0, pl8_1, pl8_2, pl8_3, pl8_4, pl8_5, pl8_6, pl8_7, pn8, pl9_0, pl9_1, pl9_2, pl9_3, pl9_4, pl9_5, pl9_6, pl9_7, pl9_8, pn9, x_lst hz]
      exact hkk
    refine ⟨m2, ?_⟩
    simp only [List.map_cons, List.map_nil, List.nil_append]
    refine q_two (sOk _) (lst_old lst_new) lst_new ⟨fun z => (by cases z), fun _ => ?_⟩
    generalize hB : A ++ [Ob.lst [D.str (Str.ofString "number"), D.str (Str.ofString "number")]] ++ [Ob.lst [D.str (Str.ofString "number"), D.str (Str.ofString "number")]] = B
    have gB : Gr A B := hB ▸ (Gr.one.trans Gr.one)
    clear hB
    simp only [wpS, wpE, wpEs, wpP, wpI, wpT, begin_, hxD, hxD.hxL, catch_, putAll, Ev.unpack, tgSem, wipe, o_add, o_sub, o_mul, o_div, o_mod, o_pow, o_tup, o_lst, o_rep, c_eq, c_ne, c_lt, c_le, c_gt, c_ge, c_isn, c_notn, c_isb, c_in, c_nin, q_int, q_bl, not_true_eq_false, not_false_eq_true, Bool.false_or, Bool.true_or, Bool.or_true, Bool.true_and, Bool.false_and, Bool.and_true, Bool.and_false,  id_eq, lst_new, boolsD, intsD, Option.map_some, List.all_cons, List.all_nil, List.map_append,  q_lit, String.reduceEq, decide_true, decide_false, Bool.not_true, Bool.not_false, Bool.true_eq_false, Bool.false_eq_true, eq_self, i_isn, i_isi, i_isb, i_iss, i_ist, i_isr, t_non, t_int, t_bl, t_str, t_tup, t_fz, b_abs, b_lent, b_lenf, b_lens, b_list, b_tuple, b_int, b_intb, b_sum, b_min2, b_max2, b_all, b_any, b_gcd, b_dict, m_app, m_ext, m_popi, m_pop, x_tup, x_fz, List.map_cons, List.map_nil, List.length_cons, List.length_nil, List.replicate, List.append_nil, List.cons_append, List.nil_append, List.getElem?_cons_zero, List.getElem?_cons_succ, List.set_cons_zero, List.set_cons_succ, Option.some.injEq, D.int.injEq, D.bl.injEq, D.str.injEq, D.tup.injEq, D.ref.injEq, exists_eq_left', exists_eq_left, exists_eq_right, true_and, and_true, Nat.reduceSub, Nat.reduceAdd, Nat.zero_add, reduceCtorEq, false_implies, true_implies, decide_eq_true_eq, decide_eq_false_iff_not, forall_const, List.any_cons, List.any_nil, Bool.or_false, subTy, pl1_0, pn1, pl2_0, pl2_1, pn2, pl3_0, pl3_1, pl3_2, pn3, pl4_0, pl4_1, pl4_2, pl4_3, pn4, pl5_0, pl5_1, pl5_2, pl5_3, pl5_4, pn5, pl6_0, pl6_1, pl6_2, pl6_3, pl6_4, pl6_5, pn6, pl7_0, pl7_1, pl7_2, pl7_3, pl7_4, pl7_5, pl7_6, pn7, pl8_0, pl8_1, pl8_2, pl8_3, pl8_4, pl8_5, pl8_6, pl8_7, pn8, pl9_0, pl9_1, pl9_2, pl9_3, pl9_4, pl9_5, pl9_6, pl9_7, pl9_8, pn9, x_lst (gB.lst kA), x_lst (gB.lst k6)]
    have nb : ∀ i, bad = .ref i → S'.length ≤ i ∧ i < S2.length := fun i e => B2.lo i e
    have no : ∀ i, odd = .ref i → S2.length ≤ i ∧ i < S3.length := fun i e => B3.lo i e
    refine r__law_very (lo := S'.length) (Bd.gr gB) (show b < S'.length by omega) fun S8 f8 => ?_
    have kA8 := f8.lst (fun e => by have := nb _ e; omega) (gB.lst kA)
    have k78 := f8.lst (fun e => by have := nb _ e; omega) (gB.lst k7)
    simp only [wpS, wpE, wpEs, wpP, wpI, wpT, begin_, hxD, hxD.hxL, catch_, putAll, Ev.unpack, tgSem, wipe, o_add, o_sub, o_mul, o_div, o_mod, o_pow, o_tup, o_lst, o_rep, c_eq, c_ne, c_lt, c_le, c_gt, c_ge, c_isn, c_notn, c_isb, c_in, c_nin, q_int, q_bl, not_true_eq_false, not_false_eq_true, Bool.false_or, Bool.true_or, Bool.or_true, Bool.true_and, Bool.false_and, Bool.and_true, Bool.and_false,  id_eq, lst_new, boolsD, intsD, Option.map_some, List.all_cons, List.all_nil, List.map_append,  q_lit, String.reduceEq, decide_true, decide_false, Bool.not_true, Bool.not_false, Bool.true_eq_false, Bool.false_eq_true, eq_self, i_isn, i_isi, i_isb, i_iss, i_ist, i_isr, t_non, t_int, t_bl, t_str, t_tup, t_fz, b_abs, b_lent, b_lenf, b_lens, b_list, b_tuple, b_int, b_intb, b_sum, b_min2, b_max2, b_all, b_any, b_gcd, b_dict, m_app, m_ext, m_popi, m_pop, x_tup, x_fz, List.map_cons, List.map_nil, List.length_cons, List.length_nil, List.replicate, List.append_nil, List.cons_append, List.nil_append, List.getElem?_cons_zero, List.getElem?_cons_succ, List.set_cons_zero, List.set_cons_succ, Option.some.injEq, D.int.injEq, D.bl.injEq, D.str.injEq, D.tup.injEq, D.ref.injEq, exists_eq_left', exists_eq_left, exists_eq_right, true_and, and_true, Nat.reduceSub, Nat.reduceAdd, Nat.zero_add, reduceCtorEq, false_implies, true_implies, decide_eq_true_eq, decide_eq_false_iff_not, forall_const, List.any_cons, List.any_nil, Bool.or_false, subTy, pl1_0, pn1, pl2_0, pl2_1, pn2, pl3_0, pl3_1, pl3_2, pn3, pl4_0, pl4_1, pl4_2, pl4_3, pn4, pl5_0, pl5_1, pl5_2, pl5_3, pl5_4, pn5, pl6_0, pl6_1, pl6_2, pl6_3, pl6_4, pl6_5, pn6, pl7_0, pl7_1, pl7_2, pl7_3, pl7_4, pl7_5, pl7_6, pn7, pl8_0, pl8_1, pl8_2, pl8_3, pl8_4, pl8_5, pl8_6, pl8_7, pn8, pl9_0, pl9_1, pl9_2, pl9_3, pl9_4, pl9_5, pl9_6, pl9_7, pl9_8, pn9, x_lst kA8, x_lst k78]
    have Bo8 := (Bo.gr gB).frd f8 (fun i e e' => by have := nb _ e'; have := no _ e; omega)
    refine r__law_very (lo := S2.length) Bo8 (show b < S2.length by omega) fun S9 f9 => ?_
    simp only [_law_refused_right_2b_4, wpS, wpE, wpEs, wpP, wpI, wpT, begin_, hxD, hxD.hxL, catch_, putAll, Ev.unpack, tgSem, wipe, o_add, o_sub, o_mul, o_div, o_mod, o_pow, o_tup, o_lst, o_rep, c_eq, c_ne, c_lt, c_le, c_gt, c_ge, c_isn, c_notn, c_isb, c_in, c_nin, q_int, q_bl, not_true_eq_false, not_false_eq_true, Bool.false_or, Bool.true_or, Bool.or_true, Bool.true_and, Bool.false_and, Bool.and_true, Bool.and_false,  id_eq, lst_new, boolsD, intsD, Option.map_some, List.all_cons, List.all_nil, List.map_append,  q_lit, String.reduceEq, decide_true, decide_false, Bool.not_true, Bool.not_false, Bool.true_eq_false, Bool.false_eq_true, eq_self, i_isn, i_isi, i_isb, i_iss, i_ist, i_isr, t_non, t_int, t_bl, t_str, t_tup, t_fz, b_abs, b_lent, b_lenf, b_lens, b_list, b_tuple, b_int, b_intb, b_sum, b_min2, b_max2, b_all, b_any, b_gcd, b_dict, m_app, m_ext, m_popi, m_pop, x_tup, x_fz, List.map_cons, List.map_nil, List.length_cons, List.length_nil, List.replicate, List.append_nil, List.cons_append, List.nil_append, List.getElem?_cons_zero, List.getElem?_cons_succ, List.set_cons_zero, List.set_cons_succ, Option.some.injEq, D.int.injEq, D.bl.injEq, D.str.injEq, D.tup.injEq, D.ref.injEq, exists_eq_left', exists_eq_left, exists_eq_right, true_and, and_true, Nat.reduceSub, Nat.reduceAdd, Nat.zero_add, reduceCtorEq, false_implies, true_implies, decide_eq_true_eq, decide_eq_false_iff_not, forall_const, List.any_cons, List.any_nil, Bool.or_false, subTy, pl1_0, pn1, pl2_0, pl2_1, pn2, pl3_0, pl3_1, pl3_2, pn3, pl4_0, pl4_1, pl4_2, pl4_3, pn4, pl5_0, pl5_1, pl5_2, pl5_3, pl5_4, pn5, pl6_0, pl6_1, pl6_2, pl6_3, pl6_4, pl6_5, pn6, pl7_0, pl7_1, pl7_2, pl7_3, pl7_4, pl7_5, pl7_6, pn7, pl8_0, pl8_1, pl8_2, pl8_3, pl8_4, pl8_5, pl8_6, pl8_7, pn8, pl9_0, pl9_1, pl9_2, pl9_3, pl9_4, pl9_5, pl9_6, pl9_7, pl9_8, pn9]
    exact hN _ _ ⟨j + 3, !nm', _, _, _, _, rfl, h1', f9.box (fun e => by have := no _ e; omega) (f8.box (fun e => by have := nb _ e; omega) (hbA.gr gB)), by omega, fr_frd (fr_frd (frA.trans gB.fr) f8 (fun i e => by have := nb _ e; omega)) f9 (fun i e => by have := no _ e; omega)⟩
  · obtain ⟨j, nm', a1, a2, a3, a4, rfl, h1, h2, h3, h4⟩ := hI
    have h3 : j ≤ k + 21 := by simpa using h3
    have hbS := h4.le
    simp only [_law_refused_right_3, wpS, wpE, wpEs, wpP, wpI, wpT, begin_, hxD, hxD.hxL, catch_, putAll, Ev.unpack, tgSem, wipe, o_add, o_sub, o_mul, o_div, o_mod, o_pow, o_tup, o_lst, o_rep, c_eq, c_ne, c_lt, c_le, c_gt, c_ge, c_isn, c_notn, c_isb, c_in, c_nin, q_int, q_bl, not_true_eq_false, not_false_eq_true, Bool.false_or, Bool.true_or, Bool.or_true, Bool.true_and, Bool.false_and, Bool.and_true, Bool.and_false,  id_eq, lst_new, boolsD, intsD, Option.map_some, List.all_cons, List.all_nil, List.map_append,  q_lit, String.reduceEq, decide_true, decide_false, Bool.not_true, Bool.not_false, Bool.true_eq_false, Bool.false_eq_true, eq_self, i_isn, i_isi, i_isb, i_iss, i_ist, i_isr, t_non, t_int, t_bl, t_str, t_tup, t_fz, b_abs, b_lent, b_lenf, b_lens, b_list, b_tuple, b_int, b_intb, b_sum, b_min2, b_max2, b_all, b_any, b_gcd, b_dict, m_app, m_ext, m_popi, m_pop, x_tup, x_fz, List.map_cons, List.map_nil, List.length_cons, List.length_nil, List.replicate, List.append_nil, List.cons_append, List.nil_append, List.getElem?_cons_zero, List.getElem?_cons_succ, List.set_cons_zero, List.set_cons_succ, Option.some.injEq, D.int.injEq, D.bl.injEq, D.str.injEq, D.tup.injEq, D.ref.injEq, exists_eq_left', exists_eq_left, exists_eq_right, true_and, and_true, Nat.reduceSub, Nat.reduceAdd, Nat.zero_add, reduceCtorEq, false_implies, true_implies, decide_eq_true_eq, decide_eq_false_iff_not, forall_const, List.any_cons, List.any_nil, Bool.or_false, subTy, pl1_0, pn1, pl2_0, pl2_1, pn2, pl3_0, pl3_1, pl3_2, pn3, pl4_0, pl4_1, pl4_2, pl4_3, pn4, pl5_0, pl5_1, pl5_2, pl5_3, pl5_4, pn5, pl6_0, pl6_1, pl6_2, pl6_3, pl6_4, pl6_5, pn6, pl7_0, pl7_1, pl7_2, pl7_3, pl7_4, pl7_5, pl7_6, pn7, pl8_0, pl8_1, pl8_2, pl8_3, pl8_4, pl8_5, pl8_6, pl8_7, pn8, pl9_0, pl9_1, pl9_2, pl9_3, pl9_4, pl9_5, pl9_6, pl9_7, pl9_8, pn9]
    refine r__law_bad_fraction h2 (by omega) fun S2 bad B2 f2 hb2 fr2 => ?_
    simp only [_law_refused_right_4, wpS, wpE, wpEs, wpP, wpI, wpT, begin_, hxD, hxD.hxL, catch_, putAll, Ev.unpack, tgSem, wipe, o_add, o_sub, o_mul, o_div, o_mod, o_pow, o_tup, o_lst, o_rep, c_eq, c_ne, c_lt, c_le, c_gt, c_ge, c_isn, c_notn, c_isb, c_in, c_nin, q_int, q_bl, not_true_eq_false, not_false_eq_true, Bool.false_or, Bool.true_or, Bool.or_true, Bool.true_and, Bool.false_and, Bool.and_true, Bool.and_false,  id_eq, lst_new, boolsD, intsD, Option.map_some, List.all_cons, List.all_nil, List.map_append,  q_lit, String.reduceEq, decide_true, decide_false, Bool.not_true, Bool.not_false, Bool.true_eq_false, Bool.false_eq_true, eq_self, i_isn, i_isi, i_isb, i_iss, i_ist, i_isr, t_non, t_int, t_bl, t_str, t_tup, t_fz, b_abs, b_lent, b_lenf, b_lens, b_list, b_tuple, b_int, b_intb, b_sum, b_min2, b_max2, b_all, b_any, b_gcd, b_dict, m_app, m_ext, m_popi, m_pop, x_tup, x_fz, List.map_cons, List.map_nil, List.length_cons, List.length_nil, List.replicate, List.append_nil, List.cons_append, List.nil_append, List.getElem?_cons_zero, List.getElem?_cons_succ, List.set_cons_zero, List.set_cons_succ, Option.some.injEq, D.int.injEq, D.bl.injEq, D.str.injEq, D.tup.injEq, D.ref.injEq, exists_eq_left', exists_eq_left, exists_eq_right, true_and, and_true, Nat.reduceSub, Nat.reduceAdd, Nat.zero_add, reduceCtorEq, false_implies, true_implies, decide_eq_true_eq, decide_eq_false_iff_not, forall_const, List.any_cons, List.any_nil, Bool.or_false, subTy, pl1_0, pn1, pl2_0, pl2_1, pn2, pl3_0, pl3_1, pl3_2, pn3, pl4_0, pl4_1, pl4_2, pl4_3, pn4, pl5_0, pl5_1, pl5_2, pl5_3, pl5_4, pn5, pl6_0, pl6_1, pl6_2, pl6_3, pl6_4, pl6_5, pn6, pl7_0, pl7_1, pl7_2, pl7_3, pl7_4, pl7_5, pl7_6, pn7, pl8_0, pl8_1, pl8_2, pl8_3, pl8_4, pl8_5, pl8_6, pl8_7, pn8, pl9_0, pl9_1, pl9_2, pl9_3, pl9_4, pl9_5, pl9_6, pl9_7, pl9_8, pn9, m1]
    refine met_root lst_new (B2.gr Gr.one).wf (fun _ S3 r3 g3 l3 t3 => ?_) (fun x' hx' => by rw [hx', isFr_fd] at f2; cases f2)
    simp only [_law_refused_right_5, wpS, wpE, wpEs, wpP, wpI, wpT, begin_, hxD, hxD.hxL, catch_, putAll, Ev.unpack, tgSem, wipe, o_add, o_sub, o_mul, o_div, o_mod, o_pow, o_tup, o_lst, o_rep, c_eq, c_ne, c_lt, c_le, c_gt, c_ge, c_isn, c_notn, c_isb, c_in, c_nin, q_int, q_bl, not_true_eq_false, not_false_eq_true, Bool.false_or, Bool.true_or, Bool.or_true, Bool.true_and, Bool.false_and, Bool.and_true, Bool.and_false,  id_eq, lst_new, boolsD, intsD, Option.map_some, List.all_cons, List.all_nil, List.map_append,  q_lit, String.reduceEq, decide_true, decide_false, Bool.not_true, Bool.not_false, Bool.true_eq_false, Bool.false_eq_true, eq_self, i_isn, i_isi, i_isb, i_iss, i_ist, i_isr, t_non, t_int, t_bl, t_str, t_tup, t_fz, b_abs, b_lent, b_lenf, b_lens, b_list, b_tuple, b_int, b_intb, b_sum, b_min2, b_max2, b_all, b_any, b_gcd, b_dict, m_app, m_ext, m_popi, m_pop, x_tup, x_fz, List.map_cons, List.map_nil, List.length_cons, List.length_nil, List.replicate, List.append_nil, List.cons_append, List.nil_append, List.getElem?_cons_zero, List.getElem?_cons_succ, List.set_cons_zero, List.set_cons_succ, Option.some.injEq, D.int.injEq, D.bl.injEq, D.str.injEq, D.tup.injEq, D.ref.injEq, exists_eq_left', exists_eq_left, exists_eq_right, true_and, and_true, Nat.reduceSub, Nat.reduceAdd, Nat.zero_add, reduceCtorEq, false_implies, true_implies, decide_eq_true_eq, decide_eq_false_iff_not, forall_const, List.any_cons, List.any_nil, Bool.or_false, subTy, pl1_0, pn1, pl2_0, pl2_1, pn2, pl3_0, pl3_1, pl3_2, pn3, pl4_0, pl4_1, pl4_2, pl4_3, pn4, pl5_0, pl5_1, pl5_2, pl5_3, pl5_4, pn5, pl6_0, pl6_1, pl6_2, pl6_3, pl6_4, pl6_5, pn6, pl7_0, pl7_1, pl7_2, pl7_3, pl7_4, pl7_5, pl7_6, pn7, pl8_0, pl8_1, pl8_2, pl8_3, pl8_4, pl8_5, pl8_6, pl8_7, pn8, pl9_0, pl9_1, pl9_2, pl9_3, pl9_4, pl9_5, pl9_6, pl9_7, pl9_8, pn9, x_lst t3]
    have g3' := Gr.one.trans g3
    have le2 := fr2.le
    have nb : ∀ i, bad = .ref i → S'.length ≤ i ∧ i < S2.length := fun i e => B2.lo i e
    have B3 := B2.gr g3'
    refine r__law_very (lo := S'.length) B3 (show b < S'.length by omega) fun S4 f4 => ?_
    have hb4 : Box S4 b (j + 1) := f4.box (fun e => by have := nb _ e; omega) (hb2.gr g3')
    have fr4 : Fr b S S4 := fr_frd ((h4.trans fr2).trans g3'.fr) f4 (fun i e => by have := nb _ e; omega)
    have le4 := fr4.le
    clear f4 B3 nb h2 h4 hb2 fr2
    simp only [_law_refused_right_6, wpS, wpE, wpEs, wpP, wpI, wpT, begin_, hxD, hxD.hxL, catch_, putAll, Ev.unpack, tgSem, wipe, o_add, o_sub, o_mul, o_div, o_mod, o_pow, o_tup, o_lst, o_rep, c_eq, c_ne, c_lt, c_le, c_gt, c_ge, c_isn, c_notn, c_isb, c_in, c_nin, q_int, q_bl, not_true_eq_false, not_false_eq_true, Bool.false_or, Bool.true_or, Bool.or_true, Bool.true_and, Bool.false_and, Bool.and_true, Bool.and_false,  id_eq, lst_new, boolsD, intsD, Option.map_some, List.all_cons, List.all_nil, List.map_append,  q_lit, String.reduceEq, decide_true, decide_false, Bool.not_true, Bool.not_false, Bool.true_eq_false, Bool.false_eq_true, eq_self, i_isn, i_isi, i_isb, i_iss, i_ist, i_isr, t_non, t_int, t_bl, t_str, t_tup, t_fz, b_abs, b_lent, b_lenf, b_lens, b_list, b_tuple, b_int, b_intb, b_sum, b_min2, b_max2, b_all, b_any, b_gcd, b_dict, m_app, m_ext, m_popi, m_pop, x_tup, x_fz, List.map_cons, List.map_nil, List.length_cons, List.length_nil, List.replicate, List.append_nil, List.cons_append, List.nil_append, List.getElem?_cons_zero, List.getElem?_cons_succ, List.set_cons_zero, List.set_cons_succ, Option.some.injEq, D.int.injEq, D.bl.injEq, D.str.injEq, D.tup.injEq, D.ref.injEq, exists_eq_left', exists_eq_left, exists_eq_right, true_and, and_true, Nat.reduceSub, Nat.reduceAdd, Nat.zero_add, reduceCtorEq, false_implies, true_implies, decide_eq_true_eq, decide_eq_false_iff_not, forall_const, List.any_cons, List.any_nil, Bool.or_false, subTy, pl1_0, pn1, pl2_0, pl2_1, pn2, pl3_0, pl3_1, pl3_2, pn3, pl4_0, pl4_1, pl4_2, pl4_3, pn4, pl5_0, pl5_1, pl5_2, pl5_3, pl5_4, pn5, pl6_0, pl6_1, pl6_2, pl6_3, pl6_4, pl6_5, pn6, pl7_0, pl7_1, pl7_2, pl7_3, pl7_4, pl7_5, pl7_6, pn7, pl8_0, pl8_1, pl8_2, pl8_3, pl8_4, pl8_5, pl8_6, pl8_7, pn8, pl9_0, pl9_1, pl9_2, pl9_3, pl9_4, pl9_5, pl9_6, pl9_7, pl9_8, pn9, m1, m2, m6, me, List.zip_nil_left, Nat.zero_le]
    generalize hA1 : S4 ++ [Ob.lst [D.int 1]] = A1
    have gA1 : Gr S4 A1 := hA1 ▸ Gr.one
    have kA1 : lstAt A1 S4.length = some [D.int 1] := hA1 ▸ lst_new
    generalize hA2 : A1 ++ [Ob.dct []] = A2
    have gA2 : Gr A1 A2 := hA2 ▸ Gr.one
    have kA2 : A2[A1.length]? = some (.dct []) := hA2 ▸ dct_new
    have lA1 := gr_le gA1
    have lA2 := gr_le gA2
    have wrongs2 : ∀ w ∈ [D.non, D.bl true, D.str (Str.ofString "1"), D.tup [D.int 1, D.int 2], D.ref S4.length, D.ref A1.length], Bad A2 S4.length w ∧ isInt w = false := by
      intro w hw
      simp only [List.mem_cons, List.not_mem_nil, or_false] at hw
      rcases hw with rfl | rfl | rfl | rfl | rfl | rfl
      · exact ⟨.im rfl, rfl⟩
      · exact ⟨.im rfl, rfl⟩
      · exact ⟨.im (imS (k := 3) (by decide)), rfl⟩
      · exact ⟨.im rfl, rfl⟩
      · exact ⟨.lst (Nat.le_refl _) (gA2.lst kA1) (by simp) (fun x hx => by rw [List.mem_singleton.mp hx]; rfl), rfl⟩
      · exact ⟨.dct (by omega) kA2, rfl⟩
    generalize hWL : [D.non, D.bl true, D.str (Str.ofString "1"), D.tup [D.int 1, D.int 2], D.ref S4.length, D.ref A1.length] = WL at wrongs2 ⊢
    have lWL : WL.length = 6 := by rw [← hWL]; rfl
    generalize hA3 : A2 ++ [Ob.lst WL] = A3
    have gA3 : Gr A2 A3 := hA3 ▸ Gr.one
    have kA3 : lstAt A3 A2.length = some WL := hA3 ▸ lst_new
    have lA3 := gr_le gA3
    have wrongs : ∀ S5, Fr b A3 S5 → ∀ w ∈ WL, Bad S5 S4.length w ∧ isInt w = false := fun S5 f w hw => ⟨((wrongs2 w hw).1.gr gA3).fr (by omega) f, (wrongs2 w hw).2⟩
    have g04 := gA1.trans (gA2.trans gA3)
    simp only [_law_refused_right_7, wpS, wpE, wpEs, wpP, wpI, wpT, begin_, hxD, hxD.hxL, catch_, putAll, Ev.unpack, tgSem, wipe, o_add, o_sub, o_mul, o_div, o_mod, o_pow, o_tup, o_lst, o_rep, c_eq, c_ne, c_lt, c_le, c_gt, c_ge, c_isn, c_notn, c_isb, c_in, c_nin, q_int, q_bl, not_true_eq_false, not_false_eq_true, Bool.false_or, Bool.true_or, Bool.or_true, Bool.true_and, Bool.false_and, Bool.and_true, Bool.and_false,  id_eq, lst_new, boolsD, intsD, Option.map_some, List.all_cons, List.all_nil, List.map_append,  q_lit, String.reduceEq, decide_true, decide_false, Bool.not_true, Bool.not_false, Bool.true_eq_false, Bool.false_eq_true, eq_self, i_isn, i_isi, i_isb, i_iss, i_ist, i_isr, t_non, t_int, t_bl, t_str, t_tup, t_fz, b_abs, b_lent, b_lenf, b_lens, b_list, b_tuple, b_int, b_intb, b_sum, b_min2, b_max2, b_all, b_any, b_gcd, b_dict, m_app, m_ext, m_popi, m_pop, x_tup, x_fz, List.map_cons, List.map_nil, List.length_cons, List.length_nil, List.replicate, List.append_nil, List.cons_append, List.nil_append, List.getElem?_cons_zero, List.getElem?_cons_succ, List.set_cons_zero, List.set_cons_succ, Option.some.injEq, D.int.injEq, D.bl.injEq, D.str.injEq, D.tup.injEq, D.ref.injEq, exists_eq_left', exists_eq_left, exists_eq_right, true_and, and_true, Nat.reduceSub, Nat.reduceAdd, Nat.zero_add, reduceCtorEq, false_implies, true_implies, decide_eq_true_eq, decide_eq_false_iff_not, forall_const, List.any_cons, List.any_nil, Bool.or_false, subTy, pl1_0, pn1, pl2_0, pl2_1, pn2, pl3_0, pl3_1, pl3_2, pn3, pl4_0, pl4_1, pl4_2, pl4_3, pn4, pl5_0, pl5_1, pl5_2, pl5_3, pl5_4, pn5, pl6_0, pl6_1, pl6_2, pl6_3, pl6_4, pl6_5, pn6, pl7_0, pl7_1, pl7_2, pl7_3, pl7_4, pl7_5, pl7_6, pn7, pl8_0, pl8_1, pl8_2, pl8_3, pl8_4, pl8_5, pl8_6, pl8_7, pn8, pl9_0, pl9_1, pl9_2, pl9_3, pl9_4, pl9_5, pl9_6, pl9_7, pl9_8, pn9]
    refine r__law_pick (hb4.gr g04) (by omega) kA3 (by omega) (fun e => by rw [e] at lWL; cases lWL) (by omega) fun S5 w5 hw5 hb5 fr5 => ?_
    obtain ⟨B5, i5⟩ := wrongs S5 fr5 w5 hw5
    refine r__law_copy B5 fun S6 d6 g6 B6 c6 _ => ?_
    have i6 : isInt d6 = false := by rw [c6.2, i5]
    have fr6 := fr5.trans g6.fr
    have le6 := fr6.le
    have le56 := gr_le g6
    have le35 := fr5.le
    simp only [wpS, wpE, wpEs, wpP, wpI, wpT, begin_, hxD, hxD.hxL, catch_, putAll, Ev.unpack, tgSem, wipe, o_add, o_sub, o_mul, o_div, o_mod, o_pow, o_tup, o_lst, o_rep, c_eq, c_ne, c_lt, c_le, c_gt, c_ge, c_isn, c_notn, c_isb, c_in, c_nin, q_int, q_bl, not_true_eq_false, not_false_eq_true, Bool.false_or, Bool.true_or, Bool.or_true, Bool.true_and, Bool.false_and, Bool.and_true, Bool.and_false,  id_eq, lst_new, boolsD, intsD, Option.map_some, List.all_cons, List.all_nil, List.map_append,  q_lit, String.reduceEq, decide_true, decide_false, Bool.not_true, Bool.not_false, Bool.true_eq_false, Bool.false_eq_true, eq_self, i_isn, i_isi, i_isb, i_iss, i_ist, i_isr, t_non, t_int, t_bl, t_str, t_tup, t_fz, b_abs, b_lent, b_lenf, b_lens, b_list, b_tuple, b_int, b_intb, b_sum, b_min2, b_max2, b_all, b_any, b_gcd, b_dict, m_app, m_ext, m_popi, m_pop, x_tup, x_fz, List.map_cons, List.map_nil, List.length_cons, List.length_nil, List.replicate, List.append_nil, List.cons_append, List.nil_append, List.getElem?_cons_zero, List.getElem?_cons_succ, List.set_cons_zero, List.set_cons_succ, Option.some.injEq, D.int.injEq, D.bl.injEq, D.str.injEq, D.tup.injEq, D.ref.injEq, exists_eq_left', exists_eq_left, exists_eq_right, true_and, and_true, Nat.reduceSub, Nat.reduceAdd, Nat.zero_add, reduceCtorEq, false_implies, true_implies, decide_eq_true_eq, decide_eq_false_iff_not, forall_const, List.any_cons, List.any_nil, Bool.or_false, subTy, pl1_0, pn1, pl2_0, pl2_1, pn2, pl3_0, pl3_1, pl3_2, pn3, pl4_0, pl4_1, pl4_2, pl4_3, pn4, pl5_0, pl5_1, pl5_2, pl5_3, pl5_4, pn5, pl6_0, pl6_1, pl6_2, pl6_3, pl6_4, pl6_5, pn6, pl7_0, pl7_1, pl7_2, pl7_3, pl7_4, pl7_5, pl7_6, pn7, pl8_0, pl8_1, pl8_2, pl8_3, pl8_4, pl8_5, pl8_6, pl8_7, pn8, pl9_0, pl9_1, pl9_2, pl9_3, pl9_4, pl9_5, pl9_6, pl9_7, pl9_8, pn9, m3]
    refine r__law_pick ((hb5.gr g6).gr Gr.one) (by omega) lst_new (by omega) (by simp) (by simp) fun S7 w7 hw7 hb7 fr7 => ?_
    have wf7 : ∀ T, Wf T w7 := fun T => by
      simp only [List.mem_cons, List.not_mem_nil, or_false] at hw7
      rcases hw7 with rfl | rfl | rfl <;> exact ⟨_, rfl⟩
    have fr67 : Fr b S6 S7 := Gr.one.fr.trans fr7
    have fr37 := fr6.trans fr67
    have le67 := fr67.le
    simp only [wpS, wpE, wpEs, wpP, wpI, wpT, begin_, hxD, hxD.hxL, catch_, putAll, Ev.unpack, tgSem, wipe, o_add, o_sub, o_mul, o_div, o_mod, o_pow, o_tup, o_lst, o_rep, c_eq, c_ne, c_lt, c_le, c_gt, c_ge, c_isn, c_notn, c_isb, c_in, c_nin, q_int, q_bl, not_true_eq_false, not_false_eq_true, Bool.false_or, Bool.true_or, Bool.or_true, Bool.true_and, Bool.false_and, Bool.and_true, Bool.and_false,  id_eq, lst_new, boolsD, intsD, Option.map_some, List.all_cons, List.all_nil, List.map_append,  q_lit, String.reduceEq, decide_true, decide_false, Bool.not_true, Bool.not_false, Bool.true_eq_false, Bool.false_eq_true, eq_self, i_isn, i_isi, i_isb, i_iss, i_ist, i_isr, t_non, t_int, t_bl, t_str, t_tup, t_fz, b_abs, b_lent, b_lenf, b_lens, b_list, b_tuple, b_int, b_intb, b_sum, b_min2, b_max2, b_all, b_any, b_gcd, b_dict, m_app, m_ext, m_popi, m_pop, x_tup, x_fz, List.map_cons, List.map_nil, List.length_cons, List.length_nil, List.replicate, List.append_nil, List.cons_append, List.nil_append, List.getElem?_cons_zero, List.getElem?_cons_succ, List.set_cons_zero, List.set_cons_succ, Option.some.injEq, D.int.injEq, D.bl.injEq, D.str.injEq, D.tup.injEq, D.ref.injEq, exists_eq_left', exists_eq_left, exists_eq_right, true_and, and_true, Nat.reduceSub, Nat.reduceAdd, Nat.zero_add, reduceCtorEq, false_implies, true_implies, decide_eq_true_eq, decide_eq_false_iff_not, forall_const, List.any_cons, List.any_nil, Bool.or_false, subTy, pl1_0, pn1, pl2_0, pl2_1, pn2, pl3_0, pl3_1, pl3_2, pn3, pl4_0, pl4_1, pl4_2, pl4_3, pn4, pl5_0, pl5_1, pl5_2, pl5_3, pl5_4, pn5, pl6_0, pl6_1, pl6_2, pl6_3, pl6_4, pl6_5, pn6, pl7_0, pl7_1, pl7_2, pl7_3, pl7_4, pl7_5, pl7_6, pn7, pl8_0, pl8_1, pl8_2, pl8_3, pl8_4, pl8_5, pl8_6, pl8_7, pn8, pl9_0, pl9_1, pl9_2, pl9_3, pl9_4, pl9_5, pl9_6, pl9_7, pl9_8, pn9, m1, m2, m3]
    have kW7 : lstAt (S7 ++ [Ob.lst [d6, w7]] ++ [Ob.lst [D.int 0]]) A2.length = some WL := lst_old (lst_old (fr37.lst (by omega) kA3))
    refine ⟨WL, kW7, by rw [lWL, most_eq]; decide, ?_⟩
    refine r__law_pick (hb7.gr ((Gr.one.trans Gr.one).trans Gr.one)) (by omega) lst_new (by simp; omega) (by simp) (by simp; omega) fun S8 w8 hw8 hb8 fr8 => ?_
    have g78 : Gr S7 (S7 ++ [Ob.lst [d6, w7]] ++ [Ob.lst [D.int 0]] ++ [Ob.lst (WL ++ [D.int 0])]) := (Gr.one.trans Gr.one).trans Gr.one
    have fr78 := g78.fr.trans fr8
    have le78 := fr78.le
    have ka1 : lstAt S8 S7.length = some [d6, w7] := fr8.lst (by omega) (lst_old (lst_old lst_new))
    have w8' : Bad S8 S4.length w8 ∧ (isInt w8 = false ∨ w8 = .int 0) := by
      rcases List.mem_append.mp hw8 with h | h
      · obtain ⟨x1, x2⟩ := wrongs S8 (fr37.trans fr78) w8 h
        exact ⟨x1, .inl x2⟩
      · rw [List.mem_singleton.mp h]
        exact ⟨.im rfl, .inr rfl⟩
    obtain ⟨B8, i8⟩ := w8'
    refine r__law_copy B8 fun S9 d9 g9 B9 c9 im9 => ?_
    have i9 : isInt d9 = false ∨ d9 = .int 0 := by
      rcases i8 with h | h
      · exact .inl (by rw [c9.2, h])
      · subst h
        exact .inr (im9 rfl)
    have le89 := gr_le g9
    simp only [wpS, wpE, wpEs, wpP, wpI, wpT, begin_, hxD, hxD.hxL, catch_, putAll, Ev.unpack, tgSem, wipe, o_add, o_sub, o_mul, o_div, o_mod, o_pow, o_tup, o_lst, o_rep, c_eq, c_ne, c_lt, c_le, c_gt, c_ge, c_isn, c_notn, c_isb, c_in, c_nin, q_int, q_bl, not_true_eq_false, not_false_eq_true, Bool.false_or, Bool.true_or, Bool.or_true, Bool.true_and, Bool.false_and, Bool.and_true, Bool.and_false,  id_eq, lst_new, boolsD, intsD, Option.map_some, List.all_cons, List.all_nil, List.map_append,  q_lit, String.reduceEq, decide_true, decide_false, Bool.not_true, Bool.not_false, Bool.true_eq_false, Bool.false_eq_true, eq_self, i_isn, i_isi, i_isb, i_iss, i_ist, i_isr, t_non, t_int, t_bl, t_str, t_tup, t_fz, b_abs, b_lent, b_lenf, b_lens, b_list, b_tuple, b_int, b_intb, b_sum, b_min2, b_max2, b_all, b_any, b_gcd, b_dict, m_app, m_ext, m_popi, m_pop, x_tup, x_fz, List.map_cons, List.map_nil, List.length_cons, List.length_nil, List.replicate, List.append_nil, List.cons_append, List.nil_append, List.getElem?_cons_zero, List.getElem?_cons_succ, List.set_cons_zero, List.set_cons_succ, Option.some.injEq, D.int.injEq, D.bl.injEq, D.str.injEq, D.tup.injEq, D.ref.injEq, exists_eq_left', exists_eq_left, exists_eq_right, true_and, and_true, Nat.reduceSub, Nat.reduceAdd, Nat.zero_add, reduceCtorEq, false_implies, true_implies, decide_eq_true_eq, decide_eq_false_iff_not, forall_const, List.any_cons, List.any_nil, Bool.or_false, subTy, pl1_0, pn1, pl2_0, pl2_1, pn2, pl3_0, pl3_1, pl3_2, pn3, pl4_0, pl4_1, pl4_2, pl4_3, pn4, pl5_0, pl5_1, pl5_2, pl5_3, pl5_4, pn5, pl6_0, pl6_1, pl6_2, pl6_3, pl6_4, pl6_5, pn6, pl7_0, pl7_1, pl7_2, pl7_3, pl7_4, pl7_5, pl7_6, pn7, pl8_0, pl8_1, pl8_2, pl8_3, pl8_4, pl8_5, pl8_6, pl8_7, pn8, pl9_0, pl9_1, pl9_2, pl9_3, pl9_4, pl9_5, pl9_6, pl9_7, pl9_8, pn9, m2, srcVal, walk]
    have n6 : ∀ i, d6 = .ref i → S5.length ≤ i ∧ i < S6.length := fun i e => B6.lo i e
    have n9 : ∀ i, d9 = .ref i → S8.length ≤ i ∧ i < S9.length := fun i e => B9.lo i e
    have B6' : Bad S9 S5.length d6 := ((B6.fr (by omega) fr67).fr (by omega) fr78).gr g9
    generalize hA9 : S9 ++ [Ob.lst [D.int 3, d9]] = A9
    have gA9 : Gr S9 A9 := hA9 ▸ Gr.one
    have kA9 : lstAt A9 S9.length = some [D.int 3, d9] := hA9 ▸ lst_new
    have ka9 : lstAt A9 S7.length = some [d6, w7] := gA9.lst (g9.lst ka1)
    have hb9 : Box A9 b (k + 26) := ((hb8.gr g9).gr gA9).mono (by omega)
    have frT : Fr b S A9 := ((fr4.trans g04.fr).trans (fr37.trans fr78)).trans (g9.trans gA9).fr
    have lA9 := gr_le gA9
    simp only [_law_refused_right_7b_1, wpS, wpE, wpEs, wpP, wpI, wpT, begin_, hxD, hxD.hxL, catch_, putAll, Ev.unpack, tgSem, wipe, o_add, o_sub, o_mul, o_div, o_mod, o_pow, o_tup, o_lst, o_rep, c_eq, c_ne, c_lt, c_le, c_gt, c_ge, c_isn, c_notn, c_isb, c_in, c_nin, q_int, q_bl, not_true_eq_false, not_false_eq_true, Bool.false_or, Bool.true_or, Bool.or_true, Bool.true_and, Bool.false_and, Bool.and_true, Bool.and_false,  id_eq, lst_new, boolsD, intsD, Option.map_some, List.all_cons, List.all_nil, List.map_append,  q_lit, String.reduceEq, decide_true, decide_false, Bool.not_true, Bool.not_false, Bool.true_eq_false, Bool.false_eq_true, eq_self, i_isn, i_isi, i_isb, i_iss, i_ist, i_isr, t_non, t_int, t_bl, t_str, t_tup, t_fz, b_abs, b_lent, b_lenf, b_lens, b_list, b_tuple, b_int, b_intb, b_sum, b_min2, b_max2, b_all, b_any, b_gcd, b_dict, m_app, m_ext, m_popi, m_pop, x_tup, x_fz, List.map_cons, List.map_nil, List.length_cons, List.length_nil, List.replicate, List.append_nil, List.cons_append, List.nil_append, List.getElem?_cons_zero, List.getElem?_cons_succ, List.set_cons_zero, List.set_cons_succ, Option.some.injEq, D.int.injEq, D.bl.injEq, D.str.injEq, D.tup.injEq, D.ref.injEq, exists_eq_left', exists_eq_left, exists_eq_right, true_and, and_true, Nat.reduceSub, Nat.reduceAdd, Nat.zero_add, reduceCtorEq, false_implies, true_implies, decide_eq_true_eq, decide_eq_false_iff_not, forall_const, List.any_cons, List.any_nil, Bool.or_false, subTy, pl1_0, pn1, pl2_0, pl2_1, pn2, pl3_0, pl3_1, pl3_2, pn3, pl4_0, pl4_1, pl4_2, pl4_3, pn4, pl5_0, pl5_1, pl5_2, pl5_3, pl5_4, pn5, pl6_0, pl6_1, pl6_2, pl6_3, pl6_4, pl6_5, pn6, pl7_0, pl7_1, pl7_2, pl7_3, pl7_4, pl7_5, pl7_6, pn7, pl8_0, pl8_1, pl8_2, pl8_3, pl8_4, pl8_5, pl8_6, pl8_7, pn8, pl9_0, pl9_1, pl9_2, pl9_3, pl9_4, pl9_5, pl9_6, pl9_7, pl9_8, pn9]
    refine met_fraction ka9 ((B6'.gr gA9).wf).1 (wf7 _) (fun _ S10 r10 g10 l10 t10 => ?_) (fun h => by rw [i6] at h; cases h) (fun a c ha => by rw [ha] at i6; cases i6)
    simp only [_law_refused_right_7b_2, wpS, wpE, wpEs, wpP, wpI, wpT, begin_, hxD, hxD.hxL, catch_, putAll, Ev.unpack, tgSem, wipe, o_add, o_sub, o_mul, o_div, o_mod, o_pow, o_tup, o_lst, o_rep, c_eq, c_ne, c_lt, c_le, c_gt, c_ge, c_isn, c_notn, c_isb, c_in, c_nin, q_int, q_bl, not_true_eq_false, not_false_eq_true, Bool.false_or, Bool.true_or, Bool.or_true, Bool.true_and, Bool.false_and, Bool.and_true, Bool.and_false,  id_eq, lst_new, boolsD, intsD, Option.map_some, List.all_cons, List.all_nil, List.map_append,  q_lit, String.reduceEq, decide_true, decide_false, Bool.not_true, Bool.not_false, Bool.true_eq_false, Bool.false_eq_true, eq_self, i_isn, i_isi, i_isb, i_iss, i_ist, i_isr, t_non, t_int, t_bl, t_str, t_tup, t_fz, b_abs, b_lent, b_lenf, b_lens, b_list, b_tuple, b_int, b_intb, b_sum, b_min2, b_max2, b_all, b_any, b_gcd, b_dict, m_app, m_ext, m_popi, m_pop, x_tup, x_fz, List.map_cons, List.map_nil, List.length_cons, List.length_nil, List.replicate, List.append_nil, List.cons_append, List.nil_append, List.getElem?_cons_zero, List.getElem?_cons_succ, List.set_cons_zero, List.set_cons_succ, Option.some.injEq, D.int.injEq, D.bl.injEq, D.str.injEq, D.tup.injEq, D.ref.injEq, exists_eq_left', exists_eq_left, exists_eq_right, true_and, and_true, Nat.reduceSub, Nat.reduceAdd, Nat.zero_add, reduceCtorEq, false_implies, true_implies, decide_eq_true_eq, decide_eq_false_iff_not, forall_const, List.any_cons, List.any_nil, Bool.or_false, subTy, pl1_0, pn1, pl2_0, pl2_1, pn2, pl3_0, pl3_1, pl3_2, pn3, pl4_0, pl4_1, pl4_2, pl4_3, pn4, pl5_0, pl5_1, pl5_2, pl5_3, pl5_4, pn5, pl6_0, pl6_1, pl6_2, pl6_3, pl6_4, pl6_5, pn6, pl7_0, pl7_1, pl7_2, pl7_3, pl7_4, pl7_5, pl7_6, pn7, pl8_0, pl8_1, pl8_2, pl8_3, pl8_4, pl8_5, pl8_6, pl8_7, pn8, pl9_0, pl9_1, pl9_2, pl9_3, pl9_4, pl9_5, pl9_6, pl9_7, pl9_8, pn9, x_lst t10, x_lst (g10.lst ka9)]
    refine r__law_very (lo := S5.length) ((B6'.gr gA9).gr g10) (show b < S5.length by omega) fun S11 f11 => ?_
    have l10' := gr_le g10
    simp only [wpS, wpE, wpEs, wpP, wpI, wpT, begin_, hxD, hxD.hxL, catch_, putAll, Ev.unpack, tgSem, wipe, o_add, o_sub, o_mul, o_div, o_mod, o_pow, o_tup, o_lst, o_rep, c_eq, c_ne, c_lt, c_le, c_gt, c_ge, c_isn, c_notn, c_isb, c_in, c_nin, q_int, q_bl, not_true_eq_false, not_false_eq_true, Bool.false_or, Bool.true_or, Bool.or_true, Bool.true_and, Bool.false_and, Bool.and_true, Bool.and_false,  id_eq, lst_new, boolsD, intsD, Option.map_some, List.all_cons, List.all_nil, List.map_append,  q_lit, String.reduceEq, decide_true, decide_false, Bool.not_true, Bool.not_false, Bool.true_eq_false, Bool.false_eq_true, eq_self, i_isn, i_isi, i_isb, i_iss, i_ist, i_isr, t_non, t_int, t_bl, t_str, t_tup, t_fz, b_abs, b_lent, b_lenf, b_lens, b_list, b_tuple, b_int, b_intb, b_sum, b_min2, b_max2, b_all, b_any, b_gcd, b_dict, m_app, m_ext, m_popi, m_pop, x_tup, x_fz, List.map_cons, List.map_nil, List.length_cons, List.length_nil, List.replicate, List.append_nil, List.cons_append, List.nil_append, List.getElem?_cons_zero, List.getElem?_cons_succ, List.set_cons_zero, List.set_cons_succ, Option.some.injEq, D.int.injEq, D.bl.injEq, D.str.injEq, D.tup.injEq, D.ref.injEq, exists_eq_left', exists_eq_left, exists_eq_right, true_and, and_true, Nat.reduceSub, Nat.reduceAdd, Nat.zero_add, reduceCtorEq, false_implies, true_implies, decide_eq_true_eq, decide_eq_false_iff_not, forall_const, List.any_cons, List.any_nil, Bool.or_false, subTy, pl1_0, pn1, pl2_0, pl2_1, pn2, pl3_0, pl3_1, pl3_2, pn3, pl4_0, pl4_1, pl4_2, pl4_3, pn4, pl5_0, pl5_1, pl5_2, pl5_3, pl5_4, pn5, pl6_0, pl6_1, pl6_2, pl6_3, pl6_4, pl6_5, pn6, pl7_0, pl7_1, pl7_2, pl7_3, pl7_4, pl7_5, pl7_6, pn7, pl8_0, pl8_1, pl8_2, pl8_3, pl8_4, pl8_5, pl8_6, pl8_7, pn8, pl9_0, pl9_1, pl9_2, pl9_3, pl9_4, pl9_5, pl9_6, pl9_7, pl9_8, pn9]
    have k9 : lstAt S11 S9.length = some [D.int 3, d9] := f11.lst (fun e => by have := n6 _ e; omega) (g10.lst kA9)
    have B11 : Bad S11 S8.length d9 := ((B9.gr gA9).gr g10).frd f11 (fun i e e' => by have := n6 _ e'; have := n9 _ e; omega)
    have hb11 : Box S11 b (k + 26) := f11.box (fun e => by have := n6 _ e; omega) (hb9.gr g10)
    have fr11 : Fr b S S11 := fr_frd (frT.trans g10.fr) f11 (fun i e => by have := n6 _ e; omega)
    refine met_fraction k9 ⟨_, rfl⟩ (B11.wf).1 (fun h => by cases h) (fun _ _ S12 r12 g12 l12 t12 => ?_) (fun a c ha hc h0 => by
      rcases i9 with h | h
      · rw [hc] at h; cases h
      · rw [hc] at h
        exact absurd (D.int.inj h) h0)
    simp only [wpS, wpE, wpEs, wpP, wpI, wpT, begin_, hxD, hxD.hxL, catch_, putAll, Ev.unpack, tgSem, wipe, o_add, o_sub, o_mul, o_div, o_mod, o_pow, o_tup, o_lst, o_rep, c_eq, c_ne, c_lt, c_le, c_gt, c_ge, c_isn, c_notn, c_isb, c_in, c_nin, q_int, q_bl, not_true_eq_false, not_false_eq_true, Bool.false_or, Bool.true_or, Bool.or_true, Bool.true_and, Bool.false_and, Bool.and_true, Bool.and_false,  id_eq, lst_new, boolsD, intsD, Option.map_some, List.all_cons, List.all_nil, List.map_append,  q_lit, String.reduceEq, decide_true, decide_false, Bool.not_true, Bool.not_false, Bool.true_eq_false, Bool.false_eq_true, eq_self, i_isn, i_isi, i_isb, i_iss, i_ist, i_isr, t_non, t_int, t_bl, t_str, t_tup, t_fz, b_abs, b_lent, b_lenf, b_lens, b_list, b_tuple, b_int, b_intb, b_sum, b_min2, b_max2, b_all, b_any, b_gcd, b_dict, m_app, m_ext, m_popi, m_pop, x_tup, x_fz, List.map_cons, List.map_nil, List.length_cons, List.length_nil, List.replicate, List.append_nil, List.cons_append, List.nil_append, List.getElem?_cons_zero, List.getElem?_cons_succ, List.set_cons_zero, List.set_cons_succ, Option.some.injEq, D.int.injEq, D.bl.injEq, D.str.injEq, D.tup.injEq, D.ref.injEq, exists_eq_left', exists_eq_left, exists_eq_right, true_and, and_true, Nat.reduceSub, Nat.reduceAdd, Nat.zero_add, reduceCtorEq, false_implies, true_implies, decide_eq_true_eq, decide_eq_false_iff_not, forall_const, List.any_cons, List.any_nil, Bool.or_false, subTy, pl1_0, pn1, pl2_0, pl2_1, pn2, pl3_0, pl3_1, pl3_2, pn3, pl4_0, pl4_1, pl4_2, pl4_3, pn4, pl5_0, pl5_1, pl5_2, pl5_3, pl5_4, pn5, pl6_0, pl6_1, pl6_2, pl6_3, pl6_4, pl6_5, pn6, pl7_0, pl7_1, pl7_2, pl7_3, pl7_4, pl7_5, pl7_6, pn7, pl8_0, pl8_1, pl8_2, pl8_3, pl8_4, pl8_5, pl8_6, pl8_7, pn8, pl9_0, pl9_1, pl9_2, pl9_3, pl9_4, pl9_5, pl9_6, pl9_7, pl9_8, pn9, x_lst t12, x_lst (g12.lst k9)]
    refine r__law_very (lo := S8.length) (B11.gr g12) (show b < S8.length by omega) fun S13 f13 => ?_
    simp only [_law_refused_right_8, wpS, wpE, wpEs, wpP, wpI, wpT, begin_, hxD, hxD.hxL, catch_, putAll, Ev.unpack, tgSem, wipe, o_add, o_sub, o_mul, o_div, o_mod, o_pow, o_tup, o_lst, o_rep, c_eq, c_ne, c_lt, c_le, c_gt, c_ge, c_isn, c_notn, c_isb, c_in, c_nin, q_int, q_bl, not_true_eq_false, not_false_eq_true, Bool.false_or, Bool.true_or, Bool.or_true, Bool.true_and, Bool.false_and, Bool.and_true, Bool.and_false,  id_eq, lst_new, boolsD, intsD, Option.map_some, List.all_cons, List.all_nil, List.map_append,  q_lit, String.reduceEq, decide_true, decide_false, Bool.not_true, Bool.not_false, Bool.true_eq_false, Bool.false_eq_true, eq_self, i_isn, i_isi, i_isb, i_iss, i_ist, i_isr, t_non, t_int, t_bl, t_str, t_tup, t_fz, b_abs, b_lent, b_lenf, b_lens, b_list, b_tuple, b_int, b_intb, b_sum, b_min2, b_max2, b_all, b_any, b_gcd, b_dict, m_app, m_ext, m_popi, m_pop, x_tup, x_fz, List.map_cons, List.map_nil, List.length_cons, List.length_nil, List.replicate, List.append_nil, List.cons_append, List.nil_append, List.getElem?_cons_zero, List.getElem?_cons_succ, List.set_cons_zero, List.set_cons_succ, Option.some.injEq, D.int.injEq, D.bl.injEq, D.str.injEq, D.tup.injEq, D.ref.injEq, exists_eq_left', exists_eq_left, exists_eq_right, true_and, and_true, Nat.reduceSub, Nat.reduceAdd, Nat.zero_add, reduceCtorEq, false_implies, true_implies, decide_eq_true_eq, decide_eq_false_iff_not, forall_const, List.any_cons, List.any_nil, Bool.or_false, subTy, pl1_0, pn1, pl2_0, pl2_1, pn2, pl3_0, pl3_1, pl3_2, pn3, pl4_0, pl4_1, pl4_2, pl4_3, pn4, pl5_0, pl5_1, pl5_2, pl5_3, pl5_4, pn5, pl6_0, pl6_1, pl6_2, pl6_3, pl6_4, pl6_5, pn6, pl7_0, pl7_1, pl7_2, pl7_3, pl7_4, pl7_5, pl7_6, pn7, pl8_0, pl8_1, pl8_2, pl8_3, pl8_4, pl8_5, pl8_6, pl8_7, pn8, pl9_0, pl9_1, pl9_2, pl9_3, pl9_4, pl9_5, pl9_6, pl9_7, pl9_8, pn9]
    exact q _ (f13.box (fun e => by have := n9 _ e; omega) (hb11.gr g12)) (fr_frd (fr11.trans g12.fr) f13 (fun i e => by have := n9 _ e; omega))
  · intro it hi
    simp only [List.mem_cons, List.not_mem_nil, or_false] at hi
    rcases hi with rfl | rfl | rfl | rfl | rfl
    · exact ⟨_, rfl, ref_plus⟩
    · exact ⟨_, rfl, ref_minus⟩
    · exact ⟨_, rfl, ref_times⟩
    · exact ⟨_, rfl, ref_over⟩
    · exact ⟨_, rfl, ref_less⟩
end
end EvL
end
section
set_option Elab.async false
set_option linter.all false
set_option maxRecDepth 100000
set_option maxHeartbeats 400000
set_option exponentiation.threshold 20000
namespace EvL
open PySem (Str)
open Ev
section
variable {n : Nat} {S : Sto} {Q : Po} {E : Xo} {b k : Nat}
theorem r_law {ns : List Int} (q : ∀ S', Q (.bl true) S') : run sub TT (n + 10) i_law [.fz (ns.map D.int)] S Q E := by
  rw [run_eq at_law rfl]
  simp only [f_law, law_1, wpS, wpE, wpEs, wpP, wpI, wpT, begin_, hxD, hxD.hxL, catch_, putAll, Ev.unpack, tgSem, wipe, o_add, o_sub, o_mul, o_div, o_mod, o_pow, o_tup, o_lst, o_rep, c_eq, c_ne, c_lt, c_le, c_gt, c_ge, c_isn, c_notn, c_isb, c_in, c_nin, q_int, q_bl, not_true_eq_false, not_false_eq_true, Bool.false_or, Bool.true_or, Bool.or_true, Bool.true_and, Bool.false_and, Bool.and_true, Bool.and_false,  id_eq, lst_new, boolsD, intsD, Option.map_some, List.all_cons, List.all_nil, List.map_append,  q_lit, String.reduceEq, decide_true, decide_false, Bool.not_true, Bool.not_false, Bool.true_eq_false, Bool.false_eq_true, eq_self, i_isn, i_isi, i_isb, i_iss, i_ist, i_isr, t_non, t_int, t_bl, t_str, t_tup, t_fz, b_abs, b_lent, b_lenf, b_lens, b_list, b_tuple, b_int, b_intb, b_sum, b_min2, b_max2, b_all, b_any, b_gcd, b_dict, m_app, m_ext, m_popi, m_pop, x_tup, x_fz, List.map_cons, List.map_nil, List.length_cons, List.length_nil, List.replicate, List.append_nil, List.cons_append, List.nil_append, List.getElem?_cons_zero, List.getElem?_cons_succ, List.set_cons_zero, List.set_cons_succ, Option.some.injEq, D.int.injEq, D.bl.injEq, D.str.injEq, D.tup.injEq, D.ref.injEq, exists_eq_left', exists_eq_left, exists_eq_right, true_and, and_true, Nat.reduceSub, Nat.reduceAdd, Nat.zero_add, reduceCtorEq, false_implies, true_implies, decide_eq_true_eq, decide_eq_false_iff_not, forall_const, List.any_cons, List.any_nil, Bool.or_false, subTy, pl1_0, pn1, pl2_0, pl2_1, pn2, pl3_0, pl3_1, pl3_2, pn3, pl4_0, pl4_1, pl4_2, pl4_3, pn4, pl5_0, pl5_1, pl5_2, pl5_3, pl5_4, pn5, pl6_0, pl6_1, pl6_2, pl6_3, pl6_4, pl6_5, pn6, pl7_0, pl7_1, pl7_2, pl7_3, pl7_4, pl7_5, pl7_6, pn7, pl8_0, pl8_1, pl8_2, pl8_3, pl8_4, pl8_5, pl8_6, pl8_7, pn8, pl9_0, pl9_1, pl9_2, pl9_3, pl9_4, pl9_5, pl9_6, pl9_7, pl9_8, pn9, srcRng]
  have hj : ∀ l : Int, 0 ≤ l → 2 ≤ (if (if l < 4 then l else 4) > 2 then (if l < 4 then l else 4) else 2 : Int) ∧ (if (if l < 4 then l else 4) > 2 then (if l < 4 then l else 4) else 2 : Int) ≤ 4 := fun l h => by
    split <;> split <;> omega
  have hj' := hj ((ns.map D.int).length : Nat) (by omega)
  generalize (if (if (((ns.map D.int).length : Nat) : Int) < 4 then (((ns.map D.int).length : Nat) : Int) else 4) > 2 then (if (((ns.map D.int).length : Nat) : Int) < 4 then (((ns.map D.int).length : Nat) : Int) else 4) else 2 : Int) = m at hj' ⊢
  refine ⟨by omega, by omega, ?_⟩
  let I : List D → Ev.Env → Sto → Prop := fun rest env S' => ∃ (a1 a2 a3 a4 : Option D), env = [some (.fz (ns.map D.int)), a1, a2, a3, a4] ∧ (∀ it ∈ rest, ∃ i : Nat, (i : Int) < m ∧ it = .int (i : Int))
  refine walk_I I (fun _ _ _ _ => trivial) (fun it rest env S1 hI N hN => ?_) (fun env S1 hI => ?_) _ _ _ ⟨none, none, none, none, rfl, fun it hi => rangeD_mem hi⟩
  · obtain ⟨a1, a2, a3, a4, rfl, h1⟩ := hI
    obtain ⟨i, hi, rfl⟩ := h1 it (by simp)
    have h1' : ∀ it ∈ rest, ∃ i : Nat, (i : Int) < m ∧ it = D.int (i : Int) := fun x hx => h1 x (by simp [hx])
    simp only [law_1b_1, wpS, wpE, wpEs, wpP, wpI, wpT, begin_, hxD, hxD.hxL, catch_, putAll, Ev.unpack, tgSem, wipe, o_add, o_sub, o_mul, o_div, o_mod, o_pow, o_tup, o_lst, o_rep, c_eq, c_ne, c_lt, c_le, c_gt, c_ge, c_isn, c_notn, c_isb, c_in, c_nin, q_int, q_bl, not_true_eq_false, not_false_eq_true, Bool.false_or, Bool.true_or, Bool.or_true, Bool.true_and, Bool.false_and, Bool.and_true, Bool.and_false,  id_eq, lst_new, boolsD, intsD, Option.map_some, List.all_cons, List.all_nil, List.map_append,  q_lit, String.reduceEq, decide_true, decide_false, Bool.not_true, Bool.not_false, Bool.true_eq_false, Bool.false_eq_true, eq_self, i_isn, i_isi, i_isb, i_iss, i_ist, i_isr, t_non, t_int, t_bl, t_str, t_tup, t_fz, b_abs, b_lent, b_lenf, b_lens, b_list, b_tuple, b_int, b_intb, b_sum, b_min2, b_max2, b_all, b_any, b_gcd, b_dict, m_app, m_ext, m_popi, m_pop, x_tup, x_fz, List.map_cons, List.map_nil, List.length_cons, List.length_nil, List.replicate, List.append_nil, List.cons_append, List.nil_append, List.getElem?_cons_zero, List.getElem?_cons_succ, List.set_cons_zero, List.set_cons_succ, Option.some.injEq, D.int.injEq, D.bl.injEq, D.str.injEq, D.tup.injEq, D.ref.injEq, exists_eq_left', exists_eq_left, exists_eq_right, true_and, and_true, Nat.reduceSub, Nat.reduceAdd, Nat.zero_add, reduceCtorEq, false_implies, true_implies, decide_eq_true_eq, decide_eq_false_iff_not, forall_const, List.any_cons, List.any_nil, Bool.or_false, subTy, pl1_0, pn1, pl2_0, pl2_1, pn2, pl3_0, pl3_1, pl3_2, pn3, pl4_0, pl4_1, pl4_2, pl4_3, pn4, pl5_0, pl5_1, pl5_2, pl5_3, pl5_4, pn5, pl6_0, pl6_1, pl6_2, pl6_3, pl6_4, pl6_5, pn6, pl7_0, pl7_1, pl7_2, pl7_3, pl7_4, pl7_5, pl7_6, pn7, pl8_0, pl8_1, pl8_2, pl8_3, pl8_4, pl8_5, pl8_6, pl8_7, pn8, pl9_0, pl9_1, pl9_2, pl9_3, pl9_4, pl9_5, pl9_6, pl9_7, pl9_8, pn9]
    refine r__law_cell (by omega) (by omega) fun z S2 g2 => ?_
    refine r__law_box fun l hb => ?_
    generalize hA : S2 ++ [Ob.lst l] = A at hb ⊢
    generalize S2.length = b at hb ⊢
    simp only [law_1b_2, wpS, wpE, wpEs, wpP, wpI, wpT, begin_, hxD, hxD.hxL, catch_, putAll, Ev.unpack, tgSem, wipe, o_add, o_sub, o_mul, o_div, o_mod, o_pow, o_tup, o_lst, o_rep, c_eq, c_ne, c_lt, c_le, c_gt, c_ge, c_isn, c_notn, c_isb, c_in, c_nin, q_int, q_bl, not_true_eq_false, not_false_eq_true, Bool.false_or, Bool.true_or, Bool.or_true, Bool.true_and, Bool.false_and, Bool.and_true, Bool.and_false,  id_eq, lst_new, boolsD, intsD, Option.map_some, List.all_cons, List.all_nil, List.map_append,  q_lit, String.reduceEq, decide_true, decide_false, Bool.not_true, Bool.not_false, Bool.true_eq_false, Bool.false_eq_true, eq_self, i_isn, i_isi, i_isb, i_iss, i_ist, i_isr, t_non, t_int, t_bl, t_str, t_tup, t_fz, b_abs, b_lent, b_lenf, b_lens, b_list, b_tuple, b_int, b_intb, b_sum, b_min2, b_max2, b_all, b_any, b_gcd, b_dict, m_app, m_ext, m_popi, m_pop, x_tup, x_fz, List.map_cons, List.map_nil, List.length_cons, List.length_nil, List.replicate, List.append_nil, List.cons_append, List.nil_append, List.getElem?_cons_zero, List.getElem?_cons_succ, List.set_cons_zero, List.set_cons_succ, Option.some.injEq, D.int.injEq, D.bl.injEq, D.str.injEq, D.tup.injEq, D.ref.injEq, exists_eq_left', exists_eq_left, exists_eq_right, true_and, and_true, Nat.reduceSub, Nat.reduceAdd, Nat.zero_add, reduceCtorEq, false_implies, true_implies, decide_eq_true_eq, decide_eq_false_iff_not, forall_const, List.any_cons, List.any_nil, Bool.or_false, subTy, pl1_0, pn1, pl2_0, pl2_1, pn2, pl3_0, pl3_1, pl3_2, pn3, pl4_0, pl4_1, pl4_2, pl4_3, pn4, pl5_0, pl5_1, pl5_2, pl5_3, pl5_4, pn5, pl6_0, pl6_1, pl6_2, pl6_3, pl6_4, pl6_5, pn6, pl7_0, pl7_1, pl7_2, pl7_3, pl7_4, pl7_5, pl7_6, pn7, pl8_0, pl8_1, pl8_2, pl8_3, pl8_4, pl8_5, pl8_6, pl8_7, pn8, pl9_0, pl9_1, pl9_2, pl9_3, pl9_4, pl9_5, pl9_6, pl9_7, pl9_8, pn9]
    refine r__law_take hb (by omega) (by decide) (by decide) fun S3 d d0 d1 hb3 fr3 => ?_
    simp only [wpS, wpE, wpEs, wpP, wpI, wpT, begin_, hxD, hxD.hxL, catch_, putAll, Ev.unpack, tgSem, wipe, o_add, o_sub, o_mul, o_div, o_mod, o_pow, o_tup, o_lst, o_rep, c_eq, c_ne, c_lt, c_le, c_gt, c_ge, c_isn, c_notn, c_isb, c_in, c_nin, q_int, q_bl, not_true_eq_false, not_false_eq_true, Bool.false_or, Bool.true_or, Bool.or_true, Bool.true_and, Bool.false_and, Bool.and_true, Bool.and_false,  id_eq, lst_new, boolsD, intsD, Option.map_some, List.all_cons, List.all_nil, List.map_append,  q_lit, String.reduceEq, decide_true, decide_false, Bool.not_true, Bool.not_false, Bool.true_eq_false, Bool.false_eq_true, eq_self, i_isn, i_isi, i_isb, i_iss, i_ist, i_isr, t_non, t_int, t_bl, t_str, t_tup, t_fz, b_abs, b_lent, b_lenf, b_lens, b_list, b_tuple, b_int, b_intb, b_sum, b_min2, b_max2, b_all, b_any, b_gcd, b_dict, m_app, m_ext, m_popi, m_pop, x_tup, x_fz, List.map_cons, List.map_nil, List.length_cons, List.length_nil, List.replicate, List.append_nil, List.cons_append, List.nil_append, List.getElem?_cons_zero, List.getElem?_cons_succ, List.set_cons_zero, List.set_cons_succ, Option.some.injEq, D.int.injEq, D.bl.injEq, D.str.injEq, D.tup.injEq, D.ref.injEq, exists_eq_left', exists_eq_left, exists_eq_right, true_and, and_true, Nat.reduceSub, Nat.reduceAdd, Nat.zero_add, reduceCtorEq, false_implies, true_implies, decide_eq_true_eq, decide_eq_false_iff_not, forall_const, List.any_cons, List.any_nil, Bool.or_false, subTy, pl1_0, pn1, pl2_0, pl2_1, pn2, pl3_0, pl3_1, pl3_2, pn3, pl4_0, pl4_1, pl4_2, pl4_3, pn4, pl5_0, pl5_1, pl5_2, pl5_3, pl5_4, pn5, pl6_0, pl6_1, pl6_2, pl6_3, pl6_4, pl6_5, pn6, pl7_0, pl7_1, pl7_2, pl7_3, pl7_4, pl7_5, pl7_6, pn7, pl8_0, pl8_1, pl8_2, pl8_3, pl8_4, pl8_5, pl8_6, pl8_7, pn8, pl9_0, pl9_1, pl9_2, pl9_3, pl9_4, pl9_5, pl9_6, pl9_7, pl9_8, pn9, law_1b_3, srcRng]
    refine ⟨by omega, by omega, ?_⟩
    let J : List D → Ev.Env → Sto → Prop := fun rest env S' => ∃ (j : Nat) (nm : Bool) (t : Option D), env = [some (.fz (ns.map D.int)), some (.int (i : Int)), some (.ref b), some (.bl nm), t] ∧ Box S' b j ∧ j + 34 * rest.length ≤ 205
    refine walk_I J (fun _ _ _ _ => trivial) (fun it2 rest2 env S4 hJ N2 hN2 => ?_) (fun env S4 hJ => ?_) _ _ _ ⟨1, decide (d = 0), _, rfl, hb3, by rw [rangeD_length]; decide⟩
    · obtain ⟨j, nm, t, rfl, hb4, h4⟩ := hJ
      rw [List.length_cons] at h4
      simp only [law_1b_3b_1, wpS, wpE, wpEs, wpP, wpI, wpT, begin_, hxD, hxD.hxL, catch_, putAll, Ev.unpack, tgSem, wipe, o_add, o_sub, o_mul, o_div, o_mod, o_pow, o_tup, o_lst, o_rep, c_eq, c_ne, c_lt, c_le, c_gt, c_ge, c_isn, c_notn, c_isb, c_in, c_nin, q_int, q_bl, not_true_eq_false, not_false_eq_true, Bool.false_or, Bool.true_or, Bool.or_true, Bool.true_and, Bool.false_and, Bool.and_true, Bool.and_false,  id_eq, lst_new, boolsD, intsD, Option.map_some, List.all_cons, List.all_nil, List.map_append,  q_lit, String.reduceEq, decide_true, decide_false, Bool.not_true, Bool.not_false, Bool.true_eq_false, Bool.false_eq_true, eq_self, i_isn, i_isi, i_isb, i_iss, i_ist, i_isr, t_non, t_int, t_bl, t_str, t_tup, t_fz, b_abs, b_lent, b_lenf, b_lens, b_list, b_tuple, b_int, b_intb, b_sum, b_min2, b_max2, b_all, b_any, b_gcd, b_dict, m_app, m_ext, m_popi, m_pop, x_tup, x_fz, List.map_cons, List.map_nil, List.length_cons, List.length_nil, List.replicate, List.append_nil, List.cons_append, List.nil_append, List.getElem?_cons_zero, List.getElem?_cons_succ, List.set_cons_zero, List.set_cons_succ, Option.some.injEq, D.int.injEq, D.bl.injEq, D.str.injEq, D.tup.injEq, D.ref.injEq, exists_eq_left', exists_eq_left, exists_eq_right, true_and, and_true, Nat.reduceSub, Nat.reduceAdd, Nat.zero_add, reduceCtorEq, false_implies, true_implies, decide_eq_true_eq, decide_eq_false_iff_not, forall_const, List.any_cons, List.any_nil, Bool.or_false, subTy, pl1_0, pn1, pl2_0, pl2_1, pn2, pl3_0, pl3_1, pl3_2, pn3, pl4_0, pl4_1, pl4_2, pl4_3, pn4, pl5_0, pl5_1, pl5_2, pl5_3, pl5_4, pn5, pl6_0, pl6_1, pl6_2, pl6_3, pl6_4, pl6_5, pn6, pl7_0, pl7_1, pl7_2, pl7_3, pl7_4, pl7_5, pl7_6, pn7, pl8_0, pl8_1, pl8_2, pl8_3, pl8_4, pl8_5, pl8_6, pl8_7, pn8, pl9_0, pl9_1, pl9_2, pl9_3, pl9_4, pl9_5, pl9_6, pl9_7, pl9_8, pn9]
      refine r__law_reckoned_right hb4 (by omega) fun S5 hb5 _ => ?_
      simp only [wpS, wpE, wpEs, wpP, wpI, wpT, begin_, hxD, hxD.hxL, catch_, putAll, Ev.unpack, tgSem, wipe, o_add, o_sub, o_mul, o_div, o_mod, o_pow, o_tup, o_lst, o_rep, c_eq, c_ne, c_lt, c_le, c_gt, c_ge, c_isn, c_notn, c_isb, c_in, c_nin, q_int, q_bl, not_true_eq_false, not_false_eq_true, Bool.false_or, Bool.true_or, Bool.or_true, Bool.true_and, Bool.false_and, Bool.and_true, Bool.and_false,  id_eq, lst_new, boolsD, intsD, Option.map_some, List.all_cons, List.all_nil, List.map_append,  q_lit, String.reduceEq, decide_true, decide_false, Bool.not_true, Bool.not_false, Bool.true_eq_false, Bool.false_eq_true, eq_self, i_isn, i_isi, i_isb, i_iss, i_ist, i_isr, t_non, t_int, t_bl, t_str, t_tup, t_fz, b_abs, b_lent, b_lenf, b_lens, b_list, b_tuple, b_int, b_intb, b_sum, b_min2, b_max2, b_all, b_any, b_gcd, b_dict, m_app, m_ext, m_popi, m_pop, x_tup, x_fz, List.map_cons, List.map_nil, List.length_cons, List.length_nil, List.replicate, List.append_nil, List.cons_append, List.nil_append, List.getElem?_cons_zero, List.getElem?_cons_succ, List.set_cons_zero, List.set_cons_succ, Option.some.injEq, D.int.injEq, D.bl.injEq, D.str.injEq, D.tup.injEq, D.ref.injEq, exists_eq_left', exists_eq_left, exists_eq_right, true_and, and_true, Nat.reduceSub, Nat.reduceAdd, Nat.zero_add, reduceCtorEq, false_implies, true_implies, decide_eq_true_eq, decide_eq_false_iff_not, forall_const, List.any_cons, List.any_nil, Bool.or_false, subTy, pl1_0, pn1, pl2_0, pl2_1, pn2, pl3_0, pl3_1, pl3_2, pn3, pl4_0, pl4_1, pl4_2, pl4_3, pn4, pl5_0, pl5_1, pl5_2, pl5_3, pl5_4, pn5, pl6_0, pl6_1, pl6_2, pl6_3, pl6_4, pl6_5, pn6, pl7_0, pl7_1, pl7_2, pl7_3, pl7_4, pl7_5, pl7_6, pn7, pl8_0, pl8_1, pl8_2, pl8_3, pl8_4, pl8_5, pl8_6, pl8_7, pn8, pl9_0, pl9_1, pl9_2, pl9_3, pl9_4, pl9_5, pl9_6, pl9_7, pl9_8, pn9]
      refine r__law_made_right hb5 (by omega) fun S6 hb6 _ => ?_
      simp only [wpS, wpE, wpEs, wpP, wpI, wpT, begin_, hxD, hxD.hxL, catch_, putAll, Ev.unpack, tgSem, wipe, o_add, o_sub, o_mul, o_div, o_mod, o_pow, o_tup, o_lst, o_rep, c_eq, c_ne, c_lt, c_le, c_gt, c_ge, c_isn, c_notn, c_isb, c_in, c_nin, q_int, q_bl, not_true_eq_false, not_false_eq_true, Bool.false_or, Bool.true_or, Bool.or_true, Bool.true_and, Bool.false_and, Bool.and_true, Bool.and_false,  id_eq, lst_new, boolsD, intsD, Option.map_some, List.all_cons, List.all_nil, List.map_append,  q_lit, String.reduceEq, decide_true, decide_false, Bool.not_true, Bool.not_false, Bool.true_eq_false, Bool.false_eq_true, eq_self, i_isn, i_isi, i_isb, i_iss, i_ist, i_isr, t_non, t_int, t_bl, t_str, t_tup, t_fz, b_abs, b_lent, b_lenf, b_lens, b_list, b_tuple, b_int, b_intb, b_sum, b_min2, b_max2, b_all, b_any, b_gcd, b_dict, m_app, m_ext, m_popi, m_pop, x_tup, x_fz, List.map_cons, List.map_nil, List.length_cons, List.length_nil, List.replicate, List.append_nil, List.cons_append, List.nil_append, List.getElem?_cons_zero, List.getElem?_cons_succ, List.set_cons_zero, List.set_cons_succ, Option.some.injEq, D.int.injEq, D.bl.injEq, D.str.injEq, D.tup.injEq, D.ref.injEq, exists_eq_left', exists_eq_left, exists_eq_right, true_and, and_true, Nat.reduceSub, Nat.reduceAdd, Nat.zero_add, reduceCtorEq, false_implies, true_implies, decide_eq_true_eq, decide_eq_false_iff_not, forall_const, List.any_cons, List.any_nil, Bool.or_false, subTy, pl1_0, pn1, pl2_0, pl2_1, pn2, pl3_0, pl3_1, pl3_2, pn3, pl4_0, pl4_1, pl4_2, pl4_3, pn4, pl5_0, pl5_1, pl5_2, pl5_3, pl5_4, pn5, pl6_0, pl6_1, pl6_2, pl6_3, pl6_4, pl6_5, pn6, pl7_0, pl7_1, pl7_2, pl7_3, pl7_4, pl7_5, pl7_6, pn7, pl8_0, pl8_1, pl8_2, pl8_3, pl8_4, pl8_5, pl8_6, pl8_7, pn8, pl9_0, pl9_1, pl9_2, pl9_3, pl9_4, pl9_5, pl9_6, pl9_7, pl9_8, pn9]
      refine r__law_roots_right hb6 (by omega) fun S7 hb7 _ => ?_
      simp only [wpS, wpE, wpEs, wpP, wpI, wpT, begin_, hxD, hxD.hxL, catch_, putAll, Ev.unpack, tgSem, wipe, o_add, o_sub, o_mul, o_div, o_mod, o_pow, o_tup, o_lst, o_rep, c_eq, c_ne, c_lt, c_le, c_gt, c_ge, c_isn, c_notn, c_isb, c_in, c_nin, q_int, q_bl, not_true_eq_false, not_false_eq_true, Bool.false_or, Bool.true_or, Bool.or_true, Bool.true_and, Bool.false_and, Bool.and_true, Bool.and_false,  id_eq, lst_new, boolsD, intsD, Option.map_some, List.all_cons, List.all_nil, List.map_append,  q_lit, String.reduceEq, decide_true, decide_false, Bool.not_true, Bool.not_false, Bool.true_eq_false, Bool.false_eq_true, eq_self, i_isn, i_isi, i_isb, i_iss, i_ist, i_isr, t_non, t_int, t_bl, t_str, t_tup, t_fz, b_abs, b_lent, b_lenf, b_lens, b_list, b_tuple, b_int, b_intb, b_sum, b_min2, b_max2, b_all, b_any, b_gcd, b_dict, m_app, m_ext, m_popi, m_pop, x_tup, x_fz, List.map_cons, List.map_nil, List.length_cons, List.length_nil, List.replicate, List.append_nil, List.cons_append, List.nil_append, List.getElem?_cons_zero, List.getElem?_cons_succ, List.set_cons_zero, List.set_cons_succ, Option.some.injEq, D.int.injEq, D.bl.injEq, D.str.injEq, D.tup.injEq, D.ref.injEq, exists_eq_left', exists_eq_left, exists_eq_right, true_and, and_true, Nat.reduceSub, Nat.reduceAdd, Nat.zero_add, reduceCtorEq, false_implies, true_implies, decide_eq_true_eq, decide_eq_false_iff_not, forall_const, List.any_cons, List.any_nil, Bool.or_false, subTy, pl1_0, pn1, pl2_0, pl2_1, pn2, pl3_0, pl3_1, pl3_2, pn3, pl4_0, pl4_1, pl4_2, pl4_3, pn4, pl5_0, pl5_1, pl5_2, pl5_3, pl5_4, pn5, pl6_0, pl6_1, pl6_2, pl6_3, pl6_4, pl6_5, pn6, pl7_0, pl7_1, pl7_2, pl7_3, pl7_4, pl7_5, pl7_6, pn7, pl8_0, pl8_1, pl8_2, pl8_3, pl8_4, pl8_5, pl8_6, pl8_7, pn8, pl9_0, pl9_1, pl9_2, pl9_3, pl9_4, pl9_5, pl9_6, pl9_7, pl9_8, pn9, law_1b_3b_2]
      exact hN2 _ _ ⟨j + 13 + 6 + 15, !nm, _, rfl, hb7, by omega⟩
    · obtain ⟨j, nm, t, rfl, hb4, h4⟩ := hJ
      have h4 : j ≤ 205 := by simpa using h4
      simp only [law_1b_4, wpS, wpE, wpEs, wpP, wpI, wpT, begin_, hxD, hxD.hxL, catch_, putAll, Ev.unpack, tgSem, wipe, o_add, o_sub, o_mul, o_div, o_mod, o_pow, o_tup, o_lst, o_rep, c_eq, c_ne, c_lt, c_le, c_gt, c_ge, c_isn, c_notn, c_isb, c_in, c_nin, q_int, q_bl, not_true_eq_false, not_false_eq_true, Bool.false_or, Bool.true_or, Bool.or_true, Bool.true_and, Bool.false_and, Bool.and_true, Bool.and_false,  id_eq, lst_new, boolsD, intsD, Option.map_some, List.all_cons, List.all_nil, List.map_append,  q_lit, String.reduceEq, decide_true, decide_false, Bool.not_true, Bool.not_false, Bool.true_eq_false, Bool.false_eq_true, eq_self, i_isn, i_isi, i_isb, i_iss, i_ist, i_isr, t_non, t_int, t_bl, t_str, t_tup, t_fz, b_abs, b_lent, b_lenf, b_lens, b_list, b_tuple, b_int, b_intb, b_sum, b_min2, b_max2, b_all, b_any, b_gcd, b_dict, m_app, m_ext, m_popi, m_pop, x_tup, x_fz, List.map_cons, List.map_nil, List.length_cons, List.length_nil, List.replicate, List.append_nil, List.cons_append, List.nil_append, List.getElem?_cons_zero, List.getElem?_cons_succ, List.set_cons_zero, List.set_cons_succ, Option.some.injEq, D.int.injEq, D.bl.injEq, D.str.injEq, D.tup.injEq, D.ref.injEq, exists_eq_left', exists_eq_left, exists_eq_right, true_and, and_true, Nat.reduceSub, Nat.reduceAdd, Nat.zero_add, reduceCtorEq, false_implies, true_implies, decide_eq_true_eq, decide_eq_false_iff_not, forall_const, List.any_cons, List.any_nil, Bool.or_false, subTy, pl1_0, pn1, pl2_0, pl2_1, pn2, pl3_0, pl3_1, pl3_2, pn3, pl4_0, pl4_1, pl4_2, pl4_3, pn4, pl5_0, pl5_1, pl5_2, pl5_3, pl5_4, pn5, pl6_0, pl6_1, pl6_2, pl6_3, pl6_4, pl6_5, pn6, pl7_0, pl7_1, pl7_2, pl7_3, pl7_4, pl7_5, pl7_6, pn7, pl8_0, pl8_1, pl8_2, pl8_3, pl8_4, pl8_5, pl8_6, pl8_7, pn8, pl9_0, pl9_1, pl9_2, pl9_3, pl9_4, pl9_5, pl9_6, pl9_7, pl9_8, pn9]
      refine r__law_judged_right hb4 (by omega) fun S5 hb5 _ => ?_
      simp only [wpS, wpE, wpEs, wpP, wpI, wpT, begin_, hxD, hxD.hxL, catch_, putAll, Ev.unpack, tgSem, wipe, o_add, o_sub, o_mul, o_div, o_mod, o_pow, o_tup, o_lst, o_rep, c_eq, c_ne, c_lt, c_le, c_gt, c_ge, c_isn, c_notn, c_isb, c_in, c_nin, q_int, q_bl, not_true_eq_false, not_false_eq_true, Bool.false_or, Bool.true_or, Bool.or_true, Bool.true_and, Bool.false_and, Bool.and_true, Bool.and_false,  id_eq, lst_new, boolsD, intsD, Option.map_some, List.all_cons, List.all_nil, List.map_append,  q_lit, String.reduceEq, decide_true, decide_false, Bool.not_true, Bool.not_false, Bool.true_eq_false, Bool.false_eq_true, eq_self, i_isn, i_isi, i_isb, i_iss, i_ist, i_isr, t_non, t_int, t_bl, t_str, t_tup, t_fz, b_abs, b_lent, b_lenf, b_lens, b_list, b_tuple, b_int, b_intb, b_sum, b_min2, b_max2, b_all, b_any, b_gcd, b_dict, m_app, m_ext, m_popi, m_pop, x_tup, x_fz, List.map_cons, List.map_nil, List.length_cons, List.length_nil, List.replicate, List.append_nil, List.cons_append, List.nil_append, List.getElem?_cons_zero, List.getElem?_cons_succ, List.set_cons_zero, List.set_cons_succ, Option.some.injEq, D.int.injEq, D.bl.injEq, D.str.injEq, D.tup.injEq, D.ref.injEq, exists_eq_left', exists_eq_left, exists_eq_right, true_and, and_true, Nat.reduceSub, Nat.reduceAdd, Nat.zero_add, reduceCtorEq, false_implies, true_implies, decide_eq_true_eq, decide_eq_false_iff_not, forall_const, List.any_cons, List.any_nil, Bool.or_false, subTy, pl1_0, pn1, pl2_0, pl2_1, pn2, pl3_0, pl3_1, pl3_2, pn3, pl4_0, pl4_1, pl4_2, pl4_3, pn4, pl5_0, pl5_1, pl5_2, pl5_3, pl5_4, pn5, pl6_0, pl6_1, pl6_2, pl6_3, pl6_4, pl6_5, pn6, pl7_0, pl7_1, pl7_2, pl7_3, pl7_4, pl7_5, pl7_6, pn7, pl8_0, pl8_1, pl8_2, pl8_3, pl8_4, pl8_5, pl8_6, pl8_7, pn8, pl9_0, pl9_1, pl9_2, pl9_3, pl9_4, pl9_5, pl9_6, pl9_7, pl9_8, pn9]
      refine r__law_refused_right hb5 (by omega) fun S6 hb6 _ => ?_
      simp only [wpS, wpE, wpEs, wpP, wpI, wpT, begin_, hxD, hxD.hxL, catch_, putAll, Ev.unpack, tgSem, wipe, o_add, o_sub, o_mul, o_div, o_mod, o_pow, o_tup, o_lst, o_rep, c_eq, c_ne, c_lt, c_le, c_gt, c_ge, c_isn, c_notn, c_isb, c_in, c_nin, q_int, q_bl, not_true_eq_false, not_false_eq_true, Bool.false_or, Bool.true_or, Bool.or_true, Bool.true_and, Bool.false_and, Bool.and_true, Bool.and_false,  id_eq, lst_new, boolsD, intsD, Option.map_some, List.all_cons, List.all_nil, List.map_append,  q_lit, String.reduceEq, decide_true, decide_false, Bool.not_true, Bool.not_false, Bool.true_eq_false, Bool.false_eq_true, eq_self, i_isn, i_isi, i_isb, i_iss, i_ist, i_isr, t_non, t_int, t_bl, t_str, t_tup, t_fz, b_abs, b_lent, b_lenf, b_lens, b_list, b_tuple, b_int, b_intb, b_sum, b_min2, b_max2, b_all, b_any, b_gcd, b_dict, m_app, m_ext, m_popi, m_pop, x_tup, x_fz, List.map_cons, List.map_nil, List.length_cons, List.length_nil, List.replicate, List.append_nil, List.cons_append, List.nil_append, List.getElem?_cons_zero, List.getElem?_cons_succ, List.set_cons_zero, List.set_cons_succ, Option.some.injEq, D.int.injEq, D.bl.injEq, D.str.injEq, D.tup.injEq, D.ref.injEq, exists_eq_left', exists_eq_left, exists_eq_right, true_and, and_true, Nat.reduceSub, Nat.reduceAdd, Nat.zero_add, reduceCtorEq, false_implies, true_implies, decide_eq_true_eq, decide_eq_false_iff_not, forall_const, List.any_cons, List.any_nil, Bool.or_false, subTy, pl1_0, pn1, pl2_0, pl2_1, pn2, pl3_0, pl3_1, pl3_2, pn3, pl4_0, pl4_1, pl4_2, pl4_3, pn4, pl5_0, pl5_1, pl5_2, pl5_3, pl5_4, pn5, pl6_0, pl6_1, pl6_2, pl6_3, pl6_4, pl6_5, pn6, pl7_0, pl7_1, pl7_2, pl7_3, pl7_4, pl7_5, pl7_6, pn7, pl8_0, pl8_1, pl8_2, pl8_3, pl8_4, pl8_5, pl8_6, pl8_7, pn8, pl9_0, pl9_1, pl9_2, pl9_3, pl9_4, pl9_5, pl9_6, pl9_7, pl9_8, pn9]
      exact hN _ _ ⟨_, _, _, _, rfl, h1'⟩
  · obtain ⟨a1, a2, a3, a4, rfl, h1⟩ := hI
    simp only [law_2, wpS, wpE, wpEs, wpP, wpI, wpT, begin_, hxD, hxD.hxL, catch_, putAll, Ev.unpack, tgSem, wipe, o_add, o_sub, o_mul, o_div, o_mod, o_pow, o_tup, o_lst, o_rep, c_eq, c_ne, c_lt, c_le, c_gt, c_ge, c_isn, c_notn, c_isb, c_in, c_nin, q_int, q_bl, not_true_eq_false, not_false_eq_true, Bool.false_or, Bool.true_or, Bool.or_true, Bool.true_and, Bool.false_and, Bool.and_true, Bool.and_false,  id_eq, lst_new, boolsD, intsD, Option.map_some, List.all_cons, List.all_nil, List.map_append,  q_lit, String.reduceEq, decide_true, decide_false, Bool.not_true, Bool.not_false, Bool.true_eq_false, Bool.false_eq_true, eq_self, i_isn, i_isi, i_isb, i_iss, i_ist, i_isr, t_non, t_int, t_bl, t_str, t_tup, t_fz, b_abs, b_lent, b_lenf, b_lens, b_list, b_tuple, b_int, b_intb, b_sum, b_min2, b_max2, b_all, b_any, b_gcd, b_dict, m_app, m_ext, m_popi, m_pop, x_tup, x_fz, List.map_cons, List.map_nil, List.length_cons, List.length_nil, List.replicate, List.append_nil, List.cons_append, List.nil_append, List.getElem?_cons_zero, List.getElem?_cons_succ, List.set_cons_zero, List.set_cons_succ, Option.some.injEq, D.int.injEq, D.bl.injEq, D.str.injEq, D.tup.injEq, D.ref.injEq, exists_eq_left', exists_eq_left, exists_eq_right, true_and, and_true, Nat.reduceSub, Nat.reduceAdd, Nat.zero_add, reduceCtorEq, false_implies, true_implies, decide_eq_true_eq, decide_eq_false_iff_not, forall_const, List.any_cons, List.any_nil, Bool.or_false, subTy, pl1_0, pn1, pl2_0, pl2_1, pn2, pl3_0, pl3_1, pl3_2, pn3, pl4_0, pl4_1, pl4_2, pl4_3, pn4, pl5_0, pl5_1, pl5_2, pl5_3, pl5_4, pn5, pl6_0, pl6_1, pl6_2, pl6_3, pl6_4, pl6_5, pn6, pl7_0, pl7_1, pl7_2, pl7_3, pl7_4, pl7_5, pl7_6, pn7, pl8_0, pl8_1, pl8_2, pl8_3, pl8_4, pl8_5, pl8_6, pl8_7, pn8, pl9_0, pl9_1, pl9_2, pl9_3, pl9_4, pl9_5, pl9_6, pl9_7, pl9_8, pn9]
    exact q _
end
def depth : Nat := 40
theorem law_true (ns : List Int) (h : ns.length ≤ 63) : Ev.run sub (L.map (·.fn)) depth 48 [.fz (ns.map .int)] [] (fun d _ => d = .bl true) Ev.noX :=
  r_law (n := 30) (Q := fun d _ => d = .bl true) (E := Ev.noX) fun _ => rfl
end EvL
end
section
set_option Elab.async false
set_option linter.all false
set_option maxRecDepth 100000
set_option maxHeartbeats 0
namespace EvL
open PySem PySem.Spec L2
theorem b_is_integer : Ev.BindF x_is_integer.d x_is_integer.ps := fun _ _ _ _ _ _ us hl => match us, hl with | [_], _ => rfl
theorem b_is_tuple_of : Ev.BindF x_is_tuple_of.d x_is_tuple_of.ps := fun _ _ _ _ _ _ us hl => match us, hl with | [_, _], _ => rfl
theorem b_is_fraction : Ev.BindF x_is_fraction.d x_is_fraction.ps := fun _ _ _ _ _ _ us hl => match us, hl with | [_], _ => rfl
theorem b_reduced : Ev.BindF x_reduced.d x_reduced.ps := fun _ _ _ _ _ _ us hl => match us, hl with | [_, _], _ => rfl
theorem b_added : Ev.BindF x_added.d x_added.ps := fun _ _ _ _ _ _ us hl => match us, hl with | [_, _], _ => rfl
theorem b_opposite : Ev.BindF x_opposite.d x_opposite.ps := fun _ _ _ _ _ _ us hl => match us, hl with | [_], _ => rfl
theorem b_lessened : Ev.BindF x_lessened.d x_lessened.ps := fun _ _ _ _ _ _ us hl => match us, hl with | [_, _], _ => rfl
theorem b_product : Ev.BindF x_product.d x_product.ps := fun _ _ _ _ _ _ us hl => match us, hl with | [_, _], _ => rfl
theorem b_quotient : Ev.BindF x_quotient.d x_quotient.ps := fun _ _ _ _ _ _ us hl => match us, hl with | [_, _], _ => rfl
theorem b_is_less : Ev.BindF x_is_less.d x_is_less.ps := fun _ _ _ _ _ _ us hl => match us, hl with | [_, _], _ => rfl
theorem b_root_of : Ev.BindF x_root_of.d x_root_of.ps := fun _ _ _ _ _ _ us hl => match us, hl with | [_], _ => rfl
theorem b_check_fraction : Ev.BindF x_check_fraction.d x_check_fraction.ps := fun _ _ _ _ _ _ us hl => match us, hl with | [_], _ => rfl
theorem b_check_two : Ev.BindF x_check_two.d x_check_two.ps := fun _ _ _ _ _ _ us hl => match us, hl with | [_, _], _ => rfl
theorem b_fraction : Ev.BindF x_fraction.d x_fraction.ps := fun _ _ _ _ _ _ us hl => match us, hl with | [_, _], _ => rfl
theorem b_plus : Ev.BindF x_plus.d x_plus.ps := fun _ _ _ _ _ _ us hl => match us, hl with | [_, _], _ => rfl
theorem b_minus : Ev.BindF x_minus.d x_minus.ps := fun _ _ _ _ _ _ us hl => match us, hl with | [_, _], _ => rfl
theorem b_times : Ev.BindF x_times.d x_times.ps := fun _ _ _ _ _ _ us hl => match us, hl with | [_, _], _ => rfl
theorem b_over : Ev.BindF x_over.d x_over.ps := fun _ _ _ _ _ _ us hl => match us, hl with | [_, _], _ => rfl
theorem b_less : Ev.BindF x_less.d x_less.ps := fun _ _ _ _ _ _ us hl => match us, hl with | [_, _], _ => rfl
theorem b_root : Ev.BindF x_root.d x_root.ps := fun _ _ _ _ _ _ us hl => match us, hl with | [_], _ => rfl
theorem b__law_cell : Ev.BindF x__law_cell.d x__law_cell.ps := fun _ _ _ _ _ _ us hl => match us, hl with | [_, _], _ => rfl
theorem b__law_box : Ev.BindF x__law_box.d x__law_box.ps := fun _ _ _ _ _ _ us hl => match us, hl with | [_], _ => rfl
theorem b__law_take : Ev.BindF x__law_take.d x__law_take.ps := fun _ _ _ _ _ _ us hl => match us, hl with | [_, _], _ => rfl
theorem b__law_pick : Ev.BindF x__law_pick.d x__law_pick.ps := fun _ _ _ _ _ _ us hl => match us, hl with | [_, _], _ => rfl
theorem b__law_mixed : Ev.BindF x__law_mixed.d x__law_mixed.ps := fun _ _ _ _ _ _ us hl => match us, hl with | [_, _], _ => rfl
theorem b__law_same : Ev.BindF x__law_same.d x__law_same.ps := fun _ _ _ _ _ _ us hl => match us, hl with | [_, _], _ => rfl
theorem b__law_copy : Ev.BindF x__law_copy.d x__law_copy.ps := fun _ _ _ _ _ _ us hl => match us, hl with | [_], _ => rfl
theorem b__law_very : Ev.BindF x__law_very.d x__law_very.ps := fun _ _ _ _ _ _ us hl => match us, hl with | [_, _], _ => rfl
theorem b__law_is_int : Ev.BindF x__law_is_int.d x__law_is_int.ps := fun _ _ _ _ _ _ us hl => match us, hl with | [_], _ => rfl
theorem b__law_divisor : Ev.BindF x__law_divisor.d x__law_divisor.ps := fun _ _ _ _ _ _ us hl => match us, hl with | [_, _], _ => rfl
theorem b__law_fr : Ev.BindF x__law_fr.d x__law_fr.ps := fun _ _ _ _ _ _ us hl => match us, hl with | [_, _], _ => rfl
theorem b__law_add : Ev.BindF x__law_add.d x__law_add.ps := fun _ _ _ _ _ _ us hl => match us, hl with | [_, _], _ => rfl
theorem b__law_neg : Ev.BindF x__law_neg.d x__law_neg.ps := fun _ _ _ _ _ _ us hl => match us, hl with | [_], _ => rfl
theorem b__law_mul : Ev.BindF x__law_mul.d x__law_mul.ps := fun _ _ _ _ _ _ us hl => match us, hl with | [_, _], _ => rfl
theorem b__law_div : Ev.BindF x__law_div.d x__law_div.ps := fun _ _ _ _ _ _ us hl => match us, hl with | [_, _], _ => rfl
theorem b__law_less : Ev.BindF x__law_less.d x__law_less.ps := fun _ _ _ _ _ _ us hl => match us, hl with | [_, _], _ => rfl
theorem b__law_root : Ev.BindF x__law_root.d x__law_root.ps := fun _ _ _ _ _ _ us hl => match us, hl with | [_], _ => rfl
theorem b__law_sqrt : Ev.BindF x__law_sqrt.d x__law_sqrt.ps := fun _ _ _ _ _ _ us hl => match us, hl with | [_], _ => rfl
theorem b__law_is_fraction : Ev.BindF x__law_is_fraction.d x__law_is_fraction.ps := fun _ _ _ _ _ _ us hl => match us, hl with | [_], _ => rfl
theorem b__law_bad_fraction : Ev.BindF x__law_bad_fraction.d x__law_bad_fraction.ps := fun _ _ _ _ _ _ us hl => match us, hl with | [_], _ => rfl
theorem b__law_met : Ev.BindF x__law_met.d x__law_met.ps := fun _ _ _ _ _ _ us hl => match us, hl with | [_, _, _], _ => rfl
theorem b__law_integer : Ev.BindF x__law_integer.d x__law_integer.ps := fun _ _ _ _ _ _ us hl => match us, hl with | [_], _ => rfl
theorem b__law_some : Ev.BindF x__law_some.d x__law_some.ps := fun _ _ _ _ _ _ us hl => match us, hl with | [_], _ => rfl
theorem b__law_reckoned_right : Ev.BindF x__law_reckoned_right.d x__law_reckoned_right.ps := fun _ _ _ _ _ _ us hl => match us, hl with | [_, _], _ => rfl
theorem b__law_made_right : Ev.BindF x__law_made_right.d x__law_made_right.ps := fun _ _ _ _ _ _ us hl => match us, hl with | [_, _], _ => rfl
theorem b__law_roots_right : Ev.BindF x__law_roots_right.d x__law_roots_right.ps := fun _ _ _ _ _ _ us hl => match us, hl with | [_, _], _ => rfl
theorem b__law_judged_right : Ev.BindF x__law_judged_right.d x__law_judged_right.ps := fun _ _ _ _ _ _ us hl => match us, hl with | [_, _], _ => rfl
theorem b__law_refused_right : Ev.BindF x__law_refused_right.d x__law_refused_right.ps := fun _ _ _ _ _ _ us hl => match us, hl with | [_, _], _ => rfl
theorem b_law : Ev.BindF x_law.d x_law.ps := fun _ _ _ _ _ _ us hl => match us, hl with | [_], _ => rfl
theorem bc_InvalidNumber : Ev.BindF c_InvalidNumber.d ("self" :: c_InvalidNumber.ns) := fun _ _ _ _ _ _ us hl => match us, hl with | [_, _], _ => rfl
theorem k_0 : Ev.KwF x_fraction.d x_fraction.ps 0 ["bottom", "top"] [1, 0] := fun _ _ _ _ _ _ us ws h1 h2 => match us, ws, h1, h2 with | [], [_, _], _, _ => rfl
theorem k_1 : Ev.KwF x_plus.d x_plus.ps 0 ["other", "one"] [1, 0] := fun _ _ _ _ _ _ us ws h1 h2 => match us, ws, h1, h2 with | [], [_, _], _, _ => rfl
theorem k_2 : Ev.KwF x_minus.d x_minus.ps 0 ["other", "one"] [1, 0] := fun _ _ _ _ _ _ us ws h1 h2 => match us, ws, h1, h2 with | [], [_, _], _, _ => rfl
theorem k_3 : Ev.KwF x_times.d x_times.ps 0 ["other", "one"] [1, 0] := fun _ _ _ _ _ _ us ws h1 h2 => match us, ws, h1, h2 with | [], [_, _], _, _ => rfl
theorem k_4 : Ev.KwF x_over.d x_over.ps 0 ["other", "one"] [1, 0] := fun _ _ _ _ _ _ us ws h1 h2 => match us, ws, h1, h2 with | [], [_, _], _, _ => rfl
theorem k_5 : Ev.KwF x_less.d x_less.ps 0 ["other", "one"] [1, 0] := fun _ _ _ _ _ _ us ws h1 h2 => match us, ws, h1, h2 with | [], [_, _], _, _ => rfl
theorem k_6 : Ev.KwF x_root.d x_root.ps 0 ["number"] [0] := fun _ _ _ _ _ _ us ws h1 h2 => match us, ws, h1, h2 with | [], [_], _, _ => rfl
theorem k_7 : Ev.KwF x_is_fraction.d x_is_fraction.ps 0 ["value"] [0] := fun _ _ _ _ _ _ us ws h1 h2 => match us, ws, h1, h2 with | [], [_], _, _ => rfl
theorem hL : Ev.AllP (fun d => Ev.BindF d.d d.ps) L := ⟨b_is_integer, b_is_tuple_of, b_is_fraction, b_reduced, b_added, b_opposite, b_lessened, b_product, b_quotient, b_is_less, b_root_of, b_check_fraction, b_check_two, b_fraction, b_plus, b_minus, b_times, b_over, b_less, b_root, b__law_cell, b__law_box, b__law_take, b__law_pick, b__law_mixed, b__law_same, b__law_copy, b__law_very, b__law_is_int, b__law_divisor, b__law_fr, b__law_add, b__law_neg, b__law_mul, b__law_div, b__law_less, b__law_root, b__law_sqrt, b__law_is_fraction, b__law_bad_fraction, b__law_met, b__law_integer, b__law_some, b__law_reckoned_right, b__law_made_right, b__law_roots_right, b__law_judged_right, b__law_refused_right, b_law, trivial⟩
theorem hI : Ev.AllP (fun i => Ev.BindF i.d ("self" :: i.ns)) I := ⟨bc_InvalidNumber, trivial⟩
theorem hK : Ev.AllP (fun k => ∃ d, L[k.1]? = some d ∧ d.ps ≠ [] ∧ Ev.KwF d.d d.ps k.2.1 k.2.2.1 k.2.2.2) G.kws := ⟨⟨x_fraction, rfl, fun z => (nomatch z), k_0⟩, ⟨x_plus, rfl, fun z => (nomatch z), k_1⟩, ⟨x_minus, rfl, fun z => (nomatch z), k_2⟩, ⟨x_times, rfl, fun z => (nomatch z), k_3⟩, ⟨x_over, rfl, fun z => (nomatch z), k_4⟩, ⟨x_less, rfl, fun z => (nomatch z), k_5⟩, ⟨x_root, rfl, fun z => (nomatch z), k_6⟩, ⟨x_is_fraction, rfl, fun z => (nomatch z), k_7⟩, trivial⟩
theorem gf : G.fns = L.map fun d => (d.d.name, d.ps) := rfl
theorem s_is_integer : Ev.sdB G sub x_is_integer = true := by decide +kernel
theorem s_is_tuple_of : Ev.sdB G sub x_is_tuple_of = true := by decide +kernel
theorem s_is_fraction : Ev.sdB G sub x_is_fraction = true := by decide +kernel
theorem s_reduced : Ev.sdB G sub x_reduced = true := by decide +kernel
theorem s_added : Ev.sdB G sub x_added = true := by decide +kernel
theorem s_opposite : Ev.sdB G sub x_opposite = true := by decide +kernel
theorem s_lessened : Ev.sdB G sub x_lessened = true := by decide +kernel
theorem s_product : Ev.sdB G sub x_product = true := by decide +kernel
theorem s_quotient : Ev.sdB G sub x_quotient = true := by decide +kernel
theorem s_is_less : Ev.sdB G sub x_is_less = true := by decide +kernel
theorem s_root_of : Ev.sdB G sub x_root_of = true := by decide +kernel
theorem s_check_fraction : Ev.sdB G sub x_check_fraction = true := by decide +kernel
theorem s_check_two : Ev.sdB G sub x_check_two = true := by decide +kernel
theorem s_fraction : Ev.sdB G sub x_fraction = true := by decide +kernel
theorem s_plus : Ev.sdB G sub x_plus = true := by decide +kernel
theorem s_minus : Ev.sdB G sub x_minus = true := by decide +kernel
theorem s_times : Ev.sdB G sub x_times = true := by decide +kernel
theorem s_over : Ev.sdB G sub x_over = true := by decide +kernel
theorem s_less : Ev.sdB G sub x_less = true := by decide +kernel
theorem s_root : Ev.sdB G sub x_root = true := by decide +kernel
theorem s__law_cell : Ev.sdB G sub x__law_cell = true := by decide +kernel
theorem s__law_box : Ev.sdB G sub x__law_box = true := by decide +kernel
theorem s__law_take : Ev.sdB G sub x__law_take = true := by decide +kernel
theorem s__law_pick : Ev.sdB G sub x__law_pick = true := by decide +kernel
theorem s__law_mixed : Ev.sdB G sub x__law_mixed = true := by decide +kernel
theorem s__law_same : Ev.sdB G sub x__law_same = true := by decide +kernel
theorem s__law_copy : Ev.sdB G sub x__law_copy = true := by decide +kernel
theorem s__law_very : Ev.sdB G sub x__law_very = true := by decide +kernel
theorem s__law_is_int : Ev.sdB G sub x__law_is_int = true := by decide +kernel
theorem s__law_divisor : Ev.sdB G sub x__law_divisor = true := by decide +kernel
theorem s__law_fr : Ev.sdB G sub x__law_fr = true := by decide +kernel
theorem s__law_add : Ev.sdB G sub x__law_add = true := by decide +kernel
theorem s__law_neg : Ev.sdB G sub x__law_neg = true := by decide +kernel
theorem s__law_mul : Ev.sdB G sub x__law_mul = true := by decide +kernel
theorem s__law_div : Ev.sdB G sub x__law_div = true := by decide +kernel
theorem s__law_less : Ev.sdB G sub x__law_less = true := by decide +kernel
theorem s__law_root : Ev.sdB G sub x__law_root = true := by decide +kernel
theorem s__law_sqrt : Ev.sdB G sub x__law_sqrt = true := by decide +kernel
theorem s__law_is_fraction : Ev.sdB G sub x__law_is_fraction = true := by decide +kernel
theorem s__law_bad_fraction : Ev.sdB G sub x__law_bad_fraction = true := by decide +kernel
theorem s__law_met : Ev.sdB G sub x__law_met = true := by decide +kernel
theorem s__law_integer : Ev.sdB G sub x__law_integer = true := by decide +kernel
theorem s__law_some : Ev.sdB G sub x__law_some = true := by decide +kernel
theorem s__law_reckoned_right : Ev.sdB G sub x__law_reckoned_right = true := by decide +kernel
theorem s__law_made_right : Ev.sdB G sub x__law_made_right = true := by decide +kernel
theorem s__law_roots_right : Ev.sdB G sub x__law_roots_right = true := by decide +kernel
theorem s__law_judged_right : Ev.sdB G sub x__law_judged_right = true := by decide +kernel
theorem s__law_refused_right : Ev.sdB G sub x__law_refused_right = true := by decide +kernel
theorem s_law : Ev.sdB G sub x_law = true := by decide +kernel
theorem sh : Ev.shB G sub L I = true := Ev.sh_of ⟨s_is_integer, s_is_tuple_of, s_is_fraction, s_reduced, s_added, s_opposite, s_lessened, s_product, s_quotient, s_is_less, s_root_of, s_check_fraction, s_check_two, s_fraction, s_plus, s_minus, s_times, s_over, s_less, s_root, s__law_cell, s__law_box, s__law_take, s__law_pick, s__law_mixed, s__law_same, s__law_copy, s__law_very, s__law_is_int, s__law_divisor, s__law_fr, s__law_add, s__law_neg, s__law_mul, s__law_div, s__law_less, s__law_root, s__law_sqrt, s__law_is_fraction, s__law_bad_fraction, s__law_met, s__law_integer, s__law_some, s__law_reckoned_right, s__law_made_right, s__law_roots_right, s__law_judged_right, s__law_refused_right, s_law, trivial⟩ (by decide +kernel)
def loose0 : List Str := ["__name__", "LayerError", "InvalidNumber", "is_integer", "is_tuple_of", "ZERO", "is_fraction", "reduced", "added", "opposite", "lessened", "product", "quotient", "is_less", "root_of", "check_fraction", "check_two", "fraction", "plus", "minus", "times", "over", "less", "root", "_law_cell", "_law_box", "_law_take", "_law_pick", "_law_mixed", "_law_same"]
def loose1 : List Str := ["_law_copy", "_law_very", "_law_is_int", "_law_divisor", "_law_fr", "_law_add", "_law_neg", "_law_mul", "_law_div", "_law_less", "_law_root", "_law_sqrt", "_law_is_fraction", "_law_bad_fraction", "_law_met", "_law_integer", "_law_some", "_law_reckoned_right", "_law_made_right", "_law_roots_right", "_law_judged_right", "_law_refused_right"]
def loose : List Str := loose0 ++ loose1
abbrev R : PySem.W.OpenRow := PySem.W.OpenLaw.row PySem.Challenge.rw_evenlayers_k01_fractions
abbrev hk : PySem.W.Hook := He.hookX 7 (Ev.faOf L) (Ev.fnL L I) [] [] (Ev.exB G sub)
def ob (s : PySem.W.SharedT) : He.AlX := He.obsX 7 (Ev.faOf L) (Ev.fnL L I) [] [] (Ev.exB G sub) (HandSHeadRun.getT s)
theorem ob_eq (s : PySem.W.SharedT) : ob s = hk.obs s.abs := He.obsX_eq (HandSHeadRun.getT_eq s)
theorem run (w : World) : HandSHeadRun.RunEqI R (PySem.W.view R.prog [0, 56]) hk ob 3000 loose w := by
  unfold HandSHeadRun.RunEqI
  kernel_rfl
end EvL
end
set_option linter.all false
set_option maxRecDepth 100000
set_option maxHeartbeats 0
open PySem PySem.W PySem.Calls PyProof.Rows
theorem PySem.Challenge.cw_evenlayers_k01_fractions_holds : PySem.Challenge.rw_evenlayers_k01_fractions.Holds := by
  w_on; o_law
  refine HandSHeadRun.head_imp (r := OpenLaw.row PySem.Challenge.rw_evenlayers_k01_fractions) (q := view (OpenLaw.row PySem.Challenge.rw_evenlayers_k01_fractions).prog [0, 56]) (H := EvL.hk) (ob := EvL.ob) (M := 3000) (loose := EvL.loose) (d := HandSHeadRun.topDef (OpenLaw.row PySem.Challenge.rw_evenlayers_k01_fractions).prog 56) (kwd := []) EvL.ob_eq
    EvL.run (by kernel_rfl) (by kernel_rfl) (by kernel_rfl) (by rfl) (by first | assumption | decide +kernel) (by decide +kernel) ⟨rfl, rfl, rfl, rfl, rfl, by decide +kernel⟩ ?hw ?hc
  case hw => w_witness2
  case hc =>
    refine L2.walk_ofE (l := PySem.Challenge.rw_evenlayers_k01_fractions) (n := 63) (k := EvL.depth + 3) (x := "script") (CX := L2.CX0) rfl (by decide) (by kernel_rfl) ⟨rfl, by decide, by decide⟩ ?F (fun _ _ _ _ z => z)
    intro w mg fa h Y G hmg0
    obtain ⟨K, KX, c⟩ := Y
    have hmg : mg (EvL.x_law.d.name) = some (.ref fa) := by
      have e : (HandSHeadRun.topDef (OpenLaw.row PySem.Challenge.rw_evenlayers_k01_fractions).prog 56).name = ("law" : PySem.Str) := by kernel_rfl
      rw [e] at hmg0
      exact hmg0
    obtain ⟨fd, sp, hb, hs, hF⟩ := Ev.law_keeps (P := (PySem.Challenge.rw_evenlayers_k01_fractions).prog) (w := w) (n := 63) (m := EvL.depth) (li := 48) (df := EvL.x_law) KX G c EvL.gf EvL.sh (Ev.hb_of EvL.hL EvL.hK) (Ev.hi_of EvL.hI) rfl rfl hmg EvL.law_true
    exact ⟨K, fd, sp, KX, hb, hs, fun base h1 h2 => hF base h1 h2⟩
