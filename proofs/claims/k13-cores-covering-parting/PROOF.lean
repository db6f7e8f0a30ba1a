import PyProof.Rows.All
import Wide.All
import OpenK.AllK
import Wide.FinOn
import HandS.ForMost
import HandS.Flow
import HandS.TupAny
import HandS.Conv
import HandS.IsInst
import HandS.Deep
import HandS.Rev
import HandS.Zip
import HandS.SortInts
import KE.SortData
import HandS.TupMul
import HandS.More
import KE.DatumOrd
import KE.GoesMore
import KE.GoesEnum
import HandS.Style
import PySem.Challenge.RW_flexplan_k13_cores_covering_parting
section
set_option Elab.async false
set_option linter.all false
set_option maxRecDepth 100000
/-! FlxCore: a small pure language (Ex, Sm) with pure data (D), a store of lists (St), and what a text of it asks (wE, wS, callW). -/
namespace Flx
open PySem PySem.Spec PyProof.Rows

/-- pure data: what a value is, without the heap; ref n is the n-th object of the store -/
inductive D where
  | non | bl (b : Bool) | int (i : Int) | str (s : Str) | tup (xs : List D) | ref (n : Nat)
  deriving Inhabited
/-- objects of the store: a list that may change, a list that may be read alone -/
inductive MO where
  | lst (xs : List D) | fro (xs : List D)
  deriving Inhabited
def MO.mut : MO → Bool
  | .lst _ => true
  | .fro _ => false
abbrev St := List MO
abbrev Sg := List (Option D)
abbrev QD := D → St → Prop

inductive BOp where | add | sub | mul | fdiv | mod | pow deriving DecidableEq
inductive COp where | eq | ne | lt | le | gt | ge | is | isnot | isin | notin deriving DecidableEq
inductive Ty where | tuple | list | str | int | bool deriving DecidableEq
inductive Blt where | len | abs | int | max | min | sum | tuple | list | any | all | str | sorted deriving DecidableEq
inductive Mth where | append | insert | pop deriving DecidableEq
inductive SMth where | split deriving DecidableEq
mutual
inductive Tg where
  | nm (i : Nat)
  | tp (ts : Tgs)
inductive Tgs where
  | nil
  | cons (t : Tg) (ts : Tgs)
end
mutual
inductive Ex where
  | var (i : Nat) | cint (k : Int) | cstr (s : Str) | cbl (b : Bool) | cnon
  | bin (op : BOp) (a b : Ex) | neg (a : Ex)
  | cmp (op : COp) (a b : Ex) | cmp2 (op op' : COp) (a b c : Ex) | cmp3 (op op' op2 : COp) (a b c d : Ex)
  | and (a b : Ex) | or (a b : Ex) | not (a : Ex)
  | ite (c a b : Ex)
  | tup (es : Exs) | lst (es : Exs)
  | ix (a b : Ex) | sl (a : Ex) (lo hi : ExO)
  | call (f : Nat) (es : Exs)
  | blt (f : Blt) (es : Exs)
  | isi (a : Ex) (t : Ty)
  | mth (m : Mth) (o : Ex) (es : Exs)
  | smt (m : SMth) (o e : Ex)
  | lrg (es : Exs)
  | lc (elt : Ex) (tg : Tg) (it : It) (ifs : Exs) (own : List Nat)
inductive It where
  | seq (e : Ex) | rng (es : Exs) | rgd (a b : Ex) | enm (e : Ex) | zip (a b : Ex) | rev (e : Ex)
inductive Exs where
  | nil
  | cons (e : Ex) (es : Exs)
inductive ExO where
  | none
  | some (e : Ex)
end
mutual
inductive Sm where
  | set (i : Nat) (e : Ex)
  | setT (ts : Tgs) (e : Ex)
  | par (is : List Nat) (es : Exs)
  | setIx (o i e : Ex)
  | ex (e : Ex)
  | ite (c : Ex) (a b : Sms)
  | for (tg : Tg) (it : It) (b : Sms)
  | whl (c : Ex) (b : Sms)
  | ret (e : Ex) | retN | brk | cnt | pas
inductive Sms where
  | nil
  | cons (s : Sm) (ss : Sms)
end

/-! ### operations on data -/
mutual
def toP : D → Option PyData
  | .non => some .none
  | .bl b => some (.bool b)
  | .int i => some (.int i)
  | .str s => some (.str s)
  | .tup xs => (toPs xs).map .tuple
  | .ref _ => none
def toPs : List D → Option (List PyData)
  | [] => some []
  | d :: ds => (toP d).bind fun p => (toPs ds).map fun ps => p :: ps
end
/-- the items of a list of the store -/
def seqOf (S : St) (n : Nat) : Option (List D) :=
  match S[n]? with
  | some (.lst xs) => some xs
  | some (.fro xs) => some xs
  | none => none
mutual
/-- data whose tuples may hold lists of plain things -/
def toPR (S : St) : D → Option PyData
  | .non => some .none
  | .bl b => some (.bool b)
  | .int i => some (.int i)
  | .str s => some (.str s)
  | .tup xs => (toPRs S xs).map .tuple
  | .ref n => (seqOf S n).bind fun xs => (toPs xs).map .list
def toPRs (S : St) : List D → Option (List PyData)
  | [] => some []
  | d :: ds => (toPR S d).bind fun p => (toPRs S ds).map fun ps => p :: ps
end
def toPS (S : St) : D → Option PyData
  | .ref n => (seqOf S n).bind fun xs => (toPRs S xs).map .list
  | d => toPR S d
/-- what sorted makes of them -/
def sortD (S : St) (ds : List D) : List D := ds.mergeSort (PySem.W.dataLe false fun d => (toPR S d).getD .none)
def eqB (S : St) (x y : D) : Option Bool :=
  match toPS S x, toPS S y with
  | some p, some q => if SeqAt.shaped p = true ∧ SeqAt.shaped q = true then some (PyData.eqv p q) else none
  | _, _ => none
def truD (S : St) : D → Option Bool
  | .non => some false
  | .bl b => some b
  | .int i => some (i != 0)
  | .str y => if y.length ≤ sizeLine then some ((y.length : Int) != 0) else none
  | .tup xs => some (!xs.isEmpty)
  | .ref n => (seqOf S n).map fun xs => !xs.isEmpty
def isNon : D → Bool
  | .non => true
  | _ => false
/-- x[lo:hi] -/
def cutD (xs : List D) (lo hi : Option Int) : List D := (xs.drop (HT.sIx xs.length 0 lo)).take (HT.sIx xs.length xs.length hi - HT.sIx xs.length 0 lo)
def intsOf : List D → Option (List Int)
  | [] => some []
  | .int i :: r => (intsOf r).map fun is => i :: is
  | _ => none
def blsOf : List D → Option (List Bool)
  | [] => some []
  | .bl i :: r => (blsOf r).map fun is => i :: is
  | _ => none
/-- the items of a tuple or a list -/
def itemsOf (S : St) : D → Option (List D)
  | .tup xs => some xs
  | .ref n => seqOf S n
  | _ => none
def flatD : D → Bool
  | .non => true
  | .bl _ => true
  | .int _ => true
  | .str _ => true
  | _ => false
def eqF : D → D → Bool
  | .non, .non => true
  | .bl a, .bl b => a == b
  | .bl a, .int b => (if a then 1 else 0) == b
  | .int a, .bl b => a == (if b then 1 else 0)
  | .int a, .int b => a == b
  | .str a, .str b => a == b
  | _, _ => false
def binW (op : BOp) (x y : D) (S : St) (Q : QD) : Prop :=
  match op, x, y with
  | .add, .int i, .int j => Q (.int (i + j)) S
  | .add, .str a, .str b => a.length + b.length ≤ sizeLine ∧ Q (.str (a ++ b)) S
  | .add, .tup a, .tup b => a.length + b.length ≤ sizeLine ∧ Q (.tup (a ++ b)) S
  | .add, .ref a, .ref b => ∃ xs ys, S[a]? = some (.lst xs) ∧ S[b]? = some (.lst ys) ∧ xs.length + ys.length ≤ sizeLine ∧ Q (.ref S.length) (S ++ [.lst (xs ++ ys)])
  | .sub, .int i, .int j => Q (.int (i - j)) S
  | .mul, .int i, .int j => L2.CMul i j ∧ Q (.int (i * j)) S
  | .mul, .ref a, .int k => ∃ xs, S[a]? = some (.lst xs) ∧ -(2 ^ 63) ≤ k ∧ k < 2 ^ 63 ∧ xs.length * k.toNat ≤ sizeLine ∧ Q (.ref S.length) (S ++ [.lst (List.replicate k.toNat xs).flatten])
  | .mul, .tup a, .int k => (-(2 ^ 63) ≤ k ∧ k ≤ 1000 ∧ a.length ≤ 1000) ∧ Q (.tup (List.replicate k.toNat a).flatten) S
  | .fdiv, .int i, .int j => L2.CDivN i j ∧ Q (.int (i.fdiv j)) S
  | .mod, .int i, .int j => j ≠ 0 ∧ Q (.int (i.fmod j)) S
  | .pow, .int i, .int j => L2.CPow i j ∧ Q (.int (i ^ j.toNat)) S
  | _, _, _ => False
def cmpW (op : COp) (x y : D) (S : St) (Q : Bool → St → Prop) : Prop :=
  match op with
  | .eq => ∃ b, eqB S x y = some b ∧ Q b S
  | .ne => ∃ b, eqB S x y = some b ∧ Q (!b) S
  | .is => y = .non ∧ Q (isNon x) S
  | .isnot => y = .non ∧ Q (!isNon x) S
  | .isin => (∃ xs, itemsOf S y = some xs ∧ flatD x = true ∧ xs.all flatD = true ∧ Q (xs.any fun z => eqF z x) S) ∨ ∃ xs p ps, itemsOf S y = some xs ∧ toPR S x = some p ∧ toPRs S xs = some ps ∧ PyData.canLayAll0 ps = true ∧ SeqAt.shaped p = true ∧ Q (ps.any fun z => PyData.eqv z p) S
  | .notin => (∃ xs, itemsOf S y = some xs ∧ flatD x = true ∧ xs.all flatD = true ∧ Q (!xs.any fun z => eqF z x) S) ∨ ∃ xs p ps, itemsOf S y = some xs ∧ toPR S x = some p ∧ toPRs S xs = some ps ∧ PyData.canLayAll0 ps = true ∧ SeqAt.shaped p = true ∧ Q (!ps.any fun z => PyData.eqv z p) S
  | .lt => match x, y with | .int i, .int j => Q (decide (i < j)) S | _, _ => False
  | .le => match x, y with | .int i, .int j => Q (decide (i ≤ j)) S | _, _ => False
  | .gt => match x, y with | .int i, .int j => Q (decide (j < i)) S | _, _ => False
  | .ge => match x, y with | .int i, .int j => Q (decide (j ≤ i)) S | _, _ => False
def ixW (x y : D) (S : St) (Q : QD) : Prop :=
  match x, y with
  | .tup xs, .int i => ∃ d, L2.atI xs i = some d ∧ Q d S
  | .ref n, .int i => ∃ xs d, seqOf S n = some xs ∧ L2.atI xs i = some d ∧ Q d S
  | .str z, .int i => ∃ c, z.length ≤ sizeLine ∧ L2.atI z.cps.toList i = some c ∧ Q (.str ⟨#[c]⟩) S
  | _, _ => False
def slW (x : D) (lo hi : Option Int) (S : St) (Q : QD) : Prop :=
  match x with
  | .tup xs => Q (.tup (cutD xs lo hi)) S
  | .ref n => ∃ xs, seqOf S n = some xs ∧ Q (.ref S.length) (S ++ [.lst (cutD xs lo hi)])
  | _ => False
def maxOf : List Int → Int
  | [] => 0
  | x :: xs => xs.foldl max x
def minOf : List Int → Int
  | [] => 0
  | x :: xs => xs.foldl min x
def rgD (a b : Int) : List D := (List.range (b - a).toNat).map fun i => D.int (a + (i : Nat))
/-- a, a - 1, .. above b -/
def rgdD (a b : Int) : List D := (List.range (a - b).toNat).map fun i => D.int (a - (i : Nat))
def bltW (f : Blt) (xs : List D) (S : St) (Q : QD) : Prop :=
  match f, xs with
  | .len, [.tup ds] => Q (.int ds.length) S
  | .len, [.ref n] => ∃ ds, seqOf S n = some ds ∧ Q (.int ds.length) S
  | .len, [.str z] => z.length ≤ sizeLine ∧ Q (.int z.length) S
  | .abs, [.int i] => Q (.int (if i < 0 then -i else i)) S
  | .int, [.int i] => Q (.int i) S
  | .int, [.bl b] => Q (.int (if b then 1 else 0)) S
  | .max, [.int i, .int j] => Q (.int (if j > i then j else i)) S
  | .min, [.int i, .int j] => Q (.int (if j < i then j else i)) S
  | .max, [.int i, .int j, .int k] => Q (.int (max (max i j) k)) S
  | .min, [.int i, .int j, .int k] => Q (.int (min (min i j) k)) S
  | .max, [.int i, .int j, .int k, .int l] => Q (.int (max (max (max i j) k) l)) S
  | .min, [.int i, .int j, .int k, .int l] => Q (.int (min (min (min i j) k) l)) S
  | .max, [.ref n] => ∃ ds ns, seqOf S n = some ds ∧ intsOf ds = some ns ∧ 0 < ns.length ∧ Q (.int (maxOf ns)) S
  | .min, [.ref n] => ∃ ds ns, seqOf S n = some ds ∧ intsOf ds = some ns ∧ 0 < ns.length ∧ Q (.int (minOf ns)) S
  | .max, [.tup ds] => ∃ ns, intsOf ds = some ns ∧ 0 < ns.length ∧ Q (.int (maxOf ns)) S
  | .min, [.tup ds] => ∃ ns, intsOf ds = some ns ∧ 0 < ns.length ∧ Q (.int (minOf ns)) S
  | .sum, [.ref n] => ∃ ds ns, seqOf S n = some ds ∧ intsOf ds = some ns ∧ Q (.int ns.sum) S
  | .tuple, [.tup ds] => Q (.tup ds) S
  | .tuple, [.ref n] => ∃ ds, seqOf S n = some ds ∧ Q (.tup ds) S
  | .list, [.tup ds] => Q (.ref S.length) (S ++ [.lst ds])
  | .list, [.ref n] => ∃ ds, seqOf S n = some ds ∧ Q (.ref S.length) (S ++ [.lst ds])
  | .any, [.ref n] => ∃ ds bs, seqOf S n = some ds ∧ blsOf ds = some bs ∧ Q (.bl (bs.any id)) S
  | .all, [.ref n] => ∃ ds bs, seqOf S n = some ds ∧ blsOf ds = some bs ∧ Q (.bl (bs.all id)) S
  | .sorted, [.ref n] => ∃ ds ps, seqOf S n = some ds ∧ toPRs S ds = some ps ∧ PySem.W.AllAlike ps ∧ PySem.W.Sortable ps ∧ (∀ p ∈ ps, p.depth ≤ 60) ∧ Q (.ref S.length) (S ++ [.lst (sortD S ds)])
  | .str, [.int i] => i.natAbs.log2 < 1920 ∧ Q (.str (toString i)) S
  | _, _ => False
def isTy : Ty → D → Option Bool
  | .tuple, .tup _ => some true
  | .tuple, _ => some false
  | .list, .ref _ => some true
  | .list, _ => some false
  | .str, .str _ => some true
  | .str, _ => some false
  | .bool, .bl _ => some true
  | .bool, _ => some false
  | .int, .int _ => some true
  | .int, .bl _ => some true
  | .int, _ => some false
/-- where list.insert puts it -/
def insAt (n : Nat) (i : Int) : Nat := if i < 0 then (i + n).toNat else min i.toNat n
def mthW (m : Mth) (x : D) (xs : List D) (S : St) (Q : QD) : Prop :=
  match m, x, xs with
  | .append, .ref n, [y] => ∃ ds, S[n]? = some (.lst ds) ∧ ds.length < sizeLine ∧ Q .non (S.set n (.lst (ds ++ [y])))
  | .insert, .ref n, [.int i, y] => ∃ ds, S[n]? = some (.lst ds) ∧ ds.length < sizeLine ∧ 0 ≤ i ∧ i ≤ ds.length ∧ Q .non (S.set n (.lst (ds.take i.toNat ++ y :: ds.drop i.toNat)))
  | .pop, .ref n, [] => ∃ ds y, S[n]? = some (.lst ds) ∧ ds[ds.length - 1]? = some y ∧ Q y (S.set n (.lst ds.dropLast))
  | .pop, .ref n, [.int i] => ∃ ds k y, S[n]? = some (.lst ds) ∧ -(2 ^ 63) ≤ i ∧ i < 2 ^ 63 ∧ seqIndex? i ds.length = some k ∧ ds[k]? = some y ∧ Q y (S.set n (.lst (ds.eraseIdx k)))
  | _, _, _ => False
/-- a list of the store -/
def lstD (S : St) (x : D) : Prop := ∃ n ys, x = .ref n ∧ seqOf S n = some ys
/-- methods of text -/
def smtW (m : SMth) (x y : D) (S : St) (Q : QD) : Prop :=
  match m, x, y with
  | .split, .str a, .str b => (b.length == 0) = false ∧ a.length + 2 ≤ sizeLine ∧ Q (.ref S.length) (S ++ [.lst ((PySem.Txt.split a b).map D.str)])
  | _, _, _ => False
def setIxW (o i v : D) (S : St) (Q : St → Prop) : Prop :=
  match o, i with
  | .ref n, .int k => ∃ xs j, S[n]? = some (.lst xs) ∧ L2.ixN xs.length k = some j ∧ Q (S.set n (.lst (xs.set j v)))
  | _, _ => False
def varW (i : Nat) (σ : Sg) (S : St) (Q : QD) : Prop := ∃ d, σ[i]? = some (some d) ∧ Q d S
mutual
def gA : Tg → D → Sg → Option Sg
  | .nm i, d, σ => some (σ.set i (some d))
  | .tp ts, .tup ds, σ => gAs ts ds σ
  | .tp _, _, _ => none
def gAs : Tgs → List D → Sg → Option Sg
  | .nil, [], σ => some σ
  | .cons t ts, d :: ds, σ => (gA t d σ).bind fun σ' => gAs ts ds σ'
  | _, _, _ => none
end
def wipeD (σ : Sg) : List Nat → Sg
  | [] => σ
  | v :: vs => (wipeD σ vs).set v none
/-- a comprehension's turns over the items -/
def lcW (G : St → Prop) (tg : Tg) (tt : Sg → St → (Bool → St → Prop) → Prop) (te : Sg → St → QD → Prop) (σ : Sg) : List D → List D → St → (List D → St → Prop) → Prop
  | [], acc, S, Q => G S ∧ Q acc S
  | x :: xs, acc, S, Q => G S ∧ ∃ σ', gA tg x σ = some σ' ∧ tt σ' S fun b S1 =>
      if b = true then te σ' S1 fun y S2 => lcW G tg tt te σ xs (acc ++ [y]) S2 Q else lcW G tg tt te σ xs acc S1 Q
/-- a range's bounds -/
def rngW (xs : List D) (Q : Int → Int → Prop) : Prop :=
  match xs with
  | [.int j] => -(2 ^ 62) ≤ j ∧ j < 2 ^ 62 ∧ Q 0 j
  | [.int i, .int j] => (-(2 ^ 62) ≤ i ∧ i < 2 ^ 62 ∧ -(2 ^ 62) ≤ j ∧ j < 2 ^ 62) ∧ Q i j
  | _ => False
def noG : St → Prop := fun _ => True
/-- that which is walked stands still -/
def still (d : D) (xs : List D) : St → Prop := fun S => itemsOf S d = some xs

section
variable (C : Nat → List D → St → QD → Prop)
mutual
def wE : Ex → Sg → St → QD → Prop
  | .var i, σ, S, Q => varW i σ S Q
  | .cint k, _, S, Q => Q (.int k) S
  | .cstr s, _, S, Q => Q (.str s) S
  | .cbl b, _, S, Q => Q (.bl b) S
  | .cnon, _, S, Q => Q .non S
  | .bin op a b, σ, S, Q => wE a σ S fun x S1 => wE b σ S1 fun y S2 => binW op x y S2 Q
  | .neg a, σ, S, Q => wE a σ S fun x S1 => ∃ i, x = .int i ∧ Q (.int (-i)) S1
  | .cmp op a b, σ, S, Q => wE a σ S fun x S1 => wE b σ S1 fun y S2 => cmpW op x y S2 fun k S3 => Q (.bl k) S3
  | .cmp2 op op' a b c, σ, S, Q => wE a σ S fun x S1 => wE b σ S1 fun y S2 => cmpW op x y S2 fun k S3 => if k = true then wE c σ S3 fun z S4 => cmpW op' y z S4 fun k' S5 => Q (.bl k') S5 else Q (.bl false) S3
  | .cmp3 op op' op2 a b c d, σ, S, Q => wE a σ S fun x S1 => wE b σ S1 fun y S2 => cmpW op x y S2 fun k S3 => if k = true then wE c σ S3 fun z S4 => cmpW op' y z S4 fun k' S5 => if k' = true then wE d σ S5 fun u S6 => cmpW op2 z u S6 fun k2 S7 => Q (.bl k2) S7 else Q (.bl false) S5 else Q (.bl false) S3
  | .and a b, σ, S, Q => wE a σ S fun x S1 => ∃ k, truD S1 x = some k ∧ if k = true then wE b σ S1 Q else Q x S1
  | .or a b, σ, S, Q => wE a σ S fun x S1 => ∃ k, truD S1 x = some k ∧ if k = true then Q x S1 else wE b σ S1 Q
  | .not a, σ, S, Q => wE a σ S fun x S1 => ∃ k, truD S1 x = some k ∧ Q (.bl (!k)) S1
  | .ite c a b, σ, S, Q => wE c σ S fun x S1 => ∃ k, truD S1 x = some k ∧ if k = true then wE a σ S1 Q else wE b σ S1 Q
  | .tup es, σ, S, Q => wEs es σ S fun xs S1 => xs.length ≤ sizeLine ∧ Q (.tup xs) S1
  | .lst es, σ, S, Q => wEs es σ S fun xs S1 => xs.length ≤ sizeLine ∧ Q (.ref S1.length) (S1 ++ [.lst xs])
  | .ix a b, σ, S, Q => wE a σ S fun x S1 => wE b σ S1 fun y S2 => ixW x y S2 Q
  | .sl a lo hi, σ, S, Q => wE a σ S fun x S1 => wO lo σ S1 fun l S2 => wO hi σ S2 fun h S3 => slW x l h S3 Q
  | .call f es, σ, S, Q => wEs es σ S fun xs S1 => C f xs S1 Q
  | .blt f es, σ, S, Q => wEs es σ S fun xs S1 => bltW f xs S1 Q
  | .isi a t, σ, S, Q => wE a σ S fun x S1 => ∃ b, isTy t x = some b ∧ Q (.bl b) S1
  | .mth m o es, σ, S, Q => wE o σ S fun x S1 => lstD S1 x ∧ wEs es σ S1 fun xs S2 => mthW m x xs S2 Q
  | .smt m o e, σ, S, Q => wE o σ S fun x S1 => (∃ a, x = .str a) ∧ wE e σ S1 fun y S2 => smtW m x y S2 Q
  | .lrg es, σ, S, Q => wEs es σ S fun xs S1 => rngW xs fun a b => (b - a).toNat ≤ 2 ^ 24 ∧ Q (.ref S1.length) (S1 ++ [.lst (rgD a b)])
  | .lc elt tg it ifs own, σ, S, Q => wI it σ S fun G xs S1 => xs.length < sizeLine ∧
      lcW G tg (fun σ' S' Q' => wC ifs σ' S' Q') (fun σ' S' Q' => wE elt σ' S' Q') (wipeD σ own) xs [] S1 fun acc S2 => Q (.ref S2.length) (S2 ++ [.lst acc])
def wI : It → Sg → St → ((St → Prop) → List D → St → Prop) → Prop
  | .seq e, σ, S, R => wE e σ S fun x S1 => ∃ xs, itemsOf S1 x = some xs ∧ R (still x xs) xs S1
  | .rng es, σ, S, R => wEs es σ S fun xs S1 => rngW xs fun a b => R noG (rgD a b) S1
  | .rgd a b, σ, S, R => wE a σ S fun x S1 => wE b σ S1 fun y S2 => ∃ i j, x = .int i ∧ y = .int j ∧ (-(2 ^ 62) ≤ i ∧ i < 2 ^ 62 ∧ -(2 ^ 62) ≤ j ∧ j < 2 ^ 62) ∧ R noG (rgdD i j) S2
  | .enm e, σ, S, R => wE e σ S fun x S1 => ∃ xs, itemsOf S1 x = some xs ∧ R (still x xs) ((List.range xs.length).zipWith (fun i d => .tup [.int (i : Nat), d]) xs) S1
  | .zip a b, σ, S, R => wE a σ S fun x S1 => wE b σ S1 fun y S2 => ∃ xs ys, itemsOf S2 x = some xs ∧ itemsOf S2 y = some ys ∧ R (fun S' => still x xs S' ∧ still y ys S') (List.zipWith (fun d e => .tup [d, e]) xs ys) S2
  | .rev e, σ, S, R => wE e σ S fun x S1 => ∃ xs, itemsOf S1 x = some xs ∧ R (still x xs) xs.reverse S1
def wEs : Exs → Sg → St → (List D → St → Prop) → Prop
  | .nil, _, S, Q => Q [] S
  | .cons e es, σ, S, Q => wE e σ S fun x S1 => wEs es σ S1 fun xs S2 => Q (x :: xs) S2
def wO : ExO → Sg → St → (Option Int → St → Prop) → Prop
  | .none, _, S, Q => Q none S
  | .some e, σ, S, Q => wE e σ S fun x S1 => ∃ i, x = .int i ∧ Q (some i) S1
/-- a clause's tests: none or one -/
def wC : Exs → Sg → St → (Bool → St → Prop) → Prop
  | .nil, _, S, Q => Q true S
  | .cons e .nil, σ, S, Q => wE e σ S fun x S1 => ∃ k, truD S1 x = some k ∧ Q k S1
  | .cons _ (.cons _ _), _, _, _ => False
end
end
/-- a test -/
def wT (C : Nat → List D → St → QD → Prop) (e : Ex) (σ : Sg) (S : St) (Q : Bool → St → Prop) : Prop := wE C e σ S fun x S1 => ∃ k, truD S1 x = some k ∧ Q k S1

/-- what is wanted behind a statement -/
structure En where
  nx : Sg → St → Prop
  rt : QD
  bk : Sg → St → Prop := fun _ _ => False
  ct : Sg → St → Prop := fun _ _ => False
/-- values to names, one by one -/
def parW : List Nat → List D → Sg → (Sg → Prop) → Prop
  | [], [], σ, k => k σ
  | i :: is, x :: xs, σ, k => parW is xs (σ.set i (some x)) k
  | _, _, _, _ => False
abbrev TSt := En → Sg → St → Prop
/-- a for's turns over the items -/
def forW (G : St → Prop) (tg : Tg) (b : TSt) : List D → TSt
  | [], E, σ, S => G S ∧ E.nx σ S
  | x :: xs, E, σ, S => G S ∧ ∃ σ', gA tg x σ = some σ' ∧ b { nx := fun σ2 S2 => forW G tg b xs E σ2 S2, ct := fun σ2 S2 => forW G tg b xs E σ2 S2, bk := E.nx, rt := E.rt } σ' S
def whlW (c : Sg → St → (Bool → St → Prop) → Prop) (b : TSt) : Nat → TSt
  | 0, _, _, _ => False
  | n + 1, E, σ, S => c σ S fun k S1 => if k = true then b { nx := fun σ2 S2 => whlW c b n E σ2 S2, ct := fun σ2 S2 => whlW c b n E σ2 S2, bk := E.nx, rt := E.rt } σ S1 else E.nx σ S1
section
variable (C : Nat → List D → St → QD → Prop)
mutual
def wS : Sm → TSt
  | .set i e, E, σ, S => wE C e σ S fun x S1 => E.nx (σ.set i (some x)) S1
  | .setT ts e, E, σ, S => wE C e σ S fun x S1 => ∃ σ', gA (.tp ts) x σ = some σ' ∧ E.nx σ' S1
  | .par is es, E, σ, S => wEs C es σ S fun xs S1 => parW is xs σ fun σ' => E.nx σ' S1
  | .setIx o i e, E, σ, S => wE C e σ S fun v S1 => wE C o σ S1 fun x S2 => wE C i σ S2 fun y S3 => setIxW x y v S3 fun S4 => E.nx σ S4
  | .ex e, E, σ, S => wE C e σ S fun _ S1 => E.nx σ S1
  | .ite c a b, E, σ, S => wT C c σ S fun k S1 => if k = true then wSs a E σ S1 else wSs b E σ S1
  | .for tg it b, E, σ, S => wI C it σ S fun G xs S1 => forW G tg (fun E' σ' S' => wSs b E' σ' S') xs E σ S1
  | .whl c b, E, σ, S => ∃ n, whlW (fun σ' S' Q' => wT C c σ' S' Q') (fun E' σ' S' => wSs b E' σ' S') n E σ S
  | .ret e, E, σ, S => wE C e σ S E.rt
  | .retN, E, _, S => E.rt .non S
  | .brk, E, σ, S => E.bk σ S
  | .cnt, E, σ, S => E.ct σ S
  | .pas, E, σ, S => E.nx σ S
def wSs : Sms → TSt
  | .nil, E, σ, S => E.nx σ S
  | .cons s ss, E, σ, S => wS s { nx := fun σ2 S2 => wSs ss E σ2 S2, rt := E.rt, bk := E.bk, ct := E.ct } σ S
end
end
/-- a def: its parameters' number, its slots' number, its body -/
structure FDef where
  name : Str
  np : Nat
  nn : Nat
  body : Sms
def startD (nn : Nat) (ds : List D) : Sg := ds.map some ++ List.replicate (nn - ds.length) none
def callW (T : List FDef) : Nat → Nat → List D → St → QD → Prop
  | 0, _, _, _, _ => False
  | k + 1, f, ds, S, Q => ∃ fd, T[f]? = some fd ∧ ds.length = fd.np ∧ wSs (callW T k) fd.body { nx := fun _ S' => Q .non S', rt := Q } (startD fd.nn ds) S
end Flx

end
section
set_option Elab.async false
set_option linter.all false
set_option autoImplicit false
set_option maxRecDepth 100000
/-! FlxMax: max and min of three and four ints; a chain of three comparisons. -/
namespace Flx
open PySem PySem.Spec PyProof.Rows
section
variable {prog : Program} {w : World} {A : Around} {E : Value → Shared → Prop} {s : Shared}
theorem args_max4 (a b c d : Value) : argsOk "max" ⟨[a, b, c, d], []⟩ := by unfold argsOk; kernel_rfl
theorem args_min4 (a b c d : Value) : argsOk "min" ⟨[a, b, c, d], []⟩ := by unfold argsOk; kernel_rfl
theorem call_max_four {a b c d : Value} {Q : Value → Shared → Prop}
    (h : wpAny (model prog w) A.in1 (pyIter (.ref s.heap.objs.size)) (fun it s₂ => ∃ I fp wr n P St bt, it = .ref I ∧ Walks prog w A.in1 I fp wr n P St ∧ St 0 s₂.heap ∧ (∀ b ∈ fp, b < s₂.heap.objs.size) ∧ 0 < n ∧ CmpOf prog w A.in1 .Gt P bt ∧
      ∀ v h' tk, P (argBest bt (n - 1)) v → (∀ b o, b ∉ wr → s₂.heap.get? b = some o → h'.get? b = some o) → Q v { s₂ with heap := h', toks := tk }) E
      { s with heap := s.heap.push { cls := .type "tuple", data := .seq #[a, b, c, d] } }) :
    wpAny (model prog w) A (call (.builtin "max") [a, b, c, d]) Q E s := by
  have hname : (toString "max" ++ toString ".loop" : String) = "max.loop" := by decide
  refine call_function_tree F.kind_max F.plain_max F.entry_max (args_max4 _ _ _ _) ?_
  show wpAny _ A.in1 (Builtin.Builtins.bindParams "max" ["key", "default"] 0 ⟨[], []⟩ >>= _) _ _ s
  refine wpAny_bind (wpAny_of_eq (show Builtin.Builtins.bindParams "max" ["key", "default"] 0 ⟨[], []⟩ = pure [none, none] from rfl) ?_)
  show wpAny _ A.in1 (newTuple [a, b, c, d] >>= _) _ _ s
  refine wpAny_bind (wpAny_newObj_type ?_)
  refine wpAny_bind (wpAny_mono h (fun it s₂ h₂ => ?_) fun _ _ e => e)
  obtain ⟨I, fp, wr, n, P, St, bt, rfl, W, hst, hfp, hn, hcmp, hQ⟩ := h₂
  refine wpAny_bind (wpAny_newObj_type ?_)
  have hSf : s₂.heap.objs.size ∉ fp := fun hm => Nat.lt_irrefl _ (hfp _ hm)
  rw [hname]
  refine wpAny_pure ⟨plainId_quiet F.plain_max_loop _, codeAny_max_loop_first W bt hcmp s₂.heap.objs.size hSf hn (W.frame _ _ _ hst fun b _ o e => Heap.get?_push_of_some _ e) (Heap.get?_push_size _ rfl) fun v h' tk hP hk => ?_⟩
  exact hQ v h' tk hP fun b o hbw e => hk b o hbw (Nat.ne_of_lt (Heap.lt_size e)) (Heap.get?_push_of_some _ e)
theorem call_min_four {a b c d : Value} {Q : Value → Shared → Prop}
    (h : wpAny (model prog w) A.in1 (pyIter (.ref s.heap.objs.size)) (fun it s₂ => ∃ I fp wr n P St bt, it = .ref I ∧ Walks prog w A.in1 I fp wr n P St ∧ St 0 s₂.heap ∧ (∀ b ∈ fp, b < s₂.heap.objs.size) ∧ 0 < n ∧ CmpOf prog w A.in1 .Lt P bt ∧
      ∀ v h' tk, P (argBest bt (n - 1)) v → (∀ b o, b ∉ wr → s₂.heap.get? b = some o → h'.get? b = some o) → Q v { s₂ with heap := h', toks := tk }) E
      { s with heap := s.heap.push { cls := .type "tuple", data := .seq #[a, b, c, d] } }) :
    wpAny (model prog w) A (call (.builtin "min") [a, b, c, d]) Q E s := by
  have hname : (toString "min" ++ toString ".loop" : String) = "min.loop" := by decide
  refine call_function_tree F.kind_min F.plain_min F.entry_min (args_min4 _ _ _ _) ?_
  show wpAny _ A.in1 (Builtin.Builtins.bindParams "min" ["key", "default"] 0 ⟨[], []⟩ >>= _) _ _ s
  refine wpAny_bind (wpAny_of_eq (show Builtin.Builtins.bindParams "min" ["key", "default"] 0 ⟨[], []⟩ = pure [none, none] from rfl) ?_)
  show wpAny _ A.in1 (newTuple [a, b, c, d] >>= _) _ _ s
  refine wpAny_bind (wpAny_newObj_type ?_)
  refine wpAny_bind (wpAny_mono h (fun it s₂ h₂ => ?_) fun _ _ e => e)
  obtain ⟨I, fp, wr, n, P, St, bt, rfl, W, hst, hfp, hn, hcmp, hQ⟩ := h₂
  refine wpAny_bind (wpAny_newObj_type ?_)
  have hSf : s₂.heap.objs.size ∉ fp := fun hm => Nat.lt_irrefl _ (hfp _ hm)
  rw [hname]
  refine wpAny_pure ⟨plainId_quiet F.plain_min_loop _, codeAny_min_loop_first W bt hcmp s₂.heap.objs.size hSf hn (W.frame _ _ _ hst fun b _ o e => Heap.get?_push_of_some _ e) (Heap.get?_push_size _ rfl) fun v h' tk hP hk => ?_⟩
  exact hQ v h' tk hP fun b o hbw e => hk b o hbw (Nat.ne_of_lt (Heap.lt_size e)) (Heap.get?_push_of_some _ e)
/-- what is asked of a walk over the tuple of the arguments -/
theorem best_of {xs : Array (Int × Tok)} {Q : Value → Shared → Prop} {op : CmpOp} {bt : Nat → Nat → Bool} (hh : A.handled = none) (hne : 0 < xs.size)
    (hc : CmpOf prog w A.in1 op (fun i v => (intItems xs)[i]? = some v) bt)
    (h : ∀ v h' tk, (intItems xs)[argBest bt (xs.size - 1)]? = some v → (∀ d o, s.heap.get? d = some o → h'.get? d = some o) → Q v { s with heap := h', toks := tk }) :
    wpAny (model prog w) A.in1 (pyIter (.ref s.heap.objs.size)) (fun it s₂ => ∃ I fp wr n P St bt, it = .ref I ∧ Walks prog w A.in1 I fp wr n P St ∧ St 0 s₂.heap ∧ (∀ b ∈ fp, b < s₂.heap.objs.size) ∧ 0 < n ∧ CmpOf prog w A.in1 op P bt ∧
      ∀ v h' tk, P (argBest bt (n - 1)) v → (∀ b o, b ∉ wr → s₂.heap.get? b = some o → h'.get? b = some o) → Q v { s₂ with heap := h', toks := tk }) E
      { s with heap := s.heap.push { cls := .type "tuple", data := .seq (intItems xs) } } := by
  have hT : (s.heap.push { cls := .type "tuple", data := .seq (intItems xs) }).IsTuple s.heap.objs.size (intItems xs) := ⟨_, Heap.get?_push_size _ rfl, rfl, 0, rfl⟩
  refine wpAny_pyIter_tuple hT ?_
  have hsz : (s.heap.push { cls := .type "tuple", data := .seq (intItems xs) }).objs.size = s.heap.objs.size + 1 := Heap.size_push ..
  refine ⟨_, [_, s.heap.objs.size], [_], _, _, _, _, rfl, Walks.tuple (A := A.in1) hh _ s.heap.objs.size (by rw [hsz]; exact Nat.ne_of_lt (Nat.lt_succ_self _)) (intItems xs),
    ⟨⟨_, Heap.get?_push_size _ rfl, rfl, rfl⟩, hT.push _⟩, fun d hd => ?_, by simpa [intItems] using hne, hc, fun v h' tk hP hk => ?_⟩
  · show d < ((s.heap.push _).push _).objs.size
    rw [Heap.size_push, hsz]
    rcases List.mem_cons.mp hd with rfl | hd
    · rw [hsz]; exact Nat.lt_succ_self _
    · rcases List.mem_cons.mp hd with rfl | hd
      · exact Nat.lt_succ_of_lt (Nat.lt_succ_self _)
      · cases hd
  · have hold : ∀ d o, s.heap.get? d = some o → h'.get? d = some o := fun d o e => by
      refine hk d o (fun hm => ?_) (Heap.get?_push_of_some _ (Heap.get?_push_of_some _ e))
      rcases List.mem_cons.mp hm with e1 | hm
      · have := Heap.lt_size e; rw [e1, hsz] at this; exact Nat.lt_irrefl _ (Nat.lt_of_succ_lt this)
      · cases hm
    have := h v h' tk (by simpa [intItems] using hP) hold
    simpa using this
theorem max_four_ints {a b c d : Int} {t u x y : Tok} {Q : Value → Shared → Prop} (hh : A.handled = none)
    (h : ∀ h' tk z, (∀ d o, s.heap.get? d = some o → h'.get? d = some o) → Q (.int (max (max (max a b) c) d) z) { s with heap := h', toks := tk }) :
    wpAny (model prog w) A (call (.builtin "max") [.int a t, .int b u, .int c x, .int d y]) Q E s := by
  refine call_max_four ?_
  rw [show (#[Value.int a t, .int b u, .int c x, .int d y] : Array Value) = intItems #[(a, t), (b, u), (c, x), (d, y)] by simp [intItems]]
  refine best_of (xs := #[(a, t), (b, u), (c, x), (d, y)]) hh (by simp) (CmpOf.ints_gt (numAt #[(a, t), (b, u), (c, x), (d, y)]) (fun _ _ => intItems_at)) fun v h' tk hv hk => ?_
  obtain ⟨z, rfl⟩ := intItems_at hv
  obtain ⟨h1, h2⟩ := argBest_gt (numAt #[(a, t), (b, u), (c, x), (d, y)]) 3
  have hv' : argBest (fun i j => decide (numAt #[(a, t), (b, u), (c, x), (d, y)] i > numAt #[(a, t), (b, u), (c, x), (d, y)] j)) ((#[(a, t), (b, u), (c, x), (d, y)] : Array (Int × Tok)).size - 1) =
    argBest (fun i j => decide (numAt #[(a, t), (b, u), (c, x), (d, y)] i > numAt #[(a, t), (b, u), (c, x), (d, y)] j)) 3 := rfl
  rw [hv']
  generalize argBest (fun i j => decide (numAt #[(a, t), (b, u), (c, x), (d, y)] i > numAt #[(a, t), (b, u), (c, x), (d, y)] j)) 3 = k at *
  have e : numAt #[(a, t), (b, u), (c, x), (d, y)] k = max (max (max a b) c) d := by
    have g0 : a ≤ _ := h2 0 (by omega)
    have g1 : b ≤ _ := h2 1 (by omega)
    have g2 : c ≤ _ := h2 2 (by omega)
    have g3 : d ≤ _ := h2 3 (by omega)
    have g4 : numAt #[(a, t), (b, u), (c, x), (d, y)] k = a ∨ numAt #[(a, t), (b, u), (c, x), (d, y)] k = b ∨ numAt #[(a, t), (b, u), (c, x), (d, y)] k = c ∨ numAt #[(a, t), (b, u), (c, x), (d, y)] k = d := by
      have : k = 0 ∨ k = 1 ∨ k = 2 ∨ k = 3 := by omega
      rcases this with rfl | rfl | rfl | rfl
      · exact Or.inl rfl
      · exact Or.inr (Or.inl rfl)
      · exact Or.inr (Or.inr (Or.inl rfl))
      · exact Or.inr (Or.inr (Or.inr rfl))
    omega
  rw [e]
  exact h _ _ _ hk
theorem min_four_ints {a b c d : Int} {t u x y : Tok} {Q : Value → Shared → Prop} (hh : A.handled = none)
    (h : ∀ h' tk z, (∀ d o, s.heap.get? d = some o → h'.get? d = some o) → Q (.int (min (min (min a b) c) d) z) { s with heap := h', toks := tk }) :
    wpAny (model prog w) A (call (.builtin "min") [.int a t, .int b u, .int c x, .int d y]) Q E s := by
  refine call_min_four ?_
  rw [show (#[Value.int a t, .int b u, .int c x, .int d y] : Array Value) = intItems #[(a, t), (b, u), (c, x), (d, y)] by simp [intItems]]
  refine best_of (xs := #[(a, t), (b, u), (c, x), (d, y)]) hh (by simp) (CmpOf.ints_lt (numAt #[(a, t), (b, u), (c, x), (d, y)]) (fun _ _ => intItems_at)) fun v h' tk hv hk => ?_
  obtain ⟨z, rfl⟩ := intItems_at hv
  obtain ⟨h1, h2⟩ := argBest_lt (numAt #[(a, t), (b, u), (c, x), (d, y)]) 3
  have hv' : argBest (fun i j => decide (numAt #[(a, t), (b, u), (c, x), (d, y)] i < numAt #[(a, t), (b, u), (c, x), (d, y)] j)) ((#[(a, t), (b, u), (c, x), (d, y)] : Array (Int × Tok)).size - 1) =
    argBest (fun i j => decide (numAt #[(a, t), (b, u), (c, x), (d, y)] i < numAt #[(a, t), (b, u), (c, x), (d, y)] j)) 3 := rfl
  rw [hv']
  generalize argBest (fun i j => decide (numAt #[(a, t), (b, u), (c, x), (d, y)] i < numAt #[(a, t), (b, u), (c, x), (d, y)] j)) 3 = k at *
  have e : numAt #[(a, t), (b, u), (c, x), (d, y)] k = min (min (min a b) c) d := by
    have g0 : _ ≤ a := h2 0 (by omega)
    have g1 : _ ≤ b := h2 1 (by omega)
    have g2 : _ ≤ c := h2 2 (by omega)
    have g3 : _ ≤ d := h2 3 (by omega)
    have g4 : numAt #[(a, t), (b, u), (c, x), (d, y)] k = a ∨ numAt #[(a, t), (b, u), (c, x), (d, y)] k = b ∨ numAt #[(a, t), (b, u), (c, x), (d, y)] k = c ∨ numAt #[(a, t), (b, u), (c, x), (d, y)] k = d := by
      have : k = 0 ∨ k = 1 ∨ k = 2 ∨ k = 3 := by omega
      rcases this with rfl | rfl | rfl | rfl
      · exact Or.inl rfl
      · exact Or.inr (Or.inl rfl)
      · exact Or.inr (Or.inr (Or.inl rfl))
      · exact Or.inr (Or.inr (Or.inr rfl))
    omega
  rw [e]
  exact h _ _ _ hk
end
section
variable {X : L2.Cx}
theorem vals3 {x y z : L2.V} {us : List Value} (r : L2.Vals [x, y, z] us) : ∃ u v w, us = [u, v, w] ∧ L2.RelV x u ∧ L2.RelV y v ∧ L2.RelV z w := by
  cases r with
  | cons r1 r2 =>
    obtain ⟨u, v, rfl, r3, r4⟩ := L2.vals2 r2
    exact ⟨_, _, _, rfl, r1, r3, r4⟩
theorem vals4 {x y z a : L2.V} {us : List Value} (r : L2.Vals [x, y, z, a] us) : ∃ u v w b, us = [u, v, w, b] ∧ L2.RelV x u ∧ L2.RelV y v ∧ L2.RelV z w ∧ L2.RelV a b := by
  cases r with
  | cons r1 r2 =>
    obtain ⟨u, v, w, rfl, r3, r4, r5⟩ := vals3 r2
    exact ⟨_, _, _, _, rfl, r1, r3, r4, r5⟩
def rMax3 : List L2.V → L2.Hp → L2.VK → Prop := fun xs H Q => ∃ i j k, xs = [.int i, .int j, .int k] ∧ Q (.int (max (max i j) k)) H
def rMin3 : List L2.V → L2.Hp → L2.VK → Prop := fun xs H Q => ∃ i j k, xs = [.int i, .int j, .int k] ∧ Q (.int (min (min i j) k)) H
def rMax4 : List L2.V → L2.Hp → L2.VK → Prop := fun xs H Q => ∃ i j k l, xs = [.int i, .int j, .int k, .int l] ∧ Q (.int (max (max (max i j) k) l)) H
def rMin4 : List L2.V → L2.Hp → L2.VK → Prop := fun xs H Q => ∃ i j k l, xs = [.int i, .int j, .int k, .int l] ∧ Q (.int (min (min (min i j) k) l)) H
theorem call_max3 (hc : X.calm = true) : L2.CallR X (.builtin "max") rMax3 := by
  intro pins s σ H xs us Q I r h
  obtain ⟨i, j, k, rfl, q⟩ := h
  obtain ⟨u, v, w', rfl, ⟨t, rfl⟩, ⟨t', rfl⟩, ⟨t2, rfl⟩⟩ := vals3 r
  refine max_three_ints (I.ok.hd hc) fun h' tk kk => ⟨_, H, I.kept kk, ?_, q⟩
  by_cases h1 : j > i
  · by_cases h2 : k > j
    · rw [if_pos h1, if_pos h2]; exact ⟨_, by congr 1; omega⟩
    · rw [if_pos h1, if_neg h2]; exact ⟨_, by congr 1; omega⟩
  · by_cases h2 : k > i
    · rw [if_neg h1, if_pos h2]; exact ⟨_, by congr 1; omega⟩
    · rw [if_neg h1, if_neg h2]; exact ⟨_, by congr 1; omega⟩
theorem call_min3 (hc : X.calm = true) : L2.CallR X (.builtin "min") rMin3 := by
  intro pins s σ H xs us Q I r h
  obtain ⟨i, j, k, rfl, q⟩ := h
  obtain ⟨u, v, w', rfl, ⟨t, rfl⟩, ⟨t', rfl⟩, ⟨t2, rfl⟩⟩ := vals3 r
  refine min_three_ints (I.ok.hd hc) fun h' tk kk => ⟨_, H, I.kept kk, ?_, q⟩
  by_cases h1 : j < i
  · by_cases h2 : k < j
    · rw [if_pos h1, if_pos h2]; exact ⟨_, by congr 1; omega⟩
    · rw [if_pos h1, if_neg h2]; exact ⟨_, by congr 1; omega⟩
  · by_cases h2 : k < i
    · rw [if_neg h1, if_pos h2]; exact ⟨_, by congr 1; omega⟩
    · rw [if_neg h1, if_neg h2]; exact ⟨_, by congr 1; omega⟩
theorem call_max4 (hc : X.calm = true) : L2.CallR X (.builtin "max") rMax4 := by
  intro pins s σ H xs us Q I r h
  obtain ⟨i, j, k, l, rfl, q⟩ := h
  obtain ⟨u, v, w', b, rfl, ⟨t, rfl⟩, ⟨t', rfl⟩, ⟨t2, rfl⟩, ⟨t3, rfl⟩⟩ := vals4 r
  exact max_four_ints (I.ok.hd hc) fun h' tk z kk => ⟨.int _, H, I.kept kk, ⟨z, rfl⟩, q⟩
theorem call_min4 (hc : X.calm = true) : L2.CallR X (.builtin "min") rMin4 := by
  intro pins s σ H xs us Q I r h
  obtain ⟨i, j, k, l, rfl, q⟩ := h
  obtain ⟨u, v, w', b, rfl, ⟨t, rfl⟩, ⟨t', rfl⟩, ⟨t2, rfl⟩, ⟨t3, rfl⟩⟩ := vals4 r
  exact min_four_ints (I.ok.hd hc) fun h' tk z kk => ⟨.int _, H, I.kept kk, ⟨z, rfl⟩, q⟩
/-! a op1 b op2 c op3 d -/
def tChain3 (r r' r2 : L2.R2) (ta tb tc td : L2.TE) : L2.TE := fun σ H Q => ta σ H fun x H1 => tb σ H1 fun y H2 => r x y H2 fun z H3 => ∃ k, z = .bl k ∧
  (if k = true then tc σ H3 fun w' H4 => r' y w' H4 fun z2 H5 => ∃ k', z2 = .bl k' ∧ (if k' = true then td σ H5 fun w2 H6 => r2 w' w2 H6 Q else Q (.bl false) H5) else Q (.bl false) H3)
variable {a b c d : Expr} {pos : Pos} {ta tb tc td : L2.TE}
theorem pe_chain3 {op op' op2 : CmpOp} {r r' r2 : L2.R2} (ho : L2.OpR X (compareOp op) r) (ho' : L2.OpR X (compareOp op') r') (ho2 : L2.OpR X (compareOp op2) r2) (ha : L2.PE X a ta) (hb : L2.PE X b tb) (hc : L2.PE X c tc) (hd : L2.PE X d td)
    (hm : lastMarks [op, op', op2] [b, c, d] = false) : L2.PE X (.Compare a [op, op', op2] [b, c, d] pos) (tChain3 r r' r2 ta tb tc td) := by
  refine ⟨fun pins s σ H Q I h => ?_⟩
  refine Compare_chain (L2.thn (ha.run pins s σ H _ I h) fun v s1 ⟨x, H1, I1, r1, q1⟩ => chain_link (L2.thn (hb.run pins s1 σ H1 _ I1 q1) fun u s2 ⟨y, H2, I2, r2, q2⟩ =>
    L2.thn (ho pins s2 σ H2 x y v u _ I2 r1 r2 q2) fun d s3 ⟨z, H3, I3, r3, k, e, q3⟩ => ?_)) hm
  subst e
  cases r3
  refine wpAny_truthy_bool ?_
  cases k with
  | false => exact ite_ff ⟨.bl false, H3, I3, rfl, q3⟩
  | true =>
    refine ite_tt (chain_link (L2.thn (hc.run pins s3 σ H3 _ I3 q3) fun w' s4 ⟨z', H4, I4, r4, q4⟩ => L2.thn (ho' pins s4 σ H4 y z' u w' _ I4 r2 r4 q4) fun d' s5 ⟨z2, H5, I5, r5, k2, e2, q5⟩ => ?_))
    subst e2
    cases r5
    refine wpAny_truthy_bool ?_
    cases k2 with
    | false => exact ite_ff ⟨.bl false, H5, I5, rfl, q5⟩
    | true => exact ite_tt (chain_last (L2.thn (hd.run pins s5 σ H5 _ I5 q5) fun w2 s6 ⟨z3, H6, I6, r6, q6⟩ => ho2 pins s6 σ H6 z' z3 w' w2 Q I6 r4 r6 q6))
theorem pt_chain3 {op op' op2 : CmpOp} {r r' r2 : L2.R2} (ho : L2.OpR X (compareOp op) r) (ho' : L2.OpR X (compareOp op') r') (ho2 : L2.OpR X (compareOp op2) r2) (ha : L2.PE X a ta) (hb : L2.PE X b tb) (hc : L2.PE X c tc) (hd : L2.PE X d td)
    (hm : lastMarks [op, op', op2] [b, c, d] = false) : L2.PT X (.Compare a [op, op', op2] [b, c, d] pos) (L2.tTest (tChain3 r r' r2 ta tb tc td)) := by
  refine ⟨fun pins s σ H Q I h => ?_⟩
  refine isTrue_chain (L2.thn (ha.run pins s σ H _ I h) fun v s1 ⟨x, H1, I1, r1, q1⟩ => test_link (L2.thn (hb.run pins s1 σ H1 _ I1 q1) fun u s2 ⟨y, H2, I2, r2, q2⟩ =>
    L2.thn (ho pins s2 σ H2 x y v u _ I2 r1 r2 q2) fun d s3 ⟨z, H3, I3, r3, k, e, q3⟩ => ?_)) hm
  subst e
  cases r3
  refine wpAny_truthy_bool ?_
  cases k with
  | false =>
    obtain ⟨k', e', q'⟩ := q3
    cases e'
    exact ite_ff ⟨H3, I3, q'⟩
  | true =>
    refine ite_tt (test_link (L2.thn (hc.run pins s3 σ H3 _ I3 q3) fun w' s4 ⟨z', H4, I4, r4, q4⟩ => L2.thn (ho' pins s4 σ H4 y z' u w' _ I4 r2 r4 q4) fun d' s5 ⟨z2, H5, I5, r5, k2, e2, q5⟩ => ?_))
    subst e2
    cases r5
    refine wpAny_truthy_bool ?_
    cases k2 with
    | false =>
      obtain ⟨k', e', q'⟩ := q5
      cases e'
      exact ite_ff ⟨H5, I5, q'⟩
    | true =>
      refine ite_tt (test_last (L2.thn (hd.run pins s5 σ H5 _ I5 q5) fun w2 s6 ⟨z3, H6, I6, r6, q6⟩ => L2.thn (ho2 pins s6 σ H6 z' z3 w' w2 _ I6 r4 r6 q6) fun d2 s7 ⟨z4, H7, I7, r7, k3, e3, q7⟩ => ?_))
      subst e3
      cases r7
      exact wpAny_truthy_bool ⟨H7, I7, q7⟩
end
end Flx

end
section
set_option Elab.async false
set_option linter.all false
set_option maxRecDepth 100000
set_option autoImplicit false
/-! FlxRel: how pure data stands for values of the heap; what is kept; mono. -/
namespace Flx
open PySem PySem.Spec PyProof.Rows
abbrev K' := PySem.W.Frag

section
variable (K : K') (m : List Addr) (H : L2.Hp)
mutual
def RD : D → L2.V → Prop
  | .non, v => v = .non
  | .bl b, v => v = .bl b
  | .int i, v => v = .int i
  | .str s, v => v = .str s
  | .tup ds, v => ∃ a vs, v = .ref a ∧ L2.SqT K H a vs ∧ RDs ds vs
  | .ref n, v => ∃ a, v = .ref a ∧ m[n]? = some a
def RDs : List D → List L2.V → Prop
  | [], vs => vs = []
  | d :: ds, vs => ∃ v r, vs = v :: r ∧ RD d v ∧ RDs ds r
end
end
/-- a list that is read alone: known to the object, or one of the module's -/
def Fro (K : K') (H : L2.Hp) (a : Addr) (vs : List L2.V) : Prop :=
  (∃ o, H a = some (.frz o (.lst vs))) ∨
    ∃ (o : Obj) (its : Array Value) (n : Nat), K.lookup a = some o ∧ o.cls = .type "list" ∧ o.dict = none ∧ o.data = .seq its n ∧ its.size ≤ sizeLine ∧ L2.Vals vs its.toList
theorem Fro.sq {K : K'} {H : L2.Hp} {a : Addr} {vs : List L2.V} (h : Fro K H a vs) : L2.SqL K H a vs := by
  rcases h with ⟨o, h⟩ | h
  · exact .inl (.inr ⟨o, h⟩)
  · exact .inr h
section
variable (K : K') (m : List Addr) (H : L2.Hp)
/-- a cell stands at a -/
def RM (o : MO) (a : Addr) : Prop :=
  match o with
  | .lst ds => ∃ vs, H a = some (.lst vs) ∧ RDs K m H ds vs
  | .fro ds => ∃ vs, Fro K H a vs ∧ RDs K m H ds vs
end
/-- what may be written -/
def Wr (m : List Addr) (S : St) (a : Addr) : Prop := ∃ (n : Nat) (o : MO), m[n]? = some a ∧ S[n]? = some o ∧ o.mut = true
structure RS (K : K') (m : List Addr) (S : St) (H : L2.Hp) : Prop where
  len : m.length = S.length
  at' : ∀ (n : Nat) (o : MO) (a : Addr), S[n]? = some o → m[n]? = some a → RM K m H o a
  inj : ∀ (n n' : Nat) (o o' : MO) (a : Addr), S[n]? = some o → S[n']? = some o' → o.mut = true → o'.mut = true → m[n]? = some a → m[n']? = some a → n = n'
structure Xt (m : List Addr) (S : St) (H : L2.Hp) (m' : List Addr) (S' : St) (H' : L2.Hp) : Prop where
  pre : ∃ r, m' = m ++ r
  keep : ∀ a o, H a = some o → ¬ Wr m S a → H' a = some o
  new : ∀ a, Wr m' S' a → Wr m S a ∨ H a = none

theorem Xt.refl {m : List Addr} {S : St} {H : L2.Hp} : Xt m S H m S H := ⟨⟨[], by simp⟩, fun _ _ h _ => h, fun _ h => .inl h⟩
theorem Xt.trans {m m1 m2 : List Addr} {S S1 S2 : St} {H H1 H2 : L2.Hp} (x : Xt m S H m1 S1 H1) (y : Xt m1 S1 H1 m2 S2 H2) : Xt m S H m2 S2 H2 := by
  obtain ⟨r1, rfl⟩ := x.pre
  obtain ⟨r2, rfl⟩ := y.pre
  have free : ∀ a, H1 a = none → ¬ Wr m S a → H a = none := fun a h n => by
    cases e : H a with
    | none => rfl
    | some o => rw [x.keep a o e n] at h; cases h
  refine ⟨⟨r1 ++ r2, by simp⟩, fun a o h n => ?_, fun a h => ?_⟩
  · refine y.keep a o (x.keep a o h n) fun w => ?_
    rcases x.new a w with w | w
    · exact n w
    · rw [w] at h; cases h
  · by_cases n : Wr m S a
    · exact .inl n
    · rcases y.new a h with w | w
      · exact x.new a w
      · exact .inr (free a w n)
theorem Xt.get {m m' : List Addr} {S S' : St} {H H' : L2.Hp} (x : Xt m S H m' S' H') {n : Nat} {a : Addr} (h : m[n]? = some a) : m'[n]? = some a := by
  obtain ⟨r, rfl⟩ := x.pre
  rw [List.getElem?_append_left (by exact (List.getElem?_eq_some_iff.mp h).1)]
  exact h
/-- a writable cell stands as a list -/
theorem RS.wr {K : K'} {m : List Addr} {S : St} {H : L2.Hp} (r : RS K m S H) {a : Addr} (w : Wr m S a) : ∃ vs, H a = some (.lst vs) := by
  obtain ⟨n, o, h1, h2, h3⟩ := w
  have q := r.at' n o a h2 h1
  cases o with
  | lst ds => obtain ⟨vs, e, _⟩ := q; exact ⟨vs, e⟩
  | fro ds => cases h3
theorem sqT_keep {K : K'} {m m' : List Addr} {S S' : St} {H H' : L2.Hp} (r : RS K m S H) (x : Xt m S H m' S' H') {a : Addr} {vs : List L2.V} (h : L2.SqT K H a vs) : L2.SqT K H' a vs := by
  rcases h with (h | ⟨o, h⟩) | h
  · refine .inl (.inl (x.keep a _ h fun w => ?_))
    obtain ⟨us, e⟩ := r.wr w
    rw [h] at e; cases e
  · refine .inl (.inr ⟨o, x.keep a _ h fun w => ?_⟩)
    obtain ⟨us, e⟩ := r.wr w
    rw [h] at e; cases e
  · exact .inr h
mutual
theorem RD.keep {K : K'} {m m' : List Addr} {S S' : St} {H H' : L2.Hp} (r : RS K m S H) (x : Xt m S H m' S' H') : ∀ {d : D} {v : L2.V}, RD K m H d v → RD K m' H' d v
  | .non, _, h => h
  | .bl _, _, h => h
  | .int _, _, h => h
  | .str _, _, h => h
  | .tup ds, v, h => by
    obtain ⟨a, vs, e, h1, h2⟩ := h
    exact ⟨a, vs, e, sqT_keep r x h1, RDs.keep r x h2⟩
  | .ref n, v, h => by
    obtain ⟨a, e, h1⟩ := h
    exact ⟨a, e, x.get h1⟩
theorem RDs.keep {K : K'} {m m' : List Addr} {S S' : St} {H H' : L2.Hp} (r : RS K m S H) (x : Xt m S H m' S' H') : ∀ {ds : List D} {vs : List L2.V}, RDs K m H ds vs → RDs K m' H' ds vs
  | [], _, h => h
  | d :: ds, vs, h => by
    obtain ⟨v, rr, e, h1, h2⟩ := h
    exact ⟨v, rr, e, RD.keep r x h1, RDs.keep r x h2⟩
end
theorem RDs.length {K : K'} {m : List Addr} {H : L2.Hp} : ∀ {ds : List D} {vs : List L2.V}, RDs K m H ds vs → ds.length = vs.length
  | [], _, h => by
    have e : _ = [] := h
    rw [e]; rfl
  | d :: ds, vs, h => by
    obtain ⟨v, rr, e, _, h2⟩ := h
    rw [e, List.length_cons, List.length_cons, RDs.length h2]
theorem RDs.get {K : K'} {m : List Addr} {H : L2.Hp} : ∀ {ds : List D} {vs : List L2.V} {i : Nat} {d : D}, RDs K m H ds vs → ds[i]? = some d → ∃ v, vs[i]? = some v ∧ RD K m H d v
  | [], _, _, _, _, e => by simp at e
  | d :: ds, vs, 0, d', h, e => by
    obtain ⟨v, rr, rfl, h1, _⟩ := h
    have e' : d = d' := by simpa using e
    subst e'
    exact ⟨v, rfl, h1⟩
  | d :: ds, vs, i + 1, d', h, e => by
    obtain ⟨v, rr, rfl, _, h2⟩ := h
    obtain ⟨w, e1, e2⟩ := RDs.get (i := i) h2 (by simpa using e)
    exact ⟨w, by simpa using e1, e2⟩
theorem RDs.get' {K : K'} {m : List Addr} {H : L2.Hp} {ds : List D} {vs : List L2.V} {i : Nat} {v : L2.V} (h : RDs K m H ds vs) (e : vs[i]? = some v) : ∃ d, ds[i]? = some d ∧ RD K m H d v := by
  have hl := h.length
  have hi : i < vs.length := (List.getElem?_eq_some_iff.mp e).1
  have e1 : ds[i]? = some ds[i] := List.getElem?_eq_getElem (by omega)
  obtain ⟨w, e2, r⟩ := h.get e1
  rw [e] at e2; cases e2
  exact ⟨_, e1, r⟩
theorem RDs.append {K : K'} {m : List Addr} {H : L2.Hp} : ∀ {ds es : List D} {vs ws : List L2.V}, RDs K m H ds vs → RDs K m H es ws → RDs K m H (ds ++ es) (vs ++ ws)
  | [], _, _, _, h, h' => by
    have e : _ = [] := h
    rw [e]
    exact h'
  | d :: ds, es, vs, ws, h, h' => by
    obtain ⟨v, rr, rfl, h1, h2⟩ := h
    exact ⟨v, rr ++ ws, rfl, h1, RDs.append h2 h'⟩
theorem RDs.set {K : K'} {m : List Addr} {H : L2.Hp} {d : D} {v : L2.V} (hd : RD K m H d v) : ∀ {ds : List D} {vs : List L2.V} (i : Nat), RDs K m H ds vs → RDs K m H (ds.set i d) (vs.set i v)
  | [], vs, i, h => by
    have e : vs = [] := h
    rw [e]
    exact rfl
  | d' :: ds, vs, 0, h => by
    obtain ⟨w, rr, rfl, _, h2⟩ := h
    exact ⟨v, rr, rfl, hd, h2⟩
  | d' :: ds, vs, i + 1, h => by
    obtain ⟨w, rr, rfl, h1, h2⟩ := h
    exact ⟨w, rr.set i v, rfl, h1, RDs.set hd i h2⟩
theorem RDs.take {K : K'} {m : List Addr} {H : L2.Hp} : ∀ {ds : List D} {vs : List L2.V} (i : Nat), RDs K m H ds vs → RDs K m H (ds.take i) (vs.take i)
  | _, _, 0, _ => rfl
  | [], vs, i + 1, h => by
    have e : vs = [] := h
    rw [e]
    exact rfl
  | d :: ds, vs, i + 1, h => by
    obtain ⟨w, rr, rfl, h1, h2⟩ := h
    exact ⟨w, rr.take i, rfl, h1, RDs.take i h2⟩
theorem RDs.drop {K : K'} {m : List Addr} {H : L2.Hp} : ∀ {ds : List D} {vs : List L2.V} (i : Nat), RDs K m H ds vs → RDs K m H (ds.drop i) (vs.drop i)
  | _, _, 0, h => h
  | [], vs, i + 1, h => by
    have e : vs = [] := h
    rw [e]
    exact rfl
  | d :: ds, vs, i + 1, h => by
    obtain ⟨w, rr, rfl, h1, h2⟩ := h
    exact RDs.drop i h2
theorem RDs.erase {K : K'} {m : List Addr} {H : L2.Hp} : ∀ {ds : List D} {vs : List L2.V} (i : Nat), RDs K m H ds vs → RDs K m H (ds.eraseIdx i) (vs.eraseIdx i)
  | [], vs, i, h => by
    have e : vs = [] := h
    rw [e]
    exact rfl
  | d :: ds, vs, 0, h => by
    obtain ⟨w, rr, rfl, h1, h2⟩ := h
    exact h2
  | d :: ds, vs, i + 1, h => by
    obtain ⟨w, rr, rfl, h1, h2⟩ := h
    exact ⟨w, rr.eraseIdx i, rfl, h1, RDs.erase i h2⟩
theorem RDs.rep {K : K'} {m : List Addr} {H : L2.Hp} {ds : List D} {vs : List L2.V} (h : RDs K m H ds vs) : ∀ k : Nat, RDs K m H (List.replicate k ds).flatten (List.replicate k vs).flatten
  | 0 => rfl
  | k + 1 => by
    rw [List.replicate_succ, List.replicate_succ, List.flatten_cons, List.flatten_cons]
    exact h.append (RDs.rep h k)
theorem RDs.reverse {K : K'} {m : List Addr} {H : L2.Hp} : ∀ {ds : List D} {vs : List L2.V}, RDs K m H ds vs → RDs K m H ds.reverse vs.reverse
  | [], vs, h => by
    have e : vs = [] := h
    rw [e]
    exact rfl
  | d :: ds, vs, h => by
    obtain ⟨w, rr, rfl, h1, h2⟩ := h
    rw [List.reverse_cons, List.reverse_cons]
    exact (RDs.reverse h2).append ⟨w, [], rfl, h1, rfl⟩
theorem RDs.map_int {K : K'} {m : List Addr} {H : L2.Hp} : ∀ (ns : List Int), RDs K m H (ns.map D.int) (ns.map L2.V.int)
  | [] => rfl
  | n :: ns => ⟨.int n, _, rfl, rfl, RDs.map_int ns⟩
theorem RDs.cut {K : K'} {m : List Addr} {H : L2.Hp} {ds : List D} {vs : List L2.V} (h : RDs K m H ds vs) (lo hi : Option Int) : RDs K m H (cutD ds lo hi) (L2.cutV vs lo hi) := by
  unfold cutD L2.cutV
  rw [h.length]
  exact (h.drop _).take _
theorem RDs.ints {K : K'} {m : List Addr} {H : L2.Hp} : ∀ {ds : List D} {vs : List L2.V} {ns : List Int}, RDs K m H ds vs → intsOf ds = some ns → vs = ns.map L2.V.int
  | [], vs, ns, h, e => by
    have e1 : vs = [] := h
    have e2 : ns = [] := by simpa [intsOf] using e.symm
    rw [e1, e2]; rfl
  | .int i :: ds, vs, ns, h, e => by
    obtain ⟨w, rr, rfl, h1, h2⟩ := h
    cases q : intsOf ds with
    | none => simp [intsOf, q] at e
    | some js =>
      have e2 : i :: js = ns := by simpa [intsOf, q] using e
      have h1' : w = .int i := h1
      rw [h1', ← e2, RDs.ints h2 q]; rfl
  | .non :: _, _, _, _, e => by simp [intsOf] at e
  | .bl _ :: _, _, _, _, e => by simp [intsOf] at e
  | .str _ :: _, _, _, _, e => by simp [intsOf] at e
  | .tup _ :: _, _, _, _, e => by simp [intsOf] at e
  | .ref _ :: _, _, _, _, e => by simp [intsOf] at e
theorem RDs.bls {K : K'} {m : List Addr} {H : L2.Hp} : ∀ {ds : List D} {vs : List L2.V} {ns : List Bool}, RDs K m H ds vs → blsOf ds = some ns → vs = ns.map L2.V.bl
  | [], vs, ns, h, e => by
    have e1 : vs = [] := h
    have e2 : ns = [] := by simpa [blsOf] using e.symm
    rw [e1, e2]; rfl
  | .bl i :: ds, vs, ns, h, e => by
    obtain ⟨w, rr, rfl, h1, h2⟩ := h
    cases q : blsOf ds with
    | none => simp [blsOf, q] at e
    | some js =>
      have e2 : i :: js = ns := by simpa [blsOf, q] using e
      have h1' : w = .bl i := h1
      rw [h1', ← e2, RDs.bls h2 q]; rfl
  | .non :: _, _, _, _, e => by simp [blsOf] at e
  | .int _ :: _, _, _, _, e => by simp [blsOf] at e
  | .str _ :: _, _, _, _, e => by simp [blsOf] at e
  | .tup _ :: _, _, _, _, e => by simp [blsOf] at e
  | .ref _ :: _, _, _, _, e => by simp [blsOf] at e

/-! ### the store's moves -/
section
variable {K : K'} {m : List Addr} {S : St} {H : L2.Hp}
/-- a new list at a free place -/
theorem laid_new {p : Addr} {vs : List L2.V} {ds : List D} (r : RS K m S H) (hp : H p = none) (hv : RDs K m H ds vs) :
    Xt m S H (m ++ [p]) (S ++ [.lst ds]) (L2.upd H p (.lst vs)) ∧ RS K (m ++ [p]) (S ++ [.lst ds]) (L2.upd H p (.lst vs)) ∧ RD K (m ++ [p]) (L2.upd H p (.lst vs)) (.ref S.length) (.ref p) := by
  have wnew : ∀ a, Wr (m ++ [p]) (S ++ [.lst ds]) a → Wr m S a ∨ a = p := fun a ⟨n, o, h1, h2, h3⟩ => by
    by_cases hn : n < m.length
    · rw [List.getElem?_append_left hn] at h1
      rw [List.getElem?_append_left (by rw [← r.len]; exact hn)] at h2
      exact .inl ⟨n, o, h1, h2, h3⟩
    · rw [List.getElem?_append_right (by omega)] at h1
      by_cases h0 : n - m.length = 0
      · rw [h0] at h1
        exact .inr (by simpa using h1.symm)
      · rw [List.getElem?_eq_none (by simp; omega)] at h1
        cases h1
  have xt : Xt m S H (m ++ [p]) (S ++ [.lst ds]) (L2.upd H p (.lst vs)) := by
    refine ⟨⟨[p], rfl⟩, fun a o h _ => ?_, fun a h => ?_⟩
    · rw [L2.upd_ne (L2.ne_of_none h hp)]
      exact h
    · rcases wnew a h with w | rfl
      · exact .inl w
      · exact .inr hp
  have last : (m ++ [p])[S.length]? = some p := by
    rw [← r.len, List.getElem?_append_right (Nat.le_refl _), Nat.sub_self]
    rfl
  refine ⟨xt, ⟨by simp [r.len], fun n o a h1 h2 => ?_, fun n n' o o' a h1 h2 h3 h4 h5 h6 => ?_⟩, ⟨p, rfl, last⟩⟩
  · by_cases hn : n < S.length
    · rw [List.getElem?_append_left hn] at h1
      rw [List.getElem?_append_left (by rw [r.len]; exact hn)] at h2
      have q := r.at' n o a h1 h2
      cases o with
      | lst es =>
        obtain ⟨us, e, q⟩ := q
        exact ⟨us, by rw [L2.upd_ne (L2.ne_of_none e hp)]; exact e, q.keep r xt⟩
      | fro es =>
        obtain ⟨us, e, q⟩ := q
        refine ⟨us, ?_, q.keep r xt⟩
        rcases e with ⟨o, e⟩ | e
        · exact .inl ⟨o, by rw [L2.upd_ne (L2.ne_of_none e hp)]; exact e⟩
        · exact .inr e
    · rw [List.getElem?_append_right (by omega)] at h1
      by_cases h0 : n - S.length = 0
      · have hn' : n = S.length := by omega
        subst hn'
        rw [last] at h2
        cases h2
        rw [h0] at h1
        have e : o = .lst ds := by simpa using h1.symm
        subst e
        exact ⟨vs, L2.upd_same, hv.keep r xt⟩
      · rw [List.getElem?_eq_none (by simp; omega)] at h1
        cases h1
  · have cls : ∀ {n : Nat} {o : MO} {a : Addr}, (S ++ [MO.lst ds])[n]? = some o → (m ++ [p])[n]? = some a → (n < S.length ∧ S[n]? = some o ∧ m[n]? = some a) ∨ (n = S.length ∧ a = p) := fun {n o a} h1 h2 => by
      by_cases hn : n < S.length
      · rw [List.getElem?_append_left hn] at h1
        rw [List.getElem?_append_left (by rw [r.len]; exact hn)] at h2
        exact .inl ⟨hn, h1, h2⟩
      · have hl : n < (S ++ [MO.lst ds]).length := (List.getElem?_eq_some_iff.mp h1).1
        have hn' : n = S.length := by simp at hl; omega
        subst hn'
        rw [last] at h2
        cases h2
        exact .inr ⟨rfl, rfl⟩
    have apart : ∀ {n : Nat} {o : MO} {a : Addr}, S[n]? = some o → o.mut = true → m[n]? = some a → a ≠ p := fun {n o a} h1 h3 h2 => by
      obtain ⟨us, e⟩ := r.wr ⟨n, o, h2, h1, h3⟩
      exact L2.ne_of_none e hp
    rcases cls h1 h5 with ⟨_, q1, q2⟩ | ⟨q1, q2⟩
    · rcases cls h2 h6 with ⟨_, q3, q4⟩ | ⟨q3, q4⟩
      · exact r.inj n n' o o' a q1 q3 h3 h4 q2 q4
      · exact absurd q4 (apart q1 h3 q2)
    · rcases cls h2 h6 with ⟨_, q3, q4⟩ | ⟨q3, q4⟩
      · exact absurd q2 (apart q3 h4 q4)
      · rw [q1, q3]
/-- a new tuple -/
theorem laid_tup {p : Addr} {vs : List L2.V} {ds : List D} (r : RS K m S H) (hp : H p = none) (hv : RDs K m H ds vs) :
    Xt m S H m S (L2.upd H p (.tup vs)) ∧ RS K m S (L2.upd H p (.tup vs)) ∧ RD K m (L2.upd H p (.tup vs)) (.tup ds) (.ref p) := by
  have xt : Xt m S H m S (L2.upd H p (.tup vs)) := ⟨⟨[], by simp⟩, fun a o h _ => by rw [L2.upd_ne (L2.ne_of_none h hp)]; exact h, fun _ h => .inl h⟩
  refine ⟨xt, ⟨r.len, fun n o a h1 h2 => ?_, r.inj⟩, ⟨p, vs, rfl, .inl (.inl L2.upd_same), hv.keep r xt⟩⟩
  have q := r.at' n o a h1 h2
  cases o with
  | lst es =>
    obtain ⟨us, e, q⟩ := q
    exact ⟨us, by rw [L2.upd_ne (L2.ne_of_none e hp)]; exact e, q.keep r xt⟩
  | fro es =>
    obtain ⟨us, e, q⟩ := q
    refine ⟨us, ?_, q.keep r xt⟩
    rcases e with ⟨o, e⟩ | e
    · exact .inl ⟨o, by rw [L2.upd_ne (L2.ne_of_none e hp)]; exact e⟩
    · exact .inr e
/-- any other thing at a free place (an iterator's tuple, a comprehension's list) -/
theorem laid_any {p : Addr} {o : L2.HO} (r : RS K m S H) (hp : H p = none) : Xt m S H m S (L2.upd H p o) ∧ RS K m S (L2.upd H p o) := by
  have xt : Xt m S H m S (L2.upd H p o) := ⟨⟨[], by simp⟩, fun a o h _ => by rw [L2.upd_ne (L2.ne_of_none h hp)]; exact h, fun _ h => .inl h⟩
  refine ⟨xt, ⟨r.len, fun n o a h1 h2 => ?_, r.inj⟩⟩
  have q := r.at' n o a h1 h2
  cases o with
  | lst es =>
    obtain ⟨us, e, q⟩ := q
    exact ⟨us, by rw [L2.upd_ne (L2.ne_of_none e hp)]; exact e, q.keep r xt⟩
  | fro es =>
    obtain ⟨us, e, q⟩ := q
    refine ⟨us, ?_, q.keep r xt⟩
    rcases e with ⟨o, e⟩ | e
    · exact .inl ⟨o, by rw [L2.upd_ne (L2.ne_of_none e hp)]; exact e⟩
    · exact .inr e
/-- a list is changed -/
theorem wrote {n : Nat} {a : Addr} {ds es : List D} {us : List L2.V} (r : RS K m S H) (hn : S[n]? = some (.lst ds)) (ha : m[n]? = some a) (hu : RDs K m H es us) :
    Xt m S H m (S.set n (.lst es)) (L2.upd H a (.lst us)) ∧ RS K m (S.set n (.lst es)) (L2.upd H a (.lst us)) := by
  have hlt : n < S.length := (List.getElem?_eq_some_iff.mp hn).1
  have wa : Wr m S a := ⟨n, _, ha, hn, rfl⟩
  have weq : ∀ b, Wr m (S.set n (.lst es)) b → Wr m S b := fun b ⟨k, o, h1, h2, h3⟩ => by
    by_cases hk : k = n
    · subst hk
      rw [ha] at h1; cases h1
      exact wa
    · rw [List.getElem?_set_ne (Ne.symm hk)] at h2
      exact ⟨k, o, h1, h2, h3⟩
  have xt : Xt m S H m (S.set n (.lst es)) (L2.upd H a (.lst us)) := by
    refine ⟨⟨[], by simp⟩, fun b o h nw => ?_, fun b h => .inl (weq b h)⟩
    have hb : b ≠ a := fun e => nw (e ▸ wa)
    rw [L2.upd_ne hb]
    exact h
  refine ⟨xt, ⟨by simp [r.len], fun k o b h1 h2 => ?_, fun k k' o o' b h1 h2 h3 h4 h5 h6 => ?_⟩⟩
  · by_cases hk : k = n
    · subst hk
      rw [List.getElem?_set_self hlt] at h1
      cases h1
      rw [ha] at h2; cases h2
      exact ⟨us, L2.upd_same, hu.keep r xt⟩
    · rw [List.getElem?_set_ne (Ne.symm hk)] at h1
      have q := r.at' k o b h1 h2
      cases o with
      | lst fs =>
        obtain ⟨vs, e, q⟩ := q
        have hb : b ≠ a := fun z => hk (r.inj k n _ _ a h1 hn rfl rfl (z ▸ h2) ha)
        exact ⟨vs, by rw [L2.upd_ne hb]; exact e, q.keep r xt⟩
      | fro fs =>
        obtain ⟨vs, e, q⟩ := q
        refine ⟨vs, ?_, q.keep r xt⟩
        obtain ⟨ws, e0⟩ := r.wr wa
        rcases e with ⟨o, e⟩ | e
        · have hb : b ≠ a := fun z => by rw [z, e0] at e; cases e
          exact .inl ⟨o, by rw [L2.upd_ne hb]; exact e⟩
        · exact .inr e
  · have cls : ∀ {k : Nat} {o : MO}, (S.set n (.lst es))[k]? = some o → o.mut = true → ∃ o', S[k]? = some o' ∧ o'.mut = true := fun {k o} h hm => by
      by_cases hk : k = n
      · subst hk; exact ⟨_, hn, rfl⟩
      · rw [List.getElem?_set_ne (Ne.symm hk)] at h
        exact ⟨o, h, hm⟩
    obtain ⟨p1, e1, m1⟩ := cls h1 h3
    obtain ⟨p2, e2, m2⟩ := cls h2 h4
    exact r.inj k k' p1 p2 b e1 e2 m1 m2 h5 h6
end
end Flx

end
section
set_option Elab.async false
set_option linter.all false
set_option maxRecDepth 100000
set_option maxHeartbeats 4000000
/-! FlxTMul: tuple * int, at any int. -/
namespace Flx
open PySem PySem.Spec PyProof.Rows L2
theorem tuple_mulS (l : Addr) (items : Array Value) (n : Nat) (dd : Option Addr) (sl : Array (Option Value)) (x : Int) (u : Tok) (c0 : (decide (x < -(2 ^ 63)) || decide (x ≥ 2 ^ 63)) = false) (c1 : (items.isEmpty || x == 1) = true) :
    Meets (Builtin.«tuple.__mul__» ⟨[.ref l, .int x u], []⟩) (fun _ R s => s.heap.get? l = some { cls := .type "tuple", dict := dd, data := .seq items n, slots := sl } ∧ R (.ok (.ret (Value.ref l))) s) :=
  .of_wp fun prog w A R s h => by
    obtain ⟨hp, g, d, tk, os⟩ := s
    obtain ⟨hl, h⟩ := h
    have f1 := AutoSeq1.idx_int
    wp_walk using wpAny_loadPart' hl
    repeat (first
      | (refine wpAny_ite_false (decide_eq_false (by rw [c0]; exact Bool.false_ne_true)) ?_; wp_walk using wpAny_loadPart' hl)
      | (refine wpAny_ite_true (decide_eq_true c1) ?_; wp_walk using wpAny_loadPart' hl))
    exact ⟨_, rfl, h⟩
theorem tuple_mulE (l : Addr) (items : Array Value) (n : Nat) (dd : Option Addr) (sl : Array (Option Value)) (x : Int) (u : Tok) (c0 : (decide (x < -(2 ^ 63)) || decide (x ≥ 2 ^ 63)) = false) (c1 : (items.isEmpty || x == 1) = false) (c2 : (decide (x ≤ 0) || items.isEmpty) = true) :
    Meets (Builtin.«tuple.__mul__» ⟨[.ref l, .int x u], []⟩) (fun _ R s => s.heap.get? l = some { cls := .type "tuple", dict := dd, data := .seq items n, slots := sl } ∧
      R (.ok (.ret (Value.ref s.heap.objs.size))) { s with heap := s.heap.push { cls := Value.type "tuple", data := Data.seq #[] }, toks := s.toks }) :=
  .of_wp fun prog w A R s h => by
    obtain ⟨hp, g, d, tk, os⟩ := s
    obtain ⟨hl, h⟩ := h
    have f1 := AutoSeq1.idx_int
    wp_walk using wpAny_loadPart' hl
    repeat (first
      | (refine wpAny_ite_false (decide_eq_false (by rw [c0]; exact Bool.false_ne_true)) ?_; wp_walk using wpAny_loadPart' hl)
      | (refine wpAny_ite_false (decide_eq_false (by rw [c1]; exact Bool.false_ne_true)) ?_; wp_walk using wpAny_loadPart' hl)
      | (refine wpAny_ite_true (decide_eq_true c2) ?_; wp_walk using wpAny_loadPart' hl))
    exact ⟨_, rfl, h⟩
def rRepA (K : PySem.W.Frag) : R2 := fun x y H Q => ∃ l k xs, x = .ref l ∧ y = .int k ∧ SqT K H l xs ∧ k ≤ 1000 ∧ -(2 ^ 63) ≤ k ∧ xs.length ≤ 1000 ∧
  (xs = [] ∨ k = 1 → Q (.ref l) H) ∧ (¬ (xs = [] ∨ k = 1) → ∀ p, H p = none → Q (.ref p) (upd H p (.tup (List.replicate k.toNat xs).flatten)))
theorem op_repA {X : Cx} : OpR X (binaryOp .Mult) (rRepA X.K) := by
  intro pins s σ H x y v u Q I rx ry h
  obtain ⟨l, k, xs, rfl, rfl, hT, h2, h3, hz, q1, q2⟩ := h
  have c0 : (decide (k < -(2 ^ 63)) || decide (k ≥ 2 ^ 63)) = false := by
    rw [decide_eq_false (by omega), decide_eq_false (by omega)] <;> rfl
  by_cases hs : xs = [] ∨ k = 1
  · have q := q1 hs
    cases rx
    obtain ⟨t, rfl⟩ := ry
    obtain ⟨its, r, ⟨⟨cls, dd, data, sl⟩, ho, hc, n, hd⟩, hs'⟩ := I.tuple hT
    simp only at hc hd
    subst hc hd
    have hle : its.length = xs.length := r.length.symm
    have c1 : (its.toArray.isEmpty || k == 1) = true := by
      rcases hs with e | e
      · subst e
        cases its with
        | nil => rfl
        | cons a b => cases hle
      · subst e; simp
    refine wpAny_binaryOp_repeat_ref (T := "tuple") (U := "int") (by decide) ⟨_, ho, rfl⟩ (fun s' => typeIs_int s' k t) noFill_tuple_mul F.fills_int_mul F.slot_int_rmul repeat_tuple F.slot_int_index.lookup
      (call_meets F.slot_int_rmul (typeIs_int s k t) F.entry_int_rmul (F.args_int_rmul_2 _ _) (int_rmul_tuple k t l its.toArray n dd sl)
        ⟨ho, rfl, ⟨_, ho, rfl⟩, call_meets F.slot_tuple_mul ⟨_, ho, rfl⟩ F.entry_tuple_mul (F.args_tuple_mul_2 _ _) (tuple_mulS l its.toArray n dd sl k t c0 c1) ⟨ho, ?_⟩⟩)
    exact ⟨.ref l, H, I, rfl, q⟩
  · have q := q2 hs
    have hne : xs ≠ [] := fun e => hs (.inl e)
    have hk1 : k ≠ 1 := fun e => hs (.inr e)
    by_cases hk : 2 ≤ k
    · exact op_repT pins s σ H _ _ v u Q I rx ry ⟨l, k, xs, rfl, rfl, hT, hne, hk, h2, hz, q⟩
    · cases rx
      obtain ⟨t, rfl⟩ := ry
      obtain ⟨its, r, ⟨⟨cls, dd, data, sl⟩, ho, hc, n, hd⟩, hs'⟩ := I.tuple hT
      simp only at hc hd
      subst hc hd
      have hle : its.length = xs.length := r.length.symm
      have hi : its.toArray.isEmpty = false := by
        cases its with
        | nil => exact absurd (List.eq_nil_of_length_eq_zero hle.symm) hne
        | cons a b => rfl
      have c1 : (its.toArray.isEmpty || k == 1) = false := by
        rw [hi, Bool.false_or]; exact beq_eq_false_iff_ne.mpr hk1
      have c2 : (decide (k ≤ 0) || its.toArray.isEmpty) = true := by
        rw [decide_eq_true (by omega)]; rfl
      refine wpAny_binaryOp_repeat_ref (T := "tuple") (U := "int") (by decide) ⟨_, ho, rfl⟩ (fun s' => typeIs_int s' k t) noFill_tuple_mul F.fills_int_mul F.slot_int_rmul repeat_tuple F.slot_int_index.lookup
        (call_meets F.slot_int_rmul (typeIs_int s k t) F.entry_int_rmul (F.args_int_rmul_2 _ _) (int_rmul_tuple k t l its.toArray n dd sl)
          ⟨ho, rfl, ⟨_, ho, rfl⟩, call_meets F.slot_tuple_mul ⟨_, ho, rfl⟩ F.entry_tuple_mul (F.args_tuple_mul_2 _ _) (tuple_mulE l its.toArray n dd sl k t c0 c1 c2) ⟨ho, ?_⟩⟩)
      have e0 : (List.replicate k.toNat xs).flatten = [] := by rw [show k.toNat = 0 by omega]; rfl
      rw [e0] at q
      refine ⟨.ref s.heap.objs.size, _, I.laid (t' := s.toks) (o := .tup []) (fun b ob q => Heap.get?_push_of_some _ q) (Nat.le_refl _) ?_, rfl, q _ (I.hok.fresh (Nat.le_refl _))⟩
      exact ⟨by decide, _, .nil, IsTup.new _ _⟩
end Flx

end
section
set_option Elab.async false
set_option linter.all false
set_option maxRecDepth 100000
set_option autoImplicit false
/-! FlxSrt: sorted of data, any length. -/
namespace Flx
open PySem PySem.Spec PyProof.Rows L2
def rSortedD (K : PySem.W.Frag) : List V → Hp → VK → Prop := fun vs H Q => ∃ (a : Addr) (xs : List V) (ps : List PyData), vs = [V.ref a] ∧ SqL K H a xs ∧ DpAll K H xs ps ∧ PySem.W.AllAlike ps ∧ PySem.W.Sortable ps ∧ (∀ p ∈ ps, p.depth ≤ 60) ∧
  ∀ p, H p = none → Q (.ref p) (upd H p (.lst (((xs.zip ps).mergeSort (PySem.W.dataLe false Prod.snd)).map Prod.fst)))
theorem dpAll_len {K : PySem.W.Frag} {H : Hp} : ∀ {xs : List V} {ps : List PyData}, DpAll K H xs ps → xs.length = ps.length
  | [], _, h => by cases h; rfl
  | _ :: _, _, h => by
    cases h with
    | cons _ t => rw [List.length_cons, List.length_cons, dpAll_len t]
theorem each_zip {X : Cx} {pins : List (Addr × Obj)} {σ : L2.St} {H : Hp} {s : Shared} (I : Inv X pins σ H s) : ∀ {xs : List V} {us : List Value} {ps : List PyData}, Vals xs us → DpAll X.K H xs ps →
    PySem.W.EachIs (fun (v : Value) (b : V × PyData) => RelV b.1 v) us (xs.zip ps) ∧ PySem.W.EachIs (fun (v : Value) (b : V × PyData) => ∃ as, Reads s.heap v b.2 as) us (xs.zip ps)
  | _, _, _, .nil, h => by cases h; exact ⟨.nil, .nil⟩
  | _, _, _, .cons r t, h => by
    cases h with
    | cons h1 h2 =>
      obtain ⟨e1, e2⟩ := each_zip I t h2
      exact ⟨.cons r e1, .cons (Dp.reads I _ _ _ h1 r) e2⟩
theorem vals_of_each : ∀ {out : List Value} {bs : List (V × PyData)}, PySem.W.EachIs (fun (v : Value) (b : V × PyData) => RelV b.1 v) out bs → Vals (bs.map Prod.fst) out
  | _, _, .nil => .nil
  | _, _, .cons r t => .cons r (vals_of_each t)
theorem cr_sortedD {X : Cx} (hu : X.A.units + 64 < cLine) : CallR X (.builtin "sorted") (rSortedD X.K) := by
  intro pins s σ H vs us Q I r h
  obtain ⟨a, xs, ps, rfl, hs, hd, hal, hk, hdep, q⟩ := h
  obtain ⟨its, rv, hl, hz⟩ := I.list hs
  obtain ⟨u, rfl, ru⟩ := vals1 r
  obtain rfl : u = Value.ref a := ru
  obtain ⟨e, er⟩ := each_zip I rv hd
  have hlen := dpAll_len hd
  have hsnd : (xs.zip ps).map Prod.snd = ps := List.map_snd_zip (by omega)
  have hbl : (xs.zip ps).length = xs.length := by rw [List.length_zip]; omega
  refine PySem.W.sorted_data (R := fun v (b : V × PyData) => RelV b.1 v) (bs := xs.zip ps) (enc := Prod.snd) hl.isList e er (by rw [hsnd]; exact hal) (by rw [hsnd]; exact hk) (by rw [hbl]; exact hz) (fun b hb => ?_) fun out hlo eo => ?_
  · have := hdep b.2 (by rw [← hsnd]; exact List.mem_map_of_mem hb)
    omega
  · refine ⟨.ref (s.heap.objs.size + 1), upd H (s.heap.objs.size + 1) (.lst (((xs.zip ps).mergeSort (PySem.W.dataLe false Prod.snd)).map Prod.fst)), I.laid (t' := s.toks) (fun b o e => PyProof.Rows.sortedAll_old e) (Nat.le_succ _) ⟨?_, out, ?_⟩, rfl, q _ (I.hok.fresh (Nat.le_succ _))⟩
    · rw [List.length_map, List.length_mergeSort, hbl]; exact hz
    · obtain ⟨n, hn⟩ := PyProof.Rows.sortedAll_at s.heap its out.toArray
      exact ⟨n, vals_of_each eo, hn⟩
end Flx

end
section
set_option Elab.async false
set_option linter.all false
set_option maxRecDepth 100000
set_option autoImplicit false
/-! FlxMono: what is asked may be weakened at its end. -/
namespace Flx
open PySem PySem.Spec PyProof.Rows

theorem binW_mono {op : BOp} {x y : D} {S : St} {Q Q' : QD} (hQ : ∀ d S, Q d S → Q' d S) (h : binW op x y S Q) : binW op x y S Q' := by
  unfold binW at h ⊢
  split at h <;> first
    | exact hQ _ _ h
    | exact ⟨h.1, hQ _ _ h.2⟩
    | (obtain ⟨xs, ys, h1, h2, h3, h4⟩ := h; exact ⟨xs, ys, h1, h2, h3, hQ _ _ h4⟩)
    | (obtain ⟨xs, h1, h2, h3, h4, h5⟩ := h; exact ⟨xs, h1, h2, h3, h4, hQ _ _ h5⟩)
    | exact h.elim
theorem cmpW_mono {op : COp} {x y : D} {S : St} {Q Q' : Bool → St → Prop} (hQ : ∀ d S, Q d S → Q' d S) (h : cmpW op x y S Q) : cmpW op x y S Q' := by
  unfold cmpW at h ⊢
  cases op <;> dsimp only at h ⊢ <;> first
    | (obtain ⟨b, h1, h2⟩ := h; exact ⟨b, h1, hQ _ _ h2⟩)
    | exact ⟨h.1, hQ _ _ h.2⟩
    | exact Or.imp (fun ⟨b, h1, h2, h3, h4⟩ => ⟨b, h1, h2, h3, hQ _ _ h4⟩) (fun ⟨b, p, ps, h1, h2, h3, h4, h5, h6⟩ => ⟨b, p, ps, h1, h2, h3, h4, h5, hQ _ _ h6⟩) h
    | (split at h <;> first | exact hQ _ _ h | exact h.elim)
theorem ixW_mono {x y : D} {S : St} {Q Q' : QD} (hQ : ∀ d S, Q d S → Q' d S) (h : ixW x y S Q) : ixW x y S Q' := by
  unfold ixW at h ⊢
  split at h <;> first
    | (obtain ⟨d, h1, h2⟩ := h; exact ⟨d, h1, hQ _ _ h2⟩)
    | (obtain ⟨xs, d, h1, h2, h3⟩ := h; exact ⟨xs, d, h1, h2, hQ _ _ h3⟩)
    | (obtain ⟨c, h1, h2, h3⟩ := h; exact ⟨c, h1, h2, hQ _ _ h3⟩)
    | exact h.elim
theorem slW_mono {x : D} {l h' : Option Int} {S : St} {Q Q' : QD} (hQ : ∀ d S, Q d S → Q' d S) (h : slW x l h' S Q) : slW x l h' S Q' := by
  unfold slW at h ⊢
  split at h <;> first
    | exact hQ _ _ h
    | (obtain ⟨xs, h1, h2⟩ := h; exact ⟨xs, h1, hQ _ _ h2⟩)
    | exact h.elim
theorem bltW_mono {f : Blt} {xs : List D} {S : St} {Q Q' : QD} (hQ : ∀ d S, Q d S → Q' d S) (h : bltW f xs S Q) : bltW f xs S Q' := by
  unfold bltW at h ⊢
  split at h <;> first
    | exact hQ _ _ h
    | exact ⟨h.1, hQ _ _ h.2⟩
    | (obtain ⟨xs, h1, h2⟩ := h; exact ⟨xs, h1, hQ _ _ h2⟩)
    | (obtain ⟨xs, ns, h1, h2, h3⟩ := h; exact ⟨xs, ns, h1, h2, hQ _ _ h3⟩)
    | (obtain ⟨ns, h1, h2, h3⟩ := h; exact ⟨ns, h1, h2, hQ _ _ h3⟩)
    | (obtain ⟨xs, ns, h1, h2, h3, h4⟩ := h; exact ⟨xs, ns, h1, h2, h3, hQ _ _ h4⟩)
    | (obtain ⟨xs, ns, h1, h2, h3, h4, h5, h6⟩ := h; exact ⟨xs, ns, h1, h2, h3, h4, h5, hQ _ _ h6⟩)
    | exact h.elim
theorem mthW_mono {f : Mth} {x : D} {xs : List D} {S : St} {Q Q' : QD} (hQ : ∀ d S, Q d S → Q' d S) (h : mthW f x xs S Q) : mthW f x xs S Q' := by
  unfold mthW at h ⊢
  split at h
  · obtain ⟨ds, h1, h2, h3⟩ := h; exact ⟨ds, h1, h2, hQ _ _ h3⟩
  · obtain ⟨ds, h1, h2, h3, h4, h5⟩ := h; exact ⟨ds, h1, h2, h3, h4, hQ _ _ h5⟩
  · obtain ⟨ds, y, h1, h2, h3⟩ := h; exact ⟨ds, y, h1, h2, hQ _ _ h3⟩
  · obtain ⟨ds, k, y, h1, h2, h3, h4, h5, h6⟩ := h; exact ⟨ds, k, y, h1, h2, h3, h4, h5, hQ _ _ h6⟩
  · exact h.elim
theorem smtW_mono {f : SMth} {x y : D} {S : St} {Q Q' : QD} (hQ : ∀ d S, Q d S → Q' d S) (h : smtW f x y S Q) : smtW f x y S Q' := by
  unfold smtW at h ⊢
  split at h
  · exact ⟨h.1, h.2.1, hQ _ _ h.2.2⟩
  · exact h.elim
theorem setIxW_mono {o i v : D} {S : St} {Q Q' : St → Prop} (hQ : ∀ S, Q S → Q' S) (h : setIxW o i v S Q) : setIxW o i v S Q' := by
  unfold setIxW at h ⊢
  split at h
  · obtain ⟨xs, j, h1, h2, h3⟩ := h; exact ⟨xs, j, h1, h2, hQ _ h3⟩
  · exact h.elim
theorem rngW_mono {xs : List D} {Q Q' : Int → Int → Prop} (hQ : ∀ a b, Q a b → Q' a b) (h : rngW xs Q) : rngW xs Q' := by
  unfold rngW at h ⊢
  split at h
  · exact ⟨h.1, h.2.1, hQ _ _ h.2.2⟩
  · exact ⟨h.1, hQ _ _ h.2⟩
  · exact h.elim
theorem lcW_mono {G : St → Prop} {tg : Tg} {tt : Sg → St → (Bool → St → Prop) → Prop} {te : Sg → St → QD → Prop} {σ : Sg}
    (mt : ∀ σ S Q Q', (∀ b S, Q b S → Q' b S) → tt σ S Q → tt σ S Q') (me : ∀ σ S Q Q', (∀ d S, Q d S → Q' d S) → te σ S Q → te σ S Q') :
    ∀ (xs acc : List D) (S : St) (Q Q' : List D → St → Prop), (∀ a S, Q a S → Q' a S) → lcW G tg tt te σ xs acc S Q → lcW G tg tt te σ xs acc S Q'
  | [], acc, S, Q, Q', hQ, h => ⟨h.1, hQ _ _ h.2⟩
  | x :: xs, acc, S, Q, Q', hQ, h => by
    obtain ⟨g, σ', e, h⟩ := h
    refine ⟨g, σ', e, mt _ _ _ _ (fun b S1 q => ?_) h⟩
    cases b with
    | true => exact me _ _ _ _ (fun y S2 q2 => lcW_mono mt me xs _ S2 Q Q' hQ q2) q
    | false => exact lcW_mono mt me xs _ S1 Q Q' hQ q
def MonoC (C : Nat → List D → St → QD → Prop) : Prop := ∀ f xs S Q Q', (∀ d S, Q d S → Q' d S) → C f xs S Q → C f xs S Q'
section
variable {C : Nat → List D → St → QD → Prop} (mC : MonoC C)
include mC
mutual
theorem wE_mono : ∀ (e : Ex) (σ : Sg) (S : St) (Q Q' : QD), (∀ d S, Q d S → Q' d S) → wE C e σ S Q → wE C e σ S Q'
  | .var i, σ, S, Q, Q', hQ, h => by
    rw [wE] at h ⊢
    obtain ⟨d, h1, h2⟩ := h
    exact ⟨d, h1, hQ _ _ h2⟩
  | .cint k, σ, S, Q, Q', hQ, h => by rw [wE] at h ⊢; exact hQ _ _ h
  | .cstr k, σ, S, Q, Q', hQ, h => by rw [wE] at h ⊢; exact hQ _ _ h
  | .cbl k, σ, S, Q, Q', hQ, h => by rw [wE] at h ⊢; exact hQ _ _ h
  | .cnon, σ, S, Q, Q', hQ, h => by rw [wE] at h ⊢; exact hQ _ _ h
  | .bin op a b, σ, S, Q, Q', hQ, h => by
    rw [wE] at h ⊢
    exact wE_mono a _ _ _ _ (fun x S1 h1 => wE_mono b _ _ _ _ (fun y S2 h2 => binW_mono hQ h2) h1) h
  | .neg a, σ, S, Q, Q', hQ, h => by
    rw [wE] at h ⊢
    exact wE_mono a _ _ _ _ (fun x S1 ⟨i, e, h1⟩ => ⟨i, e, hQ _ _ h1⟩) h
  | .cmp op a b, σ, S, Q, Q', hQ, h => by
    rw [wE] at h ⊢
    exact wE_mono a _ _ _ _ (fun x S1 h1 => wE_mono b _ _ _ _ (fun y S2 h2 => cmpW_mono (fun b S h => hQ _ _ h) h2) h1) h
  | .cmp2 op op' a b c, σ, S, Q, Q', hQ, h => by
    rw [wE] at h ⊢
    refine wE_mono a _ _ _ _ (fun x S1 h1 => wE_mono b _ _ _ _ (fun y S2 h2 => cmpW_mono (fun k S h => ?_) h2) h1) h
    cases k with
    | true => exact wE_mono c _ _ _ _ (fun z S3 h3 => cmpW_mono (fun b S h => hQ _ _ h) h3) h
    | false => exact hQ _ _ h
  | .cmp3 op op' op2 a b c d, σ, S, Q, Q', hQ, h => by
    rw [wE] at h ⊢
    refine wE_mono a _ _ _ _ (fun x S1 h1 => wE_mono b _ _ _ _ (fun y S2 h2 => cmpW_mono (fun k S h => ?_) h2) h1) h
    cases k with
    | true =>
      refine wE_mono c _ _ _ _ (fun z S3 h3 => cmpW_mono (fun k' S h => ?_) h3) h
      cases k' with
      | true => exact wE_mono d _ _ _ _ (fun z S3 h3 => cmpW_mono (fun b S h => hQ _ _ h) h3) h
      | false => exact hQ _ _ h
    | false => exact hQ _ _ h
  | .and a b, σ, S, Q, Q', hQ, h => by
    rw [wE] at h ⊢
    refine wE_mono a _ _ _ _ (fun x S1 ⟨k, e, h1⟩ => ⟨k, e, ?_⟩) h
    cases k with
    | true => exact wE_mono b _ _ _ _ hQ h1
    | false => exact hQ _ _ h1
  | .or a b, σ, S, Q, Q', hQ, h => by
    rw [wE] at h ⊢
    refine wE_mono a _ _ _ _ (fun x S1 ⟨k, e, h1⟩ => ⟨k, e, ?_⟩) h
    cases k with
    | true => exact hQ _ _ h1
    | false => exact wE_mono b _ _ _ _ hQ h1
  | .not a, σ, S, Q, Q', hQ, h => by
    rw [wE] at h ⊢
    exact wE_mono a _ _ _ _ (fun x S1 ⟨k, e, h1⟩ => ⟨k, e, hQ _ _ h1⟩) h
  | .ite c a b, σ, S, Q, Q', hQ, h => by
    rw [wE] at h ⊢
    refine wE_mono c _ _ _ _ (fun x S1 ⟨k, e, h1⟩ => ⟨k, e, ?_⟩) h
    cases k with
    | true => exact wE_mono a _ _ _ _ hQ h1
    | false => exact wE_mono b _ _ _ _ hQ h1
  | .tup es, σ, S, Q, Q', hQ, h => by
    rw [wE] at h ⊢
    exact wEs_mono es _ _ _ _ (fun xs S1 h1 => ⟨h1.1, hQ _ _ h1.2⟩) h
  | .lst es, σ, S, Q, Q', hQ, h => by
    rw [wE] at h ⊢
    exact wEs_mono es _ _ _ _ (fun xs S1 h1 => ⟨h1.1, hQ _ _ h1.2⟩) h
  | .ix a b, σ, S, Q, Q', hQ, h => by
    rw [wE] at h ⊢
    exact wE_mono a _ _ _ _ (fun x S1 h1 => wE_mono b _ _ _ _ (fun y S2 h2 => ixW_mono hQ h2) h1) h
  | .sl a lo hi, σ, S, Q, Q', hQ, h => by
    rw [wE] at h ⊢
    exact wE_mono a _ _ _ _ (fun x S1 h1 => wO_mono lo _ _ _ _ (fun y S2 h2 => wO_mono hi _ _ _ _ (fun z S3 h3 => slW_mono hQ h3) h2) h1) h
  | .call f es, σ, S, Q, Q', hQ, h => by
    rw [wE] at h ⊢
    exact wEs_mono es _ _ _ _ (fun xs S1 h1 => mC _ _ _ _ _ hQ h1) h
  | .blt f es, σ, S, Q, Q', hQ, h => by
    rw [wE] at h ⊢
    exact wEs_mono es _ _ _ _ (fun xs S1 h1 => bltW_mono hQ h1) h
  | .isi a t, σ, S, Q, Q', hQ, h => by
    rw [wE] at h ⊢
    exact wE_mono a _ _ _ _ (fun x S1 ⟨k, e, h1⟩ => ⟨k, e, hQ _ _ h1⟩) h
  | .mth m o es, σ, S, Q, Q', hQ, h => by
    rw [wE] at h ⊢
    exact wE_mono o _ _ _ _ (fun x S1 h1 => ⟨h1.1, wEs_mono es _ _ _ _ (fun xs S2 h2 => mthW_mono hQ h2) h1.2⟩) h
  | .smt m o e, σ, S, Q, Q', hQ, h => by
    rw [wE] at h ⊢
    exact wE_mono o _ _ _ _ (fun x S1 h1 => ⟨h1.1, wE_mono e _ _ _ _ (fun xs S2 h2 => smtW_mono hQ h2) h1.2⟩) h
  | .lrg es, σ, S, Q, Q', hQ, h => by
    rw [wE] at h ⊢
    exact wEs_mono es _ _ _ _ (fun xs S1 h1 => rngW_mono (fun a b h2 => ⟨h2.1, hQ _ _ h2.2⟩) h1) h
  | .lc elt tg it ifs own, σ, S, Q, Q', hQ, h => by
    rw [wE] at h ⊢
    exact wI_mono it _ _ _ _ (fun G xs S1 h1 => ⟨h1.1, lcW_mono (fun σ S Q Q' => wC_mono ifs σ S Q Q') (fun σ S Q Q' => wE_mono elt σ S Q Q') xs [] S1 _ _ (fun acc S2 h2 => hQ _ _ h2) h1.2⟩) h
theorem wI_mono : ∀ (e : It) (σ : Sg) (S : St) (Q Q' : (St → Prop) → List D → St → Prop), (∀ G d S, Q G d S → Q' G d S) → wI C e σ S Q → wI C e σ S Q'
  | .seq e, σ, S, Q, Q', hQ, h => by
    rw [wI] at h ⊢
    exact wE_mono e _ _ _ _ (fun x S1 ⟨xs, h1, h2⟩ => ⟨xs, h1, hQ _ _ _ h2⟩) h
  | .rng es, σ, S, Q, Q', hQ, h => by
    rw [wI] at h ⊢
    exact wEs_mono es _ _ _ _ (fun x S1 h1 => rngW_mono (fun a b h2 => hQ _ _ _ h2) h1) h
  | .rgd a b, σ, S, Q, Q', hQ, h => by
    rw [wI] at h ⊢
    exact wE_mono a _ _ _ _ (fun x S1 h1 => wE_mono b _ _ _ _ (fun y S2 ⟨i, j, h2, h3, h4, h5⟩ => ⟨i, j, h2, h3, h4, hQ _ _ _ h5⟩) h1) h
  | .enm e, σ, S, Q, Q', hQ, h => by
    rw [wI] at h ⊢
    exact wE_mono e _ _ _ _ (fun x S1 ⟨xs, h1, h2⟩ => ⟨xs, h1, hQ _ _ _ h2⟩) h
  | .zip a b, σ, S, Q, Q', hQ, h => by
    rw [wI] at h ⊢
    exact wE_mono a _ _ _ _ (fun x S1 h1 => wE_mono b _ _ _ _ (fun y S2 ⟨xs, ys, h2, h3, h4⟩ => ⟨xs, ys, h2, h3, hQ _ _ _ h4⟩) h1) h
  | .rev e, σ, S, Q, Q', hQ, h => by
    rw [wI] at h ⊢
    exact wE_mono e _ _ _ _ (fun x S1 ⟨xs, h1, h2⟩ => ⟨xs, h1, hQ _ _ _ h2⟩) h
theorem wEs_mono : ∀ (e : Exs) (σ : Sg) (S : St) (Q Q' : List D → St → Prop), (∀ d S, Q d S → Q' d S) → wEs C e σ S Q → wEs C e σ S Q'
  | .nil, σ, S, Q, Q', hQ, h => by rw [wEs] at h ⊢; exact hQ _ _ h
  | .cons e es, σ, S, Q, Q', hQ, h => by
    rw [wEs] at h ⊢
    exact wE_mono e _ _ _ _ (fun x S1 h1 => wEs_mono es _ _ _ _ (fun xs S2 h2 => hQ _ _ h2) h1) h
theorem wO_mono : ∀ (e : ExO) (σ : Sg) (S : St) (Q Q' : Option Int → St → Prop), (∀ d S, Q d S → Q' d S) → wO C e σ S Q → wO C e σ S Q'
  | .none, σ, S, Q, Q', hQ, h => by rw [wO] at h ⊢; exact hQ _ _ h
  | .some e, σ, S, Q, Q', hQ, h => by
    rw [wO] at h ⊢
    exact wE_mono e _ _ _ _ (fun x S1 ⟨i, e1, h1⟩ => ⟨i, e1, hQ _ _ h1⟩) h
theorem wC_mono : ∀ (e : Exs) (σ : Sg) (S : St) (Q Q' : Bool → St → Prop), (∀ d S, Q d S → Q' d S) → wC C e σ S Q → wC C e σ S Q'
  | .nil, σ, S, Q, Q', hQ, h => by rw [wC] at h ⊢; exact hQ _ _ h
  | .cons e .nil, σ, S, Q, Q', hQ, h => by
    rw [wC] at h ⊢
    exact wE_mono e _ _ _ _ (fun x S1 ⟨k, e1, h1⟩ => ⟨k, e1, hQ _ _ h1⟩) h
  | .cons _ (.cons _ _), σ, S, Q, Q', hQ, h => by rw [wC] at h; exact h.elim
end
theorem wT_mono (e : Ex) (σ : Sg) (S : St) (Q Q' : Bool → St → Prop) (hQ : ∀ d S, Q d S → Q' d S) (h : wT C e σ S Q) : wT C e σ S Q' :=
  wE_mono mC e _ _ _ _ (fun x S1 ⟨k, e1, h1⟩ => ⟨k, e1, hQ _ _ h1⟩) h
end
/-- ends, weaker -/
structure EnLe (E E' : En) : Prop where
  nx : ∀ σ S, E.nx σ S → E'.nx σ S
  rt : ∀ d S, E.rt d S → E'.rt d S
  bk : ∀ σ S, E.bk σ S → E'.bk σ S
  ct : ∀ σ S, E.ct σ S → E'.ct σ S
def MonoT (b : TSt) : Prop := ∀ E E' σ S, EnLe E E' → b E σ S → b E' σ S
theorem forW_mono {G : St → Prop} {tg : Tg} {b : TSt} (mb : MonoT b) : ∀ (xs : List D) (E E' : En) (σ : Sg) (S : St), EnLe E E' → forW G tg b xs E σ S → forW G tg b xs E' σ S
  | [], E, E', σ, S, le, h => ⟨h.1, le.nx _ _ h.2⟩
  | x :: xs, E, E', σ, S, le, h => by
    obtain ⟨g, σ', e, h⟩ := h
    refine ⟨g, σ', e, mb _ _ _ _ ?_ h⟩
    exact ⟨fun σ S q => forW_mono mb xs E E' σ S le q, le.rt, le.nx, fun σ S q => forW_mono mb xs E E' σ S le q⟩
theorem whlW_mono {c : Sg → St → (Bool → St → Prop) → Prop} {b : TSt} (mc : ∀ σ S Q Q', (∀ b S, Q b S → Q' b S) → c σ S Q → c σ S Q') (mb : MonoT b) :
    ∀ (n : Nat) (E E' : En) (σ : Sg) (S : St), EnLe E E' → whlW c b n E σ S → whlW c b n E' σ S
  | 0, E, E', σ, S, le, h => h
  | n + 1, E, E', σ, S, le, h => by
    refine mc _ _ _ _ (fun k S1 q => ?_) h
    cases k with
    | true =>
      refine mb _ _ _ _ ?_ q
      exact ⟨fun σ S q => whlW_mono mc mb n E E' σ S le q, le.rt, le.nx, fun σ S q => whlW_mono mc mb n E E' σ S le q⟩
    | false => exact le.nx _ _ q
theorem parW_mono {k k' : Sg → Prop} : ∀ (is : List Nat) (xs : List D) (σ : Sg), (∀ σ, k σ → k' σ) → parW is xs σ k → parW is xs σ k'
  | [], [], σ, hk, h => hk _ h
  | i :: is, x :: xs, σ, hk, h => parW_mono is xs _ hk h
  | [], _ :: _, _, _, h => h.elim
  | _ :: _, [], _, _, h => h.elim
section
variable {C : Nat → List D → St → QD → Prop} (mC : MonoC C)
include mC
mutual
theorem wS_mono : ∀ (s : Sm), MonoT (wS C s)
  | .set i e => fun E E' σ S le h => by
    rw [wS] at h ⊢
    exact wE_mono mC e _ _ _ _ (fun x S1 h1 => le.nx _ _ h1) h
  | .setT ts e => fun E E' σ S le h => by
    rw [wS] at h ⊢
    exact wE_mono mC e _ _ _ _ (fun x S1 ⟨σ', e1, h1⟩ => ⟨σ', e1, le.nx _ _ h1⟩) h
  | .par is es => fun E E' σ S le h => by
    rw [wS] at h ⊢
    exact wEs_mono mC es _ _ _ _ (fun x S1 h1 => parW_mono _ _ _ (fun σ' h2 => le.nx _ _ h2) h1) h
  | .setIx o i e => fun E E' σ S le h => by
    rw [wS] at h ⊢
    exact wE_mono mC e _ _ _ _ (fun v S1 h1 => wE_mono mC o _ _ _ _ (fun x S2 h2 => wE_mono mC i _ _ _ _ (fun y S3 h3 => setIxW_mono (fun S4 h4 => le.nx _ _ h4) h3) h2) h1) h
  | .ex e => fun E E' σ S le h => by
    rw [wS] at h ⊢
    exact wE_mono mC e _ _ _ _ (fun x S1 h1 => le.nx _ _ h1) h
  | .ite c a b => fun E E' σ S le h => by
    rw [wS] at h ⊢
    refine wT_mono mC c _ _ _ _ (fun k S1 h1 => ?_) h
    cases k with
    | true => exact wSs_mono a _ _ _ _ le h1
    | false => exact wSs_mono b _ _ _ _ le h1
  | .for tg it b => fun E E' σ S le h => by
    rw [wS] at h ⊢
    exact wI_mono mC it _ _ _ _ (fun G xs S1 h1 => forW_mono (wSs_mono b) xs _ _ _ _ le h1) h
  | .whl c b => fun E E' σ S le h => by
    rw [wS] at h ⊢
    obtain ⟨n, h⟩ := h
    exact ⟨n, whlW_mono (fun σ S Q Q' => wT_mono mC c σ S Q Q') (wSs_mono b) n _ _ _ _ le h⟩
  | .ret e => fun E E' σ S le h => by
    rw [wS] at h ⊢
    exact wE_mono mC e _ _ _ _ le.rt h
  | .retN => fun E E' σ S le h => by rw [wS] at h ⊢; exact le.rt _ _ h
  | .brk => fun E E' σ S le h => by rw [wS] at h ⊢; exact le.bk _ _ h
  | .cnt => fun E E' σ S le h => by rw [wS] at h ⊢; exact le.ct _ _ h
  | .pas => fun E E' σ S le h => by rw [wS] at h ⊢; exact le.nx _ _ h
theorem wSs_mono : ∀ (s : Sms), MonoT (wSs C s)
  | .nil => fun E E' σ S le h => by rw [wSs] at h ⊢; exact le.nx _ _ h
  | .cons s ss => fun E E' σ S le h => by
    rw [wSs] at h ⊢
    refine wS_mono s _ _ _ _ ?_ h
    exact ⟨fun σ S q => wSs_mono ss _ _ _ _ le q, le.rt, le.bk, le.ct⟩
end
end
theorem callW_mono (T : List FDef) : ∀ k, MonoC (callW T k)
  | 0 => fun f xs S Q Q' hQ h => h
  | k + 1 => fun f xs S Q Q' hQ h => by
    obtain ⟨fd, e, hl, h⟩ := h
    refine ⟨fd, e, hl, wSs_mono (callW_mono T k) fd.body _ _ _ _ ?_ h⟩
    exact ⟨fun _ S q => hQ _ _ q, hQ, fun _ _ q => q, fun _ _ q => q⟩
end Flx

end
section
set_option Elab.async false
set_option linter.all false
set_option maxRecDepth 100000
set_option autoImplicit false
/-! FlxOps: the hand layer's rules for values, asked by pure data. -/
namespace Flx
open PySem PySem.Spec PyProof.Rows

/-- what is wanted behind an expression, at the values -/
def Po (K : K') (m : List Addr) (S : St) (H : L2.Hp) (Q : L2.VK) : QD := fun d S' => ∀ m' H' v, Xt m S H m' S' H' → RS K m' S' H' → RD K m' H' d v → Q v H'
theorem Po.shift {K : K'} {m m1 : List Addr} {S S1 : St} {H H1 : L2.Hp} {Q : L2.VK} (x : Xt m S H m1 S1 H1) {d : D} {S' : St} (p : Po K m S H Q d S') : Po K m1 S1 H1 Q d S' :=
  fun m' H' v x' r d => p m' H' v (x.trans x') r d
def RSg (K : K') (m : List Addr) (H : L2.Hp) (σd : Sg) (σ : L2.St) : Prop := σd.length = σ.length ∧ ∀ (i : Nat) (d : D), σd[i]? = some (some d) → ∃ v, σ[i]? = some (some v) ∧ RD K m H d v
theorem RSg.keep {K : K'} {m m1 : List Addr} {S S1 : St} {H H1 : L2.Hp} {σd : Sg} {σ : L2.St} (r : RS K m S H) (x : Xt m S H m1 S1 H1) (g : RSg K m H σd σ) : RSg K m1 H1 σd σ :=
  ⟨g.1, fun i d h => let ⟨v, e, q⟩ := g.2 i d h; ⟨v, e, q.keep r x⟩⟩
theorem RSg.set {K : K'} {m : List Addr} {H : L2.Hp} {σd : Sg} {σ : L2.St} {i : Nat} {d : D} {v : L2.V} (g : RSg K m H σd σ) (q : RD K m H d v) : RSg K m H (σd.set i (some d)) (σ.set i (some v)) := by
  refine ⟨by simp [g.1], fun j e h => ?_⟩
  by_cases hj : i = j
  · subst hj
    have hl : i < σd.length := by
      have := (List.getElem?_eq_some_iff.mp h).1
      simpa using this
    rw [List.getElem?_set_self hl] at h
    cases h
    exact ⟨v, by rw [List.getElem?_set_self (by rw [← g.1]; exact hl)], q⟩
  · rw [List.getElem?_set_ne hj] at h
    obtain ⟨w, e1, e2⟩ := g.2 j e h
    exact ⟨w, by rw [List.getElem?_set_ne hj]; exact e1, e2⟩

section
variable {K : K'} {m : List Addr} {S : St} {H : L2.Hp}
/-- a cell of the store is read -/
theorem seq_read (r : RS K m S H) {n : Nat} {xs : List D} {v : L2.V} (h : seqOf S n = some xs) (d : RD K m H (.ref n) v) : ∃ a vs, v = .ref a ∧ L2.SqL K H a vs ∧ RDs K m H xs vs := by
  obtain ⟨a, rfl, ha⟩ := d
  unfold seqOf at h
  cases e : S[n]? with
  | none => rw [e] at h; cases h
  | some o =>
    rw [e] at h
    have q := r.at' n o a e ha
    cases o with
    | lst ys =>
      cases h
      obtain ⟨vs, e1, e2⟩ := q
      exact ⟨a, vs, rfl, .inl (.inl e1), e2⟩
    | fro ys =>
      cases h
      obtain ⟨vs, e1, e2⟩ := q
      exact ⟨a, vs, rfl, e1.sq, e2⟩
theorem lst_read (r : RS K m S H) {n : Nat} {xs : List D} {v : L2.V} (h : S[n]? = some (.lst xs)) (d : RD K m H (.ref n) v) : ∃ a vs, v = .ref a ∧ m[n]? = some a ∧ H a = some (.lst vs) ∧ RDs K m H xs vs := by
  obtain ⟨a, rfl, ha⟩ := d
  obtain ⟨vs, e1, e2⟩ := r.at' n _ a h ha
  exact ⟨a, vs, rfl, ha, e1, e2⟩
theorem items_read (r : RS K m S H) {x : D} {xs : List D} {v : L2.V} (h : itemsOf S x = some xs) (d : RD K m H x v) :
    ∃ a vs, v = .ref a ∧ (L2.SqL K H a vs ∨ L2.SqT K H a vs) ∧ RDs K m H xs vs := by
  cases x with
  | tup ys =>
    cases h
    obtain ⟨a, vs, e, h1, h2⟩ := d
    exact ⟨a, vs, e, .inr h1, h2⟩
  | ref n =>
    obtain ⟨a, vs, e, h1, h2⟩ := seq_read r h d
    exact ⟨a, vs, e, .inl h1, h2⟩
  | _ => cases h
/-- a new list at a free place, what is wanted of it -/
theorem new_list (r : RS K m S H) {xs : List D} {vs : List L2.V} {Q : L2.VK} (hv : RDs K m H xs vs) (h : Po K m S H Q (.ref S.length) (S ++ [.lst xs])) : ∀ p, H p = none → Q (.ref p) (L2.upd H p (.lst vs)) := fun p hp => by
  obtain ⟨x1, r1, d1⟩ := laid_new r hp hv
  exact h _ _ _ x1 r1 d1
theorem new_tup (r : RS K m S H) {xs : List D} {vs : List L2.V} {Q : L2.VK} (hv : RDs K m H xs vs) (h : Po K m S H Q (.tup xs) S) : ∀ p, H p = none → Q (.ref p) (L2.upd H p (.tup vs)) := fun p hp => by
  obtain ⟨x1, r1, d1⟩ := laid_tup r hp hv
  exact h _ _ _ x1 r1 d1
theorem at_once (r : RS K m S H) {d : D} {v : L2.V} {Q : L2.VK} (h : Po K m S H Q d S) (q : RD K m H d v) : Q v H := h _ _ _ .refl r q
/-- a list written -/
theorem put_list (r : RS K m S H) {n : Nat} {a : Addr} {xs ys : List D} {us : List L2.V} {Q : L2.VK} {d : D} {v : L2.V} (hn : S[n]? = some (.lst xs)) (ha : m[n]? = some a) (hu : RDs K m H ys us) (hd : RD K m H d v)
    (h : Po K m S H Q d (S.set n (.lst ys))) : Q v (L2.upd H a (.lst us)) := by
  obtain ⟨x1, r1⟩ := wrote r hn ha hu
  exact h _ _ _ x1 r1 (hd.keep r x1)

/-! ### two values -/
def opOf : BOp → Operator
  | .add => .Add | .sub => .Sub | .mul => .Mult | .fdiv => .FloorDiv | .mod => .Mod | .pow => .Pow
def rBin (K : K') : BOp → L2.R2
  | .add => fun x y H Q => L2.rI0 (fun i j => .int (i + j)) x y H Q ∨ ((∃ i j, x = .str i ∧ y = .str j ∧ i.length + j.length ≤ sizeLine ∧ Q (.str (i ++ j)) H) ∨ (L2.rCatA K x y H Q ∨ L2.rCat x y H Q))
  | .sub => L2.rI0 fun i j => .int (i - j)
  | .mul => fun x y H Q => L2.rI L2.CMul (fun i j => .int (i * j)) x y H Q ∨ (L2.rRep x y H Q ∨ rRepA K x y H Q)
  | .fdiv => L2.rI L2.CDivN fun i j => .int (i.fdiv j)
  | .mod => L2.rI (fun _ j => j ≠ 0) fun i j => .int (i.fmod j)
  | .pow => L2.rI L2.CPow fun i j => .int (i ^ j.toNat)
theorem opBin {X : L2.Cx} (op : BOp) : L2.OpR X (binaryOp (opOf op)) (rBin X.K op) := by
  cases op with
  | add => exact L2.op_add.or (L2.op_add_str.or (L2.op_catA.or L2.op_cat))
  | sub => exact L2.op_sub
  | mul => exact L2.op_mul.or (L2.op_rep.or op_repA)
  | fdiv => exact L2.op_fdivN
  | mod => exact L2.op_modN
  | pow => exact L2.op_pow
theorem bin_ok (r : RS K m S H) {op : BOp} {x y : D} {v u : L2.V} {Q : L2.VK} (dx : RD K m H x v) (dy : RD K m H y u) (h : binW op x y S (Po K m S H Q)) : rBin K op v u H Q := by
  unfold binW at h
  split at h
  · cases dx; cases dy; exact .inl ⟨_, _, rfl, rfl, at_once r h rfl⟩
  · cases dx; cases dy; exact .inr (.inl ⟨_, _, rfl, rfl, h.1, at_once r h.2 rfl⟩)
  · obtain ⟨a, vs, rfl, h1, h2⟩ := dx
    obtain ⟨b, us, rfl, h3, h4⟩ := dy
    obtain ⟨hz, h⟩ := h
    refine .inr (.inr (.inl ⟨a, b, vs, us, rfl, rfl, h1, h3, by rw [← h2.length, ← h4.length]; exact hz, fun e => ?_, fun _ e => ?_, fun _ _ => new_tup r (h2.append h4) h⟩))
    · subst e
      have e2 := h2.length
      have e3 : _ = ([] : List D) := List.length_eq_zero_iff.mp e2
      subst e3
      exact at_once r h ⟨b, us, rfl, h3, h4⟩
    · subst e
      have e2 := h4.length
      have e3 : _ = ([] : List D) := List.length_eq_zero_iff.mp e2
      subst e3
      rw [List.append_nil] at h
      exact at_once r h ⟨a, vs, rfl, h1, h2⟩
  · obtain ⟨xs, ys, h1, h2, hz, h⟩ := h
    obtain ⟨a, vs, rfl, _, e1, q1⟩ := lst_read r h1 dx
    obtain ⟨b, us, rfl, _, e2, q2⟩ := lst_read r h2 dy
    exact .inr (.inr (.inr ⟨a, b, vs, us, rfl, rfl, e1, e2, by rw [← q1.length, ← q2.length]; exact hz, new_list r (q1.append q2) h⟩))
  · cases dx; cases dy; exact ⟨_, _, rfl, rfl, at_once r h rfl⟩
  · cases dx; cases dy; exact .inl ⟨_, _, rfl, rfl, h.1, at_once r h.2 rfl⟩
  · obtain ⟨xs, h1, h2, h3, h4, h⟩ := h
    obtain ⟨a, vs, rfl, _, e1, q1⟩ := lst_read r h1 dx
    cases dy
    exact .inr (.inl ⟨a, _, vs, rfl, rfl, e1, h2, h3, by rw [← q1.length]; exact h4, new_list r (q1.rep _) h⟩)
  · obtain ⟨a, vs, rfl, h1, h2⟩ := dx
    cases dy
    rename_i xs k
    obtain ⟨⟨hz1, hz2, hz3⟩, h⟩ := h
    refine .inr (.inr ⟨a, k, vs, rfl, rfl, h1, hz2, hz1, by rw [← h2.length]; exact hz3, fun e => ?_, fun _ => new_tup r (h2.rep _) h⟩)
    have e2 : (List.replicate k.toNat xs).flatten = xs := by
      rcases e with e | e
      · subst e
        have e3 : xs = [] := List.length_eq_zero_iff.mp h2.length
        subst e3
        generalize k.toNat = n
        induction n with
        | zero => rfl
        | succ n ih => rw [List.replicate_succ, List.flatten_cons, ih]; rfl
      · subst e
        show ([xs]).flatten = xs
        simp
    rw [e2] at h
    exact at_once r h ⟨a, vs, rfl, h1, h2⟩
  · cases dx; cases dy; exact ⟨_, _, rfl, rfl, h.1, at_once r h.2 rfl⟩
  · cases dx; cases dy; exact ⟨_, _, rfl, rfl, h.1, at_once r h.2 rfl⟩
  · cases dx; cases dy; exact ⟨_, _, rfl, rfl, h.1, at_once r h.2 rfl⟩
  · exact h.elim

/-! ### comparisons -/
mutual
theorem dp_of : ∀ {d : D} {v : L2.V} {p : PyData}, RD K m H d v → toP d = some p → L2.Dp K H v p
  | .non, v, p, h, e => by
    have e' : PyData.none = p := by simpa [toP] using e
    have h' : v = .non := h
    rw [← e', h']; exact .non
  | .bl b, v, p, h, e => by
    have e' : PyData.bool b = p := by simpa [toP] using e
    have h' : v = .bl b := h
    rw [← e', h']; exact .bl b
  | .int b, v, p, h, e => by
    have e' : PyData.int b = p := by simpa [toP] using e
    have h' : v = .int b := h
    rw [← e', h']; exact .int b
  | .str b, v, p, h, e => by
    have e' : PyData.str b = p := by simpa [toP] using e
    have h' : v = .str b := h
    rw [← e', h']; exact .str b
  | .tup ds, v, p, h, e => by
    obtain ⟨a, vs, rfl, h1, h2⟩ := h
    cases q : toPs ds with
    | none => simp [toP, q] at e
    | some ps =>
      have e' : PyData.tuple ps = p := by simpa [toP, q] using e
      rw [← e']
      exact .tup h1 (dps_of h2 q)
  | .ref n, v, p, h, e => by simp [toP] at e
theorem dps_of : ∀ {ds : List D} {vs : List L2.V} {ps : List PyData}, RDs K m H ds vs → toPs ds = some ps → L2.DpAll K H vs ps
  | [], vs, ps, h, e => by
    have e' : [] = ps := by simpa [toPs] using e
    have h' : vs = [] := h
    rw [← e', h']; exact .nil
  | d :: ds, vs, ps, h, e => by
    obtain ⟨v, r, rfl, h1, h2⟩ := h
    cases q : toP d with
    | none => simp [toPs, q] at e
    | some p =>
      cases q2 : toPs ds with
      | none => simp [toPs, q, q2] at e
      | some ps' =>
        have e' : p :: ps' = ps := by simpa [toPs, q, q2] using e
        rw [← e']
        exact .cons (dp_of h1 q) (dps_of h2 q2)
end
mutual
theorem dpR_of (r : RS K m S H) : ∀ {d : D} {v : L2.V} {p : PyData}, RD K m H d v → toPR S d = some p → L2.Dp K H v p
  | .non, v, p, h, e => by
    have e' : PyData.none = p := by simpa [toPR] using e
    have h' : v = .non := h
    rw [← e', h']; exact .non
  | .bl b, v, p, h, e => by
    have e' : PyData.bool b = p := by simpa [toPR] using e
    have h' : v = .bl b := h
    rw [← e', h']; exact .bl b
  | .int b, v, p, h, e => by
    have e' : PyData.int b = p := by simpa [toPR] using e
    have h' : v = .int b := h
    rw [← e', h']; exact .int b
  | .str b, v, p, h, e => by
    have e' : PyData.str b = p := by simpa [toPR] using e
    have h' : v = .str b := h
    rw [← e', h']; exact .str b
  | .tup ds, v, p, h, e => by
    obtain ⟨a, vs, rfl, h1, h2⟩ := h
    cases q : toPRs S ds with
    | none => simp [toPR, q] at e
    | some ps =>
      have e' : PyData.tuple ps = p := by simpa [toPR, q] using e
      rw [← e']
      exact .tup h1 (dpRs_of r h2 q)
  | .ref n, v, p, h, e => by
    cases q : seqOf S n with
    | none => simp [toPR, q] at e
    | some xs =>
      cases q2 : toPs xs with
      | none => simp [toPR, q, q2] at e
      | some ps =>
        have e' : PyData.list ps = p := by simpa [toPR, q, q2] using e
        obtain ⟨a, vs, rfl, h1, h2⟩ := seq_read r q h
        rw [← e']
        exact .lst h1 (dps_of h2 q2)
theorem dpRs_of (r : RS K m S H) : ∀ {ds : List D} {vs : List L2.V} {ps : List PyData}, RDs K m H ds vs → toPRs S ds = some ps → L2.DpAll K H vs ps
  | [], vs, ps, h, e => by
    have e' : [] = ps := by simpa [toPRs] using e
    have h' : vs = [] := h
    rw [← e', h']; exact .nil
  | d :: ds, vs, ps, h, e => by
    obtain ⟨v, r', rfl, h1, h2⟩ := h
    cases q : toPR S d with
    | none => simp [toPRs, q] at e
    | some p =>
      cases q2 : toPRs S ds with
      | none => simp [toPRs, q, q2] at e
      | some ps' =>
        have e' : p :: ps' = ps := by simpa [toPRs, q, q2] using e
        rw [← e']
        exact .cons (dpR_of r h1 q) (dpRs_of r h2 q2)
end
theorem dpS_of (r : RS K m S H) {d : D} {v : L2.V} {p : PyData} (h : RD K m H d v) (e : toPS S d = some p) : L2.Dp K H v p := by
  cases d with
  | ref n =>
    cases q : seqOf S n with
    | none => simp [toPS, q] at e
    | some xs =>
      cases q2 : toPRs S xs with
      | none => simp [toPS, q, q2] at e
      | some ps =>
        have e' : PyData.list ps = p := by simpa [toPS, q, q2] using e
        obtain ⟨a, vs, rfl, h1, h2⟩ := seq_read r q h
        rw [← e']
        exact .lst h1 (dpRs_of r h2 q2)
  | _ => exact dpR_of r h e
theorem eq_of (r : RS K m S H) {x y : D} {v u : L2.V} {b : Bool} (dx : RD K m H x v) (dy : RD K m H y u) (h : eqB S x y = some b) :
    ∃ d e, L2.Dp K H v d ∧ L2.Dp K H u e ∧ SeqAt.shaped d = true ∧ SeqAt.shaped e = true ∧ PyData.eqv d e = b := by
  unfold eqB at h
  cases q : toPS S x with
  | none => simp [q] at h
  | some p =>
    cases q2 : toPS S y with
    | none => simp [q, q2] at h
    | some p' =>
      simp only [q, q2] at h
      split at h
      · rename_i hs
        have e := Option.some.inj h
        exact ⟨p, p', dpS_of r dx q, dpS_of r dy q2, hs.1, hs.2, e⟩
      · cases h
def copOf : COp → CmpOp
  | .eq => .Eq | .ne => .NotEq | .lt => .Lt | .le => .LtE | .gt => .Gt | .ge => .GtE | .is => .Is | .isnot => .IsNot | .isin => .In | .notin => .NotIn
/-- x in a list or a tuple of data -/
def rInA (K : K') (neg : Bool) : L2.R2 := fun x y H Q => ∃ a xs p ps, y = .ref a ∧ (L2.SqL K H a xs ∨ L2.SqT K H a xs) ∧ L2.Dp K H x p ∧ L2.DpAll K H xs ps ∧ PyData.canLayAll0 ps = true ∧ SeqAt.shaped p = true ∧
  Q (.bl (if neg then !ps.any fun z => PyData.eqv z p else ps.any fun z => PyData.eqv z p)) H
theorem op_inA {X : L2.Cx} (hu : X.A.units + 65 < cLine) : L2.OpR X (compareOp .In) (rInA X.K false) := by
  intro pins s σ H x y v u Q I rx ry h
  obtain ⟨a, xs, d, ds, rfl, hq, hd, hds, hc, sd, q⟩ := h
  rw [if_neg (by decide)] at q
  obtain ⟨as, r1⟩ := L2.Dp.reads I d x v hd rx
  rcases hq with hq | hq
  · obtain ⟨bs, r2⟩ := L2.Dp.reads I (.list ds) _ u (.lst hq hds) ry
    exact SeqAt.in_list_reads r2 r1 hc (SeqAt.canLay_of_shaped sd) (room_in_shaped sd hu) ⟨.bl _, H, I, rfl, q⟩
  · obtain ⟨bs, r2⟩ := L2.Dp.reads I (.tuple ds) _ u (.tup hq hds) ry
    exact SeqAt.in_tuple_reads r2 r1 hc (SeqAt.canLay_of_shaped sd) (room_in_shaped sd hu) ⟨.bl _, H, I, rfl, q⟩
theorem op_notInA {X : L2.Cx} (hu : X.A.units + 65 < cLine) : L2.OpR X (compareOp .NotIn) (rInA X.K true) := by
  intro pins s σ H x y v u Q I rx ry h
  obtain ⟨a, xs, d, ds, rfl, hq, hd, hds, hc, sd, q⟩ := h
  rw [if_pos rfl] at q
  obtain ⟨as, r1⟩ := L2.Dp.reads I d x v hd rx
  rcases hq with hq | hq
  · obtain ⟨bs, r2⟩ := L2.Dp.reads I (.list ds) _ u (.lst hq hds) ry
    exact SeqAt.notIn_list_reads r2 r1 hc (SeqAt.canLay_of_shaped sd) (room_in_shaped sd hu) ⟨.bl _, H, I, rfl, q⟩
  · obtain ⟨bs, r2⟩ := L2.Dp.reads I (.tuple ds) _ u (.tup hq hds) ry
    exact SeqAt.notIn_tuple_reads r2 r1 hc (SeqAt.canLay_of_shaped sd) (room_in_shaped sd hu) ⟨.bl _, H, I, rfl, q⟩
def rCmp (K : K') : COp → L2.R2
  | .eq => L2.rEqD K
  | .ne => L2.rNeD K
  | .lt => L2.rI0 fun i j => .bl (decide (i < j))
  | .le => L2.rI0 fun i j => .bl (decide (i ≤ j))
  | .gt => L2.rI0 fun i j => .bl (decide (j < i))
  | .ge => L2.rI0 fun i j => .bl (decide (j ≤ i))
  | .is => fun x y H Q => y = .non ∧ Q (.bl (decide (x = .non))) H
  | .isnot => fun x y H Q => y = .non ∧ Q (.bl (!decide (x = .non))) H
  | .isin => fun x y H Q => L2.rIn K false x y H Q ∨ rInA K false x y H Q
  | .notin => fun x y H Q => L2.rIn K true x y H Q ∨ rInA K true x y H Q
theorem opCmp {X : L2.Cx} {k : Nat} (hr : L2.Room k X.A) (op : COp) : L2.OpR X (compareOp (copOf op)) (rCmp X.K op) := by
  cases op with
  | eq => exact L2.op_eqD hr.units
  | ne => exact L2.op_neD hr.units
  | lt => exact L2.op_lt
  | le => exact L2.op_le
  | gt => exact L2.op_gt
  | ge => exact L2.op_ge
  | is => exact L2.op_isN
  | isnot => exact L2.op_notN
  | isin => exact L2.op_in_seq.or (op_inA (by have := hr.un; omega))
  | notin => exact L2.op_notIn_seq.or (op_notInA (by have := hr.un; omega))
theorem isNon_of {x : D} {v : L2.V} (h : RD K m H x v) : decide (v = .non) = isNon x := by
  cases x with
  | non => have e : v = .non := h; rw [e]; rfl
  | bl b => have e : v = .bl b := h; rw [e]; rfl
  | int b => have e : v = .int b := h; rw [e]; rfl
  | str b => have e : v = .str b := h; rw [e]; rfl
  | tup ds => obtain ⟨a, vs, e, _⟩ := h; rw [e]; rfl
  | ref n => obtain ⟨a, e, _⟩ := h; rw [e]; rfl
theorem flat_of {x : D} {v : L2.V} (h : RD K m H x v) (f : flatD x = true) : L2.flatV v = true := by
  cases x with
  | non => have e : v = .non := h; rw [e]; rfl
  | bl b => have e : v = .bl b := h; rw [e]; rfl
  | int b => have e : v = .int b := h; rw [e]; rfl
  | str b => have e : v = .str b := h; rw [e]; rfl
  | _ => cases f
theorem eqF_of {x y : D} {v u : L2.V} (h : RD K m H x v) (h' : RD K m H y u) (f : flatD x = true) (f' : flatD y = true) : L2.eqV v u = eqF x y := by
  cases x <;> cases y <;> first
    | (cases f; done)
    | (cases f'; done)
    | (cases h; cases h'; rfl)
theorem flats_of : ∀ {xs : List D} {vs : List L2.V}, RDs K m H xs vs → xs.all flatD = true → vs.all L2.flatV = true
  | [], vs, h, _ => by have e : vs = [] := h; rw [e]; rfl
  | x :: xs, vs, h, f => by
    obtain ⟨v, r, rfl, h1, h2⟩ := h
    rw [List.all_cons, Bool.and_eq_true] at f
    rw [List.all_cons, flat_of h1 f.1, flats_of h2 f.2]; rfl
theorem any_of {y : D} {u : L2.V} (hy : RD K m H y u) (fy : flatD y = true) : ∀ {xs : List D} {vs : List L2.V}, RDs K m H xs vs → xs.all flatD = true → (vs.any fun w => L2.eqV w u) = xs.any fun z => eqF z y
  | [], vs, h, _ => by have e : vs = [] := h; rw [e]; rfl
  | x :: xs, vs, h, f => by
    obtain ⟨v, r, rfl, h1, h2⟩ := h
    rw [List.all_cons, Bool.and_eq_true] at f
    rw [List.any_cons, List.any_cons, eqF_of h1 hy f.1 fy, any_of hy fy h2 f.2]
theorem cmp_ok (r : RS K m S H) {op : COp} {x y : D} {v u : L2.V} {Q : L2.VK} (dx : RD K m H x v) (dy : RD K m H y u) (h : cmpW op x y S fun k S' => Po K m S H Q (.bl k) S') : rCmp K op v u H Q := by
  unfold cmpW at h
  cases op <;> dsimp only at h
  · obtain ⟨b, e, q⟩ := h
    obtain ⟨d, e', h1, h2, h3, h4, h5⟩ := eq_of r dx dy e
    exact ⟨d, e', h1, h2, h3, h4, by rw [h5]; exact at_once r q rfl⟩
  · obtain ⟨b, e, q⟩ := h
    obtain ⟨d, e', h1, h2, h3, h4, h5⟩ := eq_of r dx dy e
    exact ⟨d, e', h1, h2, h3, h4, by rw [h5]; exact at_once r q rfl⟩
  · split at h
    · cases dx; cases dy; exact ⟨_, _, rfl, rfl, at_once r h rfl⟩
    · exact h.elim
  · split at h
    · cases dx; cases dy; exact ⟨_, _, rfl, rfl, at_once r h rfl⟩
    · exact h.elim
  · split at h
    · cases dx; cases dy; exact ⟨_, _, rfl, rfl, at_once r h rfl⟩
    · exact h.elim
  · split at h
    · cases dx; cases dy; exact ⟨_, _, rfl, rfl, at_once r h rfl⟩
    · exact h.elim
  · obtain ⟨rfl, q⟩ := h
    cases dy
    exact ⟨rfl, by rw [isNon_of dx]; exact at_once r q rfl⟩
  · obtain ⟨rfl, q⟩ := h
    cases dy
    exact ⟨rfl, by rw [isNon_of dx]; exact at_once r q rfl⟩
  · rcases h with ⟨xs, h1, h2, h3, q⟩ | ⟨xs, p, ps, h1, h2, h3, h6, h7, q⟩
    · obtain ⟨a, vs, rfl, h4, h5⟩ := items_read r h1 dy
      exact .inl ⟨a, vs, rfl, h4, flat_of dx h2, flats_of h5 h3, by rw [if_neg (by decide), show L2.inV v vs = xs.any (fun z => eqF z x) from any_of dx h2 h5 h3]; exact at_once r q rfl⟩
    · obtain ⟨a, vs, rfl, h4, h5⟩ := items_read r h1 dy
      exact .inr ⟨a, vs, p, ps, rfl, h4, dpR_of r dx h2, dpRs_of r h5 h3, h6, h7, by rw [if_neg (by decide)]; exact at_once r q rfl⟩
  · rcases h with ⟨xs, h1, h2, h3, q⟩ | ⟨xs, p, ps, h1, h2, h3, h6, h7, q⟩
    · obtain ⟨a, vs, rfl, h4, h5⟩ := items_read r h1 dy
      exact .inl ⟨a, vs, rfl, h4, flat_of dx h2, flats_of h5 h3, by rw [if_pos rfl, show L2.inV v vs = xs.any (fun z => eqF z x) from any_of dx h2 h5 h3]; exact at_once r q rfl⟩
    · obtain ⟨a, vs, rfl, h4, h5⟩ := items_read r h1 dy
      exact .inr ⟨a, vs, p, ps, rfl, h4, dpR_of r dx h2, dpRs_of r h5 h3, h6, h7, by rw [if_pos rfl]; exact at_once r q rfl⟩

/-! ### truth -/
theorem isEmpty_of {xs : List D} {vs : List L2.V} (h : RDs K m H xs vs) : (!vs.isEmpty) = !xs.isEmpty := by
  have e := h.length
  cases xs <;> cases vs <;> first | rfl | simp at e
theorem tru_of (r : RS K m S H) {x : D} {v : L2.V} {k : Bool} (d : RD K m H x v) (h : truD S x = some k) : L2.TruV K v H k := by
  cases x with
  | non => cases d; have e : false = k := by simpa [truD] using h
           exact e.symm
  | bl b => cases d; have e : b = k := by simpa [truD] using h
            exact e.symm
  | int b => cases d; have e : (b != 0) = k := by simpa [truD] using h
             exact e.symm
  | str b =>
    cases d
    unfold truD at h
    dsimp only at h
    split at h
    · exact ⟨by assumption, (Option.some.inj h).symm⟩
    · cases h
  | tup xs =>
    obtain ⟨a, vs, rfl, h1, h2⟩ := d
    have e : (!xs.isEmpty) = k := by simpa [truD] using h
    exact .inr (.inl ⟨vs, h1, by rw [← e, isEmpty_of h2]⟩)
  | ref n =>
    cases q : seqOf S n with
    | none => simp [truD, q] at h
    | some xs =>
      obtain ⟨a, vs, rfl, h1, h2⟩ := seq_read r q d
      have e : (!xs.isEmpty) = k := by simpa [truD, q] using h
      exact .inl ⟨vs, h1, by rw [← e, isEmpty_of h2]⟩

/-! ### items, slices -/
theorem atI_of {xs : List D} {vs : List L2.V} {i : Int} {d : D} (h : RDs K m H xs vs) (e : L2.atI xs i = some d) : ∃ v, L2.atI vs i = some v ∧ RD K m H d v := by
  unfold L2.atI at e ⊢
  rw [← h.length]
  cases q : L2.ixN xs.length i with
  | none => rw [q] at e; cases e
  | some j =>
    rw [q] at e
    obtain ⟨v, e1, e2⟩ := h.get (i := j) e
    exact ⟨v, e1, e2⟩
theorem ix_ok (r : RS K m S H) {x y : D} {v u : L2.V} {Q : L2.VK} (dx : RD K m H x v) (dy : RD K m H y u) (h : ixW x y S (Po K m S H Q)) : L2.rIx K v u H Q := by
  unfold ixW at h
  split at h
  · obtain ⟨d, h1, q⟩ := h
    obtain ⟨a, vs, rfl, h2, h3⟩ := dx
    cases dy
    obtain ⟨w, h4, h5⟩ := atI_of h3 h1
    exact .inr (.inl ⟨a, vs, _, w, rfl, rfl, h2, h4, at_once r q h5⟩)
  · obtain ⟨xs, d, h0, h1, q⟩ := h
    obtain ⟨a, vs, rfl, h2, h3⟩ := seq_read r h0 dx
    cases dy
    obtain ⟨w, h4, h5⟩ := atI_of h3 h1
    exact .inl ⟨a, vs, _, w, rfl, rfl, h2, h4, at_once r q h5⟩
  · obtain ⟨c, h1, h2, q⟩ := h
    cases dx; cases dy
    exact .inr (.inr ⟨_, _, c, rfl, rfl, h1, h2, at_once r q rfl⟩)
  · exact h.elim
def rSl (K : K') : L2.V → Option Int → Option Int → L2.Hp → L2.VK → Prop := fun x lo hi H Q => L2.rSlL K x lo hi H Q ∨ L2.rSlA K x lo hi H Q
theorem opSl {X : L2.Cx} : L2.SlR X (rSl X.K) := L2.sl_list.or L2.sl_tupA
theorem sl_ok (r : RS K m S H) {x : D} {v : L2.V} {lo hi : Option Int} {Q : L2.VK} (dx : RD K m H x v) (h : slW x lo hi S (Po K m S H Q)) : rSl K v lo hi H Q := by
  unfold slW at h
  split at h
  · rename_i xs
    obtain ⟨a, vs, rfl, h2, h3⟩ := dx
    refine .inr ⟨a, vs, rfl, h2, fun e => ?_, fun _ => new_tup r (h3.cut lo hi) h⟩
    have e1 : cutD xs lo hi = xs := by
      unfold cutD
      rw [h3.length, e.1, e.2, List.drop_zero, Nat.sub_zero, ← h3.length, List.take_length]
    rw [e1] at h
    exact at_once r h ⟨a, vs, rfl, h2, h3⟩
  · obtain ⟨xs, h0, h⟩ := h
    obtain ⟨a, vs, rfl, h2, h3⟩ := seq_read r h0 dx
    exact .inl ⟨a, vs, rfl, h2, new_list r (h3.cut lo hi) h⟩
  · exact h.elim

/-! ### built-ins -/
theorem maxOf_mem : ∀ {ns : List Int}, 0 < ns.length → maxOf ns ∈ ns ∧ ∀ y ∈ ns, y ≤ maxOf ns
  | [], h => by simp at h
  | x :: xs, _ => by
    have go : ∀ (l : List Int) (a : Int), (l.foldl max a = a ∨ l.foldl max a ∈ l) ∧ a ≤ l.foldl max a ∧ ∀ y ∈ l, y ≤ l.foldl max a := by
      intro l
      induction l with
      | nil => intro a; exact ⟨.inl rfl, Int.le_refl _, fun y hy => by simp at hy⟩
      | cons b l ih =>
        intro a
        obtain ⟨h1, h2, h3⟩ := ih (max a b)
        show (List.foldl max (max a b) l = a ∨ List.foldl max (max a b) l ∈ b :: l) ∧ a ≤ List.foldl max (max a b) l ∧ ∀ y ∈ b :: l, y ≤ List.foldl max (max a b) l
        refine ⟨?_, by omega, fun y hy => ?_⟩
        · rcases h1 with h1 | h1
          · rw [h1]
            by_cases hab : a ≤ b
            · right; rw [Int.max_eq_right hab]; exact List.mem_cons_self
            · left; exact Int.max_eq_left (by omega)
          · exact .inr (List.mem_cons_of_mem _ h1)
        · rcases List.mem_cons.mp hy with rfl | hy
          · omega
          · exact h3 y hy
    obtain ⟨h1, h2, h3⟩ := go xs x
    refine ⟨?_, fun y hy => ?_⟩
    · rcases h1 with h1 | h1
      · show List.foldl max x xs ∈ _
        rw [h1]; exact List.mem_cons_self
      · exact List.mem_cons_of_mem _ h1
    · rcases List.mem_cons.mp hy with rfl | hy
      · exact h2
      · exact h3 y hy
theorem minOf_mem : ∀ {ns : List Int}, 0 < ns.length → minOf ns ∈ ns ∧ ∀ y ∈ ns, minOf ns ≤ y
  | [], h => by simp at h
  | x :: xs, _ => by
    have go : ∀ (l : List Int) (a : Int), (l.foldl min a = a ∨ l.foldl min a ∈ l) ∧ l.foldl min a ≤ a ∧ ∀ y ∈ l, l.foldl min a ≤ y := by
      intro l
      induction l with
      | nil => intro a; exact ⟨.inl rfl, Int.le_refl _, fun y hy => by simp at hy⟩
      | cons b l ih =>
        intro a
        obtain ⟨h1, h2, h3⟩ := ih (min a b)
        show (List.foldl min (min a b) l = a ∨ List.foldl min (min a b) l ∈ b :: l) ∧ List.foldl min (min a b) l ≤ a ∧ ∀ y ∈ b :: l, List.foldl min (min a b) l ≤ y
        refine ⟨?_, by omega, fun y hy => ?_⟩
        · rcases h1 with h1 | h1
          · rw [h1]
            by_cases hab : b ≤ a
            · right; rw [Int.min_eq_right hab]; exact List.mem_cons_self
            · left; exact Int.min_eq_left (by omega)
          · exact .inr (List.mem_cons_of_mem _ h1)
        · rcases List.mem_cons.mp hy with rfl | hy
          · omega
          · exact h3 y hy
    obtain ⟨h1, h2, h3⟩ := go xs x
    refine ⟨?_, fun y hy => ?_⟩
    · rcases h1 with h1 | h1
      · show List.foldl min x xs ∈ _
        rw [h1]; exact List.mem_cons_self
      · exact List.mem_cons_of_mem _ h1
    · rcases List.mem_cons.mp hy with rfl | hy
      · exact h2
      · exact h3 y hy
def bltFn : Blt → Value
  | .len => .builtin "len" | .abs => .builtin "abs" | .int => .type "int" | .max => .builtin "max" | .min => .builtin "min" | .sum => .builtin "sum"
  | .tuple => .type "tuple" | .list => .type "list" | .any => .builtin "any" | .all => .builtin "all" | .str => .type "str" | .sorted => .builtin "sorted"
abbrev RC := List L2.V → L2.Hp → L2.VK → Prop
def rMaxT (K : K') : RC := fun vs H Q => ∃ (a : Addr) (ns : List Int), vs = [L2.V.ref a] ∧ L2.SqT K H a (ns.map L2.V.int) ∧ 0 < ns.length ∧ Q (.int (maxOf ns)) H
def rMinT (K : K') : RC := fun vs H Q => ∃ (a : Addr) (ns : List Int), vs = [L2.V.ref a] ∧ L2.SqT K H a (ns.map L2.V.int) ∧ 0 < ns.length ∧ Q (.int (minOf ns)) H
theorem fold_min (x : Int) (xs : List Int) : PySem.W.minOf x xs = minOf (x :: xs) := by
  show xs.foldl _ x = xs.foldl min x
  congr 1
  funext a y
  show (if decide (y < a) = true then y else a) = min a y
  by_cases h : y < a
  · rw [if_pos (decide_eq_true h)]; omega
  · rw [if_neg (by simpa using h)]; omega
theorem fold_max (x : Int) (xs : List Int) : PySem.W.maxOf x xs = maxOf (x :: xs) := by
  show xs.foldl _ x = xs.foldl max x
  congr 1
  funext a y
  show (if decide (a < y) = true then y else a) = max a y
  by_cases h : a < y
  · rw [if_pos (decide_eq_true h)]; omega
  · rw [if_neg (by simpa using h)]; omega
theorem cr_minT {X : L2.Cx} {k : Nat} (hr : L2.Room k X.A) : L2.CallR X (.builtin "min") (rMinT X.K) := by
  intro pins s σ H vs us Q I r h
  obtain ⟨a, ns, rfl, hS, hp, q⟩ := h
  obtain ⟨u, rfl, e⟩ := L2.vals1 r
  obtain rfl : u = Value.ref a := e
  obtain ⟨its, rv, ht, _⟩ := I.tuple hS
  cases ns with
  | nil => cases hp
  | cons x xs =>
    refine PySem.W.min_tuple_datum (α := Int) (x := x) (xs := xs) hr.hd ht (PySem.W.HoldAll.of_ints (by simpa using L2.Vals.ints rv)) (by have := hr.units; show X.A.units + 1 + 0 < cLine; omega) fun i v h' tk hi hv hk => ?_
    obtain ⟨t, rfl⟩ : ∃ t, v = .int (minOf (x :: xs)) t := by
      rw [← fold_min]
      obtain ⟨as, hr⟩ := hv
      cases hr
      exact ⟨_, rfl⟩
    exact ⟨.int (minOf (x :: xs)), H, I.kept (t' := tk) hk, ⟨t, rfl⟩, q⟩
theorem cr_maxT {X : L2.Cx} {k : Nat} (hr : L2.Room k X.A) : L2.CallR X (.builtin "max") (rMaxT X.K) := by
  intro pins s σ H vs us Q I r h
  obtain ⟨a, ns, rfl, hS, hp, q⟩ := h
  obtain ⟨u, rfl, e⟩ := L2.vals1 r
  obtain rfl : u = Value.ref a := e
  obtain ⟨its, rv, ht, _⟩ := I.tuple hS
  cases ns with
  | nil => cases hp
  | cons x xs =>
    refine PySem.W.max_tuple_datum (α := Int) (x := x) (xs := xs) hr.hd ht (PySem.W.HoldAll.of_ints (by simpa using L2.Vals.ints rv)) (by have := hr.units; show X.A.units + 1 + 0 < cLine; omega) fun i v h' tk hi hv hk => ?_
    obtain ⟨t, rfl⟩ : ∃ t, v = .int (maxOf (x :: xs)) t := by
      rw [← fold_max]
      obtain ⟨as, hr⟩ := hv
      cases hr
      exact ⟨_, rfl⟩
    exact ⟨.int (maxOf (x :: xs)), H, I.kept (t' := tk) hk, ⟨t, rfl⟩, q⟩
def rBlt (K : K') : Blt → RC
  | .len => fun xs H Q => ∃ x n, xs = [x] ∧ L2.LenV K x H n ∧ Q (.int n) H
  | .abs => fun xs H Q => ∃ i, xs = [.int i] ∧ Q (.int (if i < 0 then -i else i)) H
  | .int => fun xs H Q => (∃ i, xs = [.int i] ∧ Q (.int i) H) ∨ ∃ k, xs = [.bl k] ∧ Q (.int (if k then 1 else 0)) H
  | .max => fun xs H Q => (∃ i j, xs = [.int i, .int j] ∧ Q (.int (if j > i then j else i)) H) ∨ ((L2.rMax K xs H Q ∨ rMaxT K xs H Q) ∨ (rMax3 xs H Q ∨ rMax4 xs H Q))
  | .min => fun xs H Q => (∃ i j, xs = [.int i, .int j] ∧ Q (.int (if j < i then j else i)) H) ∨ ((L2.rMin K xs H Q ∨ rMinT K xs H Q) ∨ (rMin3 xs H Q ∨ rMin4 xs H Q))
  | .sum => L2.rSum K
  | .tuple => fun xs H Q => ∃ p ys, xs = [.ref p] ∧ ((L2.SqL K H p ys ∧ ∀ l, H l = none → Q (.ref l) (L2.upd H l (.tup ys))) ∨ (L2.SqT K H p ys ∧ Q (.ref p) H))
  | .list => fun xs H Q => ∃ p ys, xs = [.ref p] ∧ (L2.SqL K H p ys ∨ L2.SqT K H p ys) ∧ ∀ l, H l = none → Q (.ref l) (L2.upd H l (.lst ys))
  | .any => L2.rAny K
  | .all => L2.rAll K
  | .str => fun xs H Q => ∃ i, xs = [.int i] ∧ i.natAbs.log2 < 1920 ∧ Q (.str (toString i)) H
  | .sorted => rSortedD K
theorem opBlt {X : L2.Cx} {k : Nat} (hr : L2.Room k X.A) (hc : X.calm = true) (f : Blt) : L2.CallR X (bltFn f) (rBlt X.K f) := by
  cases f with
  | len => exact L2.call_len
  | abs => exact L2.call_abs
  | int => exact L2.call_int1
  | max => exact (L2.call_max2 hc).or (((L2.cr_max hc).or (cr_maxT hr)).or ((call_max3 hc).or (call_max4 hc)))
  | min => exact (L2.call_min2 hc).or (((L2.cr_min hc).or (cr_minT hr)).or ((call_min3 hc).or (call_min4 hc)))
  | sum => exact L2.cr_sum hc
  | tuple => exact L2.call_tuple_of
  | list => exact L2.call_list_of
  | any => exact L2.cr_any hc
  | all => exact L2.cr_all hc
  | str => exact L2.call_str_int
  | sorted => exact cr_sortedD hr.units
theorem one_of {x : D} {vs : List L2.V} (h : RDs K m H [x] vs) : ∃ v, vs = [v] ∧ RD K m H x v := by
  obtain ⟨v, r, rfl, h1, h2⟩ := h
  have e : r = [] := h2
  subst e
  exact ⟨v, rfl, h1⟩
theorem two_of {x y : D} {vs : List L2.V} (h : RDs K m H [x, y] vs) : ∃ v u, vs = [v, u] ∧ RD K m H x v ∧ RD K m H y u := by
  obtain ⟨v, r, rfl, h1, h2⟩ := h
  obtain ⟨u, rfl, h3⟩ := one_of h2
  exact ⟨v, u, rfl, h1, h3⟩
theorem three_of {x y z : D} {vs : List L2.V} (h : RDs K m H [x, y, z] vs) : ∃ v u w, vs = [v, u, w] ∧ RD K m H x v ∧ RD K m H y u ∧ RD K m H z w := by
  obtain ⟨v, r, rfl, h1, h2⟩ := h
  obtain ⟨u, w, rfl, h3, h4⟩ := two_of h2
  exact ⟨v, u, w, rfl, h1, h3, h4⟩
theorem four_of {x y z a : D} {vs : List L2.V} (h : RDs K m H [x, y, z, a] vs) : ∃ v u w b, vs = [v, u, w, b] ∧ RD K m H x v ∧ RD K m H y u ∧ RD K m H z w ∧ RD K m H a b := by
  obtain ⟨v, r, rfl, h1, h2⟩ := h
  obtain ⟨u, w, b, rfl, h3, h4, h5⟩ := three_of h2
  exact ⟨v, u, w, b, rfl, h1, h3, h4, h5⟩
theorem each_RDs : ∀ {ds : List D} {vs : List L2.V} {ps : List PyData}, RDs K m H ds vs → toPRs S ds = some ps →
    PySem.W.EachIs (fun (b : L2.V × PyData) (d : D) => RD K m H d b.1 ∧ toPR S d = some b.2) (vs.zip ps) ds
  | [], vs, ps, h, e => by
    have h' : vs = [] := h
    rw [h']; exact .nil
  | d :: ds, vs, ps, h, e => by
    obtain ⟨v, r', rfl, h1, h2⟩ := h
    cases q : toPR S d with
    | none => simp [toPRs, q] at e
    | some p =>
      cases q2 : toPRs S ds with
      | none => simp [toPRs, q, q2] at e
      | some ps' =>
        have e' : p :: ps' = ps := by simpa [toPRs, q, q2] using e
        rw [← e']
        exact .cons ⟨h1, q⟩ (each_RDs h2 q2)
theorem RDs_each : ∀ {bs : List (L2.V × PyData)} {ds : List D}, PySem.W.EachIs (fun (b : L2.V × PyData) (d : D) => RD K m H d b.1 ∧ toPR S d = some b.2) bs ds → RDs K m H ds (bs.map Prod.fst)
  | _, _, .nil => rfl
  | _, _, .cons h t => ⟨_, _, rfl, h.1, RDs_each t⟩
theorem sort_ok {ds : List D} {vs : List L2.V} {ps : List PyData} (h : RDs K m H ds vs) (hp : toPRs S ds = some ps) :
    RDs K m H (sortD S ds) (((vs.zip ps).mergeSort (PySem.W.dataLe false Prod.snd)).map Prod.fst) := by
  have e := each_RDs h hp
  refine RDs_each (S := S) (PySem.W.sort_each e fun p hp q hq => ?_)
  have e1 := (e.zip p hp).2
  have e2 := (e.zip q hq).2
  rw [PySem.W.dataLe_eq, PySem.W.dataLe_eq]
  dsimp only
  rw [e1, e2]
  rfl
theorem blt_ok (r : RS K m S H) {f : Blt} {xs : List D} {vs : List L2.V} {Q : L2.VK} (dx : RDs K m H xs vs) (h : bltW f xs S (Po K m S H Q)) : rBlt K f vs H Q := by
  unfold bltW at h
  split at h
  · obtain ⟨v, rfl, a, us, rfl, h1, h2⟩ := one_of dx
    exact ⟨_, _, rfl, .inr ⟨us, h1, rfl⟩, by rw [← h2.length]; exact at_once r h rfl⟩
  · obtain ⟨ds, h0, h⟩ := h
    obtain ⟨v, rfl, d⟩ := one_of dx
    obtain ⟨a, us, rfl, h1, h2⟩ := seq_read r h0 d
    exact ⟨_, _, rfl, .inl ⟨us, h1, rfl⟩, by rw [← h2.length]; exact at_once r h rfl⟩
  · obtain ⟨v, rfl, d⟩ := one_of dx
    cases d
    exact ⟨_, _, rfl, ⟨h.1, rfl⟩, at_once r h.2 rfl⟩
  · obtain ⟨v, rfl, d⟩ := one_of dx
    cases d
    exact ⟨_, rfl, at_once r h rfl⟩
  · obtain ⟨v, rfl, d⟩ := one_of dx
    cases d
    exact .inl ⟨_, rfl, at_once r h rfl⟩
  · obtain ⟨v, rfl, d⟩ := one_of dx
    cases d
    exact .inr ⟨_, rfl, at_once r h rfl⟩
  · obtain ⟨v, u, rfl, d1, d2⟩ := two_of dx
    cases d1; cases d2
    exact .inl ⟨_, _, rfl, at_once r h rfl⟩
  · obtain ⟨v, u, rfl, d1, d2⟩ := two_of dx
    cases d1; cases d2
    exact .inl ⟨_, _, rfl, at_once r h rfl⟩
  · obtain ⟨v, u, w, rfl, d1, d2, d3⟩ := three_of dx
    cases d1; cases d2; cases d3
    exact .inr (.inr (.inl ⟨_, _, _, rfl, at_once r h rfl⟩))
  · obtain ⟨v, u, w, rfl, d1, d2, d3⟩ := three_of dx
    cases d1; cases d2; cases d3
    exact .inr (.inr (.inl ⟨_, _, _, rfl, at_once r h rfl⟩))
  · obtain ⟨v, u, w, z, rfl, d1, d2, d3, d4⟩ := four_of dx
    cases d1; cases d2; cases d3; cases d4
    exact .inr (.inr (.inr ⟨_, _, _, _, rfl, at_once r h rfl⟩))
  · obtain ⟨v, u, w, z, rfl, d1, d2, d3, d4⟩ := four_of dx
    cases d1; cases d2; cases d3; cases d4
    exact .inr (.inr (.inr ⟨_, _, _, _, rfl, at_once r h rfl⟩))
  · obtain ⟨ds, ns, h0, h1, hp, h⟩ := h
    obtain ⟨v, rfl, d⟩ := one_of dx
    obtain ⟨a, us, rfl, h2, h3⟩ := seq_read r h0 d
    rw [h3.ints h1] at h2
    refine .inr (.inl (.inl ⟨a, ns, rfl, h2, hp, fun x hx hall => ?_⟩))
    have e : x = maxOf ns := Int.le_antisymm ((maxOf_mem hp).2 x hx) (hall _ (maxOf_mem hp).1)
    rw [e]
    exact at_once r h rfl
  · obtain ⟨ds, ns, h0, h1, hp, h⟩ := h
    obtain ⟨v, rfl, d⟩ := one_of dx
    obtain ⟨a, us, rfl, h2, h3⟩ := seq_read r h0 d
    rw [h3.ints h1] at h2
    refine .inr (.inl (.inl ⟨a, ns, rfl, h2, hp, fun x hx hall => ?_⟩))
    have e : x = minOf ns := Int.le_antisymm (hall _ (minOf_mem hp).1) ((minOf_mem hp).2 x hx)
    rw [e]
    exact at_once r h rfl
  · obtain ⟨ns, h1, hp, h⟩ := h
    obtain ⟨v, rfl, a, us, rfl, h2, h3⟩ := one_of dx
    rw [h3.ints h1] at h2
    exact .inr (.inl (.inr ⟨a, ns, rfl, h2, hp, at_once r h rfl⟩))
  · obtain ⟨ns, h1, hp, h⟩ := h
    obtain ⟨v, rfl, a, us, rfl, h2, h3⟩ := one_of dx
    rw [h3.ints h1] at h2
    exact .inr (.inl (.inr ⟨a, ns, rfl, h2, hp, at_once r h rfl⟩))
  · obtain ⟨ds, ns, h0, h1, h⟩ := h
    obtain ⟨v, rfl, d⟩ := one_of dx
    obtain ⟨a, us, rfl, h2, h3⟩ := seq_read r h0 d
    rw [h3.ints h1] at h2
    exact ⟨a, ns, rfl, h2, at_once r h rfl⟩
  · obtain ⟨v, rfl, a, us, rfl, h1, h2⟩ := one_of dx
    exact ⟨a, us, rfl, .inr ⟨h1, at_once r h ⟨a, us, rfl, h1, h2⟩⟩⟩
  · obtain ⟨ds, h0, h⟩ := h
    obtain ⟨v, rfl, d⟩ := one_of dx
    obtain ⟨a, us, rfl, h2, h3⟩ := seq_read r h0 d
    exact ⟨a, us, rfl, .inl ⟨h2, new_tup r h3 h⟩⟩
  · obtain ⟨v, rfl, a, us, rfl, h1, h2⟩ := one_of dx
    exact ⟨a, us, rfl, .inr h1, new_list r h2 h⟩
  · obtain ⟨ds, h0, h⟩ := h
    obtain ⟨v, rfl, d⟩ := one_of dx
    obtain ⟨a, us, rfl, h2, h3⟩ := seq_read r h0 d
    exact ⟨a, us, rfl, .inl h2, new_list r h3 h⟩
  · obtain ⟨ds, ns, h0, h1, h⟩ := h
    obtain ⟨v, rfl, d⟩ := one_of dx
    obtain ⟨a, us, rfl, h2, h3⟩ := seq_read r h0 d
    rw [h3.bls h1] at h2
    exact ⟨a, ns, rfl, h2, at_once r h rfl⟩
  · obtain ⟨ds, ns, h0, h1, h⟩ := h
    obtain ⟨v, rfl, d⟩ := one_of dx
    obtain ⟨a, us, rfl, h2, h3⟩ := seq_read r h0 d
    rw [h3.bls h1] at h2
    exact ⟨a, ns, rfl, h2, at_once r h rfl⟩
  · obtain ⟨ds, ps, h0, h1, h5, h6, h7, h⟩ := h
    obtain ⟨v, rfl, d⟩ := one_of dx
    obtain ⟨a, us, rfl, h2, h3⟩ := seq_read r h0 d
    exact ⟨a, us, ps, rfl, h2, dpRs_of r h3 h1, h5, h6, h7, new_list r (sort_ok h3 h1) h⟩
  · obtain ⟨v, rfl, d⟩ := one_of dx
    cases d
    exact ⟨_, rfl, h.1, at_once r h.2 rfl⟩
  · exact h.elim

/-! ### isinstance -/
def tyOf : Ty → String
  | .tuple => "tuple" | .list => "list" | .str => "str" | .int => "int" | .bool => "bool"
def dTy (S : St) : D → String
  | .non => "NoneType" | .bl _ => "bool" | .int _ => "int" | .str _ => "str" | .tup _ => "tuple" | .ref _ => "list"
theorem tyx_of (r : RS K m S H) (hlen : ∀ n, n < m.length → ∃ o, S[n]? = some o) {x : D} {v : L2.V} (h : RD K m H x v) : L2.TyX K H v (.type (dTy S x)) := by
  cases x with
  | non => cases h; exact .base .non
  | bl b => cases h; exact .base (.bl b)
  | int b => cases h; exact .base (.int b)
  | str b => cases h; exact .base (.str b)
  | tup ds =>
    obtain ⟨a, vs, rfl, h1, _⟩ := h
    rcases h1 with (h1 | ⟨o, h1⟩) | ⟨o, _, _, h1, h2, _⟩
    · exact .base (.tup h1)
    · exact .fTuple h1
    · exact .kTuple h1 h2
  | ref n =>
    obtain ⟨a, rfl, ha⟩ := h
    obtain ⟨o, ho⟩ := hlen n (List.getElem?_eq_some_iff.mp ha).1
    have q := r.at' n o a ho ha
    cases o with
    | lst ys =>
      obtain ⟨vs, e, _⟩ := q
      exact .base (.lst e)
    | fro ys =>
      obtain ⟨vs, e, _⟩ := q
      rcases e with ⟨o, e⟩ | ⟨o, _, _, h1, h2, _⟩
      · exact .base (.frz e)
      · exact .kList h1 h2
inductive Kd where | non | bl | int | str | tup | ref deriving DecidableEq
def dKd : D → Kd
  | .non => .non | .bl _ => .bl | .int _ => .int | .str _ => .str | .tup _ => .tup | .ref _ => .ref
def kdTy : Kd → String
  | .non => "NoneType" | .bl => "bool" | .int => "int" | .str => "str" | .tup => "tuple" | .ref => "list"
def isTyK : Ty → Kd → Bool
  | .tuple, .tup => true | .list, .ref => true | .str, .str => true | .bool, .bl => true | .int, .int => true | .int, .bl => true
  | _, _ => false
theorem kit_all : ∀ (t : Ty) (k : Kd), L2.kitB (kdTy k) (tyOf t) = some (isTyK t k) := by
  intro t k
  cases t <;> cases k <;> decide +kernel
theorem kit_of' (t : Ty) (x : D) (b : Bool) (h : isTy t x = some b) : L2.kitB (dTy S x) (tyOf t) = some b := by
  have e1 : dTy S x = kdTy (dKd x) := by cases x <;> rfl
  have e2 : isTy t x = some (isTyK t (dKd x)) := by cases t <;> cases x <;> rfl
  rw [e1, kit_all, ← e2, h]
theorem isi_ok (r : RS K m S H) {t : Ty} {x : D} {v : L2.V} {b : Bool} {Q : L2.VK} (d : RD K m H x v) (e : isTy t x = some b) (h : Po K m S H Q (.bl b) S) : L2.rIsi K [v, .ty (tyOf t)] H Q :=
  ⟨v, .ty (tyOf t), _, _, b, rfl, .ty _, tyx_of r (fun n hn => ⟨_, List.getElem?_eq_getElem (by rw [← r.len]; exact hn)⟩) d, L2.kit_ty (kit_of' (S := S) t x b e), at_once r h rfl⟩

/-! ### methods -/
def mthId : Mth → String
  | .append => "list.append" | .insert => "list.insert" | .pop => "list.pop"
def rMth : Mth → L2.V → RC
  | .append => L2.rAppend
  | .insert => fun x vs H Q => ∃ (l : Addr) (xs : List L2.V) (i : Int) (y : L2.V), x = .ref l ∧ vs = [.int i, y] ∧ H l = some (.lst xs) ∧ xs.length < sizeLine ∧ 0 ≤ i ∧ i < 2 ^ 63 ∧ Q .non (L2.upd H l (.lst (xs.take i.toNat ++ [y] ++ xs.drop i.toNat)))
  | .pop => fun x vs H Q => L2.rPop x vs H Q ∨ L2.rPopAt x vs H Q
theorem opMth {X : L2.Cx} (f : Mth) : L2.MtR X (mthId f) (rMth f) := by
  cases f with
  | append => exact L2.mt_append
  | insert => exact L2.mt_insert
  | pop => exact L2.MtR.or L2.mt_pop L2.mt_popAt
theorem mth_ty (r : RS K m S H) {x : D} {v : L2.V} (d : RD K m H x v) (h : lstD S x) : L2.tyV K "list" v H := by
  obtain ⟨n, ys, rfl, h⟩ := h
  obtain ⟨a, vs, rfl, e1, _⟩ := seq_read r h d
  exact .inl ⟨rfl, vs, e1⟩
theorem mth_ok (r : RS K m S H) {f : Mth} {x : D} {v : L2.V} {xs : List D} {vs : List L2.V} {Q : L2.VK} (d : RD K m H x v) (dx : RDs K m H xs vs) (h : mthW f x xs S (Po K m S H Q)) : rMth f v vs H Q := by
  have hl := L2.line63
  unfold mthW at h
  split at h
  · obtain ⟨ds, h1, h2, h⟩ := h
    obtain ⟨a, us, rfl, e0, e1, e2⟩ := lst_read r h1 d
    obtain ⟨w, rfl, d2⟩ := one_of dx
    exact ⟨a, us, w, rfl, rfl, e1, by rw [← e2.length]; exact h2, put_list r h1 e0 (e2.append (show RDs K m H [_] [w] from ⟨w, [], rfl, d2, rfl⟩)) (show RD K m H .non .non from rfl) h⟩
  · obtain ⟨ds, h1, h2, h3, h4, h⟩ := h
    obtain ⟨a, us, rfl, e0, e1, e2⟩ := lst_read r h1 d
    obtain ⟨w, u, rfl, d2, d3⟩ := two_of dx
    cases d2
    refine ⟨a, us, _, u, rfl, rfl, e1, by rw [← e2.length]; exact h2, h3, by omega, put_list r h1 e0 ?_ (show RD K m H .non .non from rfl) h⟩
    rw [List.append_assoc]
    exact (e2.take _).append ⟨u, _, rfl, d3, e2.drop _⟩
  · obtain ⟨ds, y, h1, h2, h⟩ := h
    obtain ⟨a, us, rfl, e0, e1, e2⟩ := lst_read r h1 d
    have e3 : vs = [] := dx
    subst e3
    obtain ⟨w, h3, d3⟩ := e2.get h2
    have e4 : ∀ (l : List L2.V) (l' : List D), RDs K m H l' l → RDs K m H l'.dropLast l.dropLast := fun l l' q => by
      rw [List.dropLast_eq_take, List.dropLast_eq_take, q.length]
      exact q.take _
    exact .inl ⟨a, us, w, rfl, rfl, e1, by rw [← e2.length]; exact h3, put_list r h1 e0 (e4 _ _ e2) d3 h⟩
  · obtain ⟨ds, k, y, h1, h2, h3, h4, h5, h⟩ := h
    obtain ⟨a, us, rfl, e0, e1, e2⟩ := lst_read r h1 d
    obtain ⟨w, rfl, d2⟩ := one_of dx
    cases d2
    obtain ⟨z, h6, d3⟩ := e2.get h5
    exact .inr ⟨a, us, _, k, z, rfl, rfl, e1, h2, h3, by rw [← e2.length]; exact h4, h6, put_list r h1 e0 (e2.erase k) d3 h⟩
  · exact h.elim
/-! ### methods of text -/
theorem RDs.strs {K : K'} {m : List Addr} {H : L2.Hp} : ∀ (ns : List Str), RDs K m H (ns.map D.str) (ns.map L2.V.str)
  | [] => rfl
  | n :: ns => ⟨.str n, _, rfl, rfl, RDs.strs ns⟩
theorem split_ok (r : RS K m S H) {x y : D} {v u : L2.V} {Q : L2.VK} (d1 : RD K m H x v) (d2 : RD K m H y u) (h : smtW .split x y S (Po K m S H Q)) :
    ∃ a b, v = .str a ∧ [u] = [.str b] ∧ (b.length == 0) = false ∧ a.length + 2 ≤ sizeLine ∧ L2.rNewStrs (Txt.split a b) H Q := by
  unfold smtW at h
  split at h
  · cases d1; cases d2
    exact ⟨_, _, rfl, rfl, h.1, h.2.1, new_list r (RDs.strs _) h.2.2⟩
  · exact h.elim
theorem setIx_ok (r : RS K m S H) {o i y : D} {ov iv v : L2.V} {Q : L2.Hp → Prop} (d1 : RD K m H o ov) (d2 : RD K m H i iv) (d3 : RD K m H y v)
    (h : setIxW o i y S fun S' => ∀ H', Xt m S H m S' H' → RS K m S' H' → Q H') : L2.rSetL ov iv v H Q := by
  unfold setIxW at h
  split at h
  · obtain ⟨xs, j, h1, h2, h⟩ := h
    obtain ⟨a, us, rfl, e0, e1, e2⟩ := lst_read r h1 d1
    cases d2
    obtain ⟨x1, r1⟩ := wrote r h1 e0 (RDs.set d3 j e2)
    exact ⟨a, us, _, j, rfl, rfl, e1, by rw [← e2.length]; exact h2, h _ x1 r1⟩
  · exact h.elim
end
end Flx

end
section
set_option Elab.async false
set_option linter.all false
set_option maxRecDepth 100000
set_option autoImplicit false
/-! FlxLift: what a text of the pure language asks, as a reading of the hand layer; loops. -/
namespace Flx
open PySem PySem.Spec PyProof.Rows

def liftE (K : K') (w : Sg → St → QD → Prop) : L2.TE := fun σ H Q => ∃ m S σd, RS K m S H ∧ RSg K m H σd σ ∧ w σd S (Po K m S H Q)
def PoB (K : K') (m : List Addr) (S : St) (H : L2.Hp) (Q : Bool → L2.Hp → Prop) : Bool → St → Prop := fun b S' => ∀ m' H', Xt m S H m' S' H' → RS K m' S' H' → Q b H'
def liftT (K : K') (w : Sg → St → (Bool → St → Prop) → Prop) : L2.TT := fun σ H Q => ∃ m S σd, RS K m S H ∧ RSg K m H σd σ ∧ w σd S (PoB K m S H Q)
def PoA (K : K') (m : List Addr) (S : St) (H : L2.Hp) (Q : List L2.V → L2.Hp → Prop) : List D → St → Prop := fun ds S' => ∀ m' H' vs, Xt m S H m' S' H' → RS K m' S' H' → RDs K m' H' ds vs → Q vs H'
def liftA (K : K') (w : Sg → St → (List D → St → Prop) → Prop) : L2.TA := fun σ H Q => ∃ m S σd, RS K m S H ∧ RSg K m H σd σ ∧ w σd S (PoA K m S H Q)
def PoO (K : K') (m : List Addr) (S : St) (H : L2.Hp) (Q : Option Int → L2.Hp → Prop) : Option Int → St → Prop := fun d S' => ∀ m' H', Xt m S H m' S' H' → RS K m' S' H' → Q d H'
def liftO (K : K') (w : Sg → St → (Option Int → St → Prop) → Prop) : L2.TO := fun σ H Q => ∃ m S σd, RS K m S H ∧ RSg K m H σd σ ∧ w σd S (PoO K m S H Q)
/-- what a walk's protocol J gives, of the items xs while G holds -/
def JOk (K : K') (m : List Addr) (S : St) (H : L2.Hp) (J : L2.It) (G : St → Prop) (xs : List D) : Prop :=
  ∀ m' S' H', Xt m S H m' S' H' → RS K m' S' H' → G S' →
    (∀ (i : Nat) (d : D), xs[i]? = some d → J.go i H' ∧ ∀ v H2, J.yld i H' v H2 → Xt m' S' H' m' S' H2 ∧ RS K m' S' H2 ∧ RD K m' H2 d v) ∧ J.stop xs.length H'
def PoI (K : K') (m : List Addr) (S : St) (H : L2.Hp) (R : L2.It → L2.Hp → Prop) : (St → Prop) → List D → St → Prop := fun G xs S' => ∀ m' H' J, Xt m S H m' S' H' → RS K m' S' H' → JOk K m' S' H' J G xs → R J H'
def liftI (K : K') (w : Sg → St → ((St → Prop) → List D → St → Prop) → Prop) : L2.TI := fun σ H R => ∃ m S σd, RS K m S H ∧ RSg K m H σd σ ∧ w σd S (PoI K m S H R)
/-- a def's promise -/
def liftSp (K : K') (Φ : List D → St → QD → Prop) : L2.Sp := fun vs H Q _ => ∃ m S ds, RS K m S H ∧ RDs K m H ds vs ∧ Φ ds S (Po K m S H Q)

def MonoE {α : Type} (w : Sg → St → (α → St → Prop) → Prop) : Prop := ∀ σ S Q Q', (∀ d S, Q d S → Q' d S) → w σ S Q → w σ S Q'
section
variable {K : K'} {m : List Addr} {S : St} {H : L2.Hp} {σd : Sg} {σ : L2.St}
theorem stepE {w : Sg → St → QD → Prop} (mw : MonoE w) (r : RS K m S H) (g : RSg K m H σd σ) {R : QD} (h : w σd S R) {Q : L2.VK}
    (k : ∀ x S1 m1 H1 v, Xt m S H m1 S1 H1 → RS K m1 S1 H1 → RSg K m1 H1 σd σ → RD K m1 H1 x v → R x S1 → Q v H1) : liftE K w σ H Q :=
  ⟨m, S, σd, r, g, mw _ _ _ _ (fun x S1 hR m1 H1 v xt r1 d => k x S1 m1 H1 v xt r1 (g.keep r xt) d hR) h⟩
theorem stepT {w : Sg → St → (Bool → St → Prop) → Prop} (mw : MonoE w) (r : RS K m S H) (g : RSg K m H σd σ) {R : Bool → St → Prop} (h : w σd S R) {Q : Bool → L2.Hp → Prop}
    (k : ∀ b S1 m1 H1, Xt m S H m1 S1 H1 → RS K m1 S1 H1 → RSg K m1 H1 σd σ → R b S1 → Q b H1) : liftT K w σ H Q :=
  ⟨m, S, σd, r, g, mw _ _ _ _ (fun x S1 hR m1 H1 xt r1 => k x S1 m1 H1 xt r1 (g.keep r xt) hR) h⟩
theorem stepA {w : Sg → St → (List D → St → Prop) → Prop} (mw : MonoE w) (r : RS K m S H) (g : RSg K m H σd σ) {R : List D → St → Prop} (h : w σd S R) {Q : List L2.V → L2.Hp → Prop}
    (k : ∀ x S1 m1 H1 v, Xt m S H m1 S1 H1 → RS K m1 S1 H1 → RSg K m1 H1 σd σ → RDs K m1 H1 x v → R x S1 → Q v H1) : liftA K w σ H Q :=
  ⟨m, S, σd, r, g, mw _ _ _ _ (fun x S1 hR m1 H1 v xt r1 d => k x S1 m1 H1 v xt r1 (g.keep r xt) d hR) h⟩
theorem stepO {w : Sg → St → (Option Int → St → Prop) → Prop} (mw : MonoE w) (r : RS K m S H) (g : RSg K m H σd σ) {R : Option Int → St → Prop} (h : w σd S R) {Q : Option Int → L2.Hp → Prop}
    (k : ∀ b S1 m1 H1, Xt m S H m1 S1 H1 → RS K m1 S1 H1 → RSg K m1 H1 σd σ → R b S1 → Q b H1) : liftO K w σ H Q :=
  ⟨m, S, σd, r, g, mw _ _ _ _ (fun x S1 hR m1 H1 xt r1 => k x S1 m1 H1 xt r1 (g.keep r xt) hR) h⟩
end
section
variable {X : L2.Cx}
theorem pe_le {e : Expr} {t t' : L2.TE} (h : L2.PE X e t) (le : ∀ σ H Q, t' σ H Q → t σ H Q) : L2.PE X e t' := ⟨fun pins s σ H Q I q => h.run pins s σ H Q I (le _ _ _ q)⟩
theorem pt_le {e : Expr} {t t' : L2.TT} (h : L2.PT X e t) (le : ∀ σ H Q, t' σ H Q → t σ H Q) : L2.PT X e t' := ⟨fun pins s σ H Q I q => h.run pins s σ H Q I (le _ _ _ q)⟩
theorem pts_le {e : List Expr} {t t' : L2.TT} (h : L2.PTs X e t) (le : ∀ σ H Q, t' σ H Q → t σ H Q) : L2.PTs X e t' := ⟨fun pins s σ H Q I q => h.run pins s σ H Q I (le _ _ _ q)⟩
theorem pw_le {e : Expr} {t t' : L2.TT} (h : L2.PW X e t) (le : ∀ σ H Q, t' σ H Q → t σ H Q) : L2.PW X e t' := ⟨fun wh pins s σ H Q I q => h.run wh pins s σ H Q I (le _ _ _ q)⟩
theorem pa_le {e : List Expr} {t t' : L2.TA} (h : L2.PA X e t) (le : ∀ σ H Q, t' σ H Q → t σ H Q) : L2.PA X e t' := ⟨fun pos pins s σ H Q I q => h.run pos pins s σ H Q I (le _ _ _ q)⟩
theorem po_le {e : Option Expr} {t t' : L2.TO} (h : L2.PO X e t) (le : ∀ σ H Q, t' σ H Q → t σ H Q) : L2.PO X e t' := ⟨fun pins s σ H Q I q => h.run pins s σ H Q I (le _ _ _ q)⟩
theorem pi_le {tg e : Expr} {t t' : L2.TI} (h : L2.PI X tg e t) (le : ∀ σ H Q, t' σ H Q → t σ H Q) : L2.PI X tg e t' := ⟨fun pins s σ H Q I q => h.run pins s σ H Q I (le _ _ _ q)⟩
theorem ps_le {e : Stmt} {t t' : L2.TS} (h : L2.PS X e t) (le : ∀ D σ H, t' D σ H → t D σ H) : L2.PS X e t' := ⟨fun pins s σ H D I q => h.run pins s σ H D I (le _ _ _ q)⟩
theorem pss_le {e : List Stmt} {t t' : L2.TS} (h : L2.PSs X e t) (le : ∀ D σ H, t' D σ H → t D σ H) : L2.PSs X e t' := ⟨fun pins s σ H D I q => h.run pins s σ H D I (le _ _ _ q)⟩
end

/-! ### targets -/
mutual
def lenTgs : Tgs → Nat
  | .nil => 0
  | .cons _ ts => lenTgs ts + 1
def gR (K : K') : Tg → L2.TG
  | .nm i => L2.gName i
  | .tp ts => L2.gTup K (lenTgs ts) (gRs K ts)
def gRs (K : K') : Tgs → L2.TGs
  | .nil => L2.gNil
  | .cons t ts => L2.gCons (gR K t) (gRs K ts)
end
theorem len_gAs : ∀ {ts : Tgs} {ds : List D} {σ σ' : Sg}, gAs ts ds σ = some σ' → ds.length = lenTgs ts
  | .nil, [], σ, σ', _ => by rw [lenTgs]; rfl
  | .nil, d :: ds, σ, σ', h => by simp [gAs] at h
  | .cons t ts, [], σ, σ', h => by simp [gAs] at h
  | .cons t ts, d :: ds, σ, σ', h => by
    rw [gAs] at h
    cases q : gA t d σ with
    | none => rw [q] at h; cases h
    | some σ1 =>
      rw [q] at h
      rw [lenTgs, List.length_cons, len_gAs (ts := ts) h]
mutual
theorem gR_ok {K : K'} {m : List Addr} {H : L2.Hp} : ∀ (t : Tg) {d : D} {v : L2.V} {σd σd' : Sg} {σ : L2.St} {Q : L2.St → L2.Hp → Prop}, RSg K m H σd σ → RD K m H d v → gA t d σd = some σd' →
    (∀ σ', RSg K m H σd' σ' → Q σ' H) → gR K t v σ H Q
  | .nm i, d, v, σd, σd', σ, Q, g, q, h, k => by
    rw [gA] at h
    cases h
    rw [gR]
    exact k _ (g.set q)
  | .tp ts, .tup ds, v, σd, σd', σ, Q, g, q, h, k => by
    rw [gA] at h
    obtain ⟨a, vs, rfl, h1, h2⟩ := q
    rw [gR]
    exact ⟨a, vs, rfl, h1, by rw [← h2.length, len_gAs h], gRs_ok ts g h2 h k⟩
  | .tp ts, .non, v, σd, σd', σ, Q, g, q, h, k => by simp [gA] at h
  | .tp ts, .bl _, v, σd, σd', σ, Q, g, q, h, k => by simp [gA] at h
  | .tp ts, .int _, v, σd, σd', σ, Q, g, q, h, k => by simp [gA] at h
  | .tp ts, .str _, v, σd, σd', σ, Q, g, q, h, k => by simp [gA] at h
  | .tp ts, .ref _, v, σd, σd', σ, Q, g, q, h, k => by simp [gA] at h
theorem gRs_ok {K : K'} {m : List Addr} {H : L2.Hp} : ∀ (ts : Tgs) {ds : List D} {vs : List L2.V} {σd σd' : Sg} {σ : L2.St} {Q : L2.St → L2.Hp → Prop}, RSg K m H σd σ → RDs K m H ds vs → gAs ts ds σd = some σd' →
    (∀ σ', RSg K m H σd' σ' → Q σ' H) → gRs K ts vs σ H Q
  | .nil, [], vs, σd, σd', σ, Q, g, q, h, k => by
    have e : vs = [] := q
    have e2 : σd = σd' := by simpa [gAs] using h
    rw [gRs]
    exact ⟨e, k _ (e2 ▸ g)⟩
  | .nil, d :: ds, vs, σd, σd', σ, Q, g, q, h, k => by simp [gAs] at h
  | .cons t ts, [], vs, σd, σd', σ, Q, g, q, h, k => by simp [gAs] at h
  | .cons t ts, d :: ds, vs, σd, σd', σ, Q, g, q, h, k => by
    rw [gAs] at h
    obtain ⟨v, r, rfl, q1, q2⟩ := q
    cases e : gA t d σd with
    | none => rw [e] at h; cases h
    | some σ1 =>
      rw [e] at h
      rw [gRs]
      exact ⟨v, r, rfl, gR_ok t g q1 e fun σ' g' => gRs_ok ts g' q2 h k⟩
end

/-! ### statements -/
structure EnOk (K : K') (m : List Addr) (S : St) (H : L2.Hp) (E : En) (D : L2.Ends) : Prop where
  nx : ∀ m' S' H' σd' σ', Xt m S H m' S' H' → RS K m' S' H' → RSg K m' H' σd' σ' → E.nx σd' S' → D.nx σ' H'
  rt : ∀ m' S' H' d v, Xt m S H m' S' H' → RS K m' S' H' → RD K m' H' d v → E.rt d S' → D.rt v H'
  bk : ∀ m' S' H' σd' σ', Xt m S H m' S' H' → RS K m' S' H' → RSg K m' H' σd' σ' → E.bk σd' S' → D.bk σ' H'
  ct : ∀ m' S' H' σd' σ', Xt m S H m' S' H' → RS K m' S' H' → RSg K m' H' σd' σ' → E.ct σd' S' → D.ct σ' H'
theorem EnOk.shift {K : K'} {m m1 : List Addr} {S S1 : St} {H H1 : L2.Hp} {E : En} {D : L2.Ends} (x : Xt m S H m1 S1 H1) (o : EnOk K m S H E D) : EnOk K m1 S1 H1 E D :=
  ⟨fun m' S' H' σd' σ' y r g q => o.nx m' S' H' σd' σ' (x.trans y) r g q, fun m' S' H' d v y r g q => o.rt m' S' H' d v (x.trans y) r g q,
    fun m' S' H' σd' σ' y r g q => o.bk m' S' H' σd' σ' (x.trans y) r g q, fun m' S' H' σd' σ' y r g q => o.ct m' S' H' σd' σ' (x.trans y) r g q⟩
def liftS (K : K') (w : TSt) : L2.TS := fun D σ H => ∃ m S σd E, RS K m S H ∧ RSg K m H σd σ ∧ EnOk K m S H E D ∧ w E σd S

end Flx

end
section
set_option Elab.async false
set_option linter.all false
set_option maxRecDepth 100000
set_option autoImplicit false
/-! FlxLoop: for, while, comprehensions. -/
namespace Flx
open PySem PySem.Spec PyProof.Rows

theorem for_ok {K : K'} {m : List Addr} {S : St} {H : L2.Hp} {σd : Sg} {σ : L2.St} {E : En} {D : L2.Ends} {J : L2.It} {G : St → Prop} {tg : Tg} {b : TSt} {tb : L2.TS} {xs : List Flx.D}
    (r : RS K m S H) (g : RSg K m H σd σ) (o : EnOk K m S H E D) (hJ : JOk K m S H J G xs) (hb : ∀ D σ H, liftS K b D σ H → tb D σ H) (h : forW G tg b xs E σd S) :
    ∃ W : Nat → Nat → L2.St → L2.Hp → Prop, (∃ m, W 0 m σ H) ∧ ∀ i m σ H, W i m σ H →
      (J.stop i H ∧ D.nx σ H) ∨ (J.go i H ∧ ∃ N : L2.St → L2.Hp → Prop, (∀ σ' H', N σ' H' → ∃ m', m' < m ∧ W (i + 1) m' σ' H') ∧ ∀ x H', J.yld i H x H' → gR K tg x σ H' fun σ2 H2 => tb { D with nx := N, ct := N, bk := D.nx } σ2 H2) := by
  refine ⟨fun i n σ' H' => n = xs.length - i ∧ i ≤ xs.length ∧ ∃ m' S' σd', Xt m S H m' S' H' ∧ RS K m' S' H' ∧ RSg K m' H' σd' σ' ∧ forW G tg b (xs.drop i) E σd' S',
    ⟨xs.length, by simp, Nat.zero_le _, m, S, σd, .refl, r, g, by simpa using h⟩, ?_⟩
  rintro i n σ1 H1 ⟨rfl, hi, m1, S1, σd1, x1, r1, g1, h1⟩
  by_cases hlt : i < xs.length
  · have e : xs.drop i = xs[i] :: xs.drop (i + 1) := List.drop_eq_getElem_cons hlt
    rw [e] at h1
    obtain ⟨hG, σd2, e2, h2⟩ := h1
    obtain ⟨hgo, _⟩ := hJ m1 S1 H1 x1 r1 hG
    obtain ⟨go, yld⟩ := hgo i xs[i] (List.getElem?_eq_getElem hlt)
    refine .inr ⟨go, fun σ' H' => ∃ m' S' σd', Xt m S H m' S' H' ∧ RS K m' S' H' ∧ RSg K m' H' σd' σ' ∧ forW G tg b (xs.drop (i + 1)) E σd' S', fun σ' H' hN => ⟨xs.length - (i + 1), by omega, rfl, hlt, hN⟩, fun v H2 hy => ?_⟩
    obtain ⟨x2, r2, d2⟩ := yld v H2 hy
    refine gR_ok tg (g1.keep r1 x2) d2 e2 fun σ3 g3 => hb _ _ _ ⟨m1, S1, σd2, _, r2, g3, ?_, h2⟩
    have x3 := x1.trans x2
    exact ⟨fun m' S' H' σd' σ' y r' g' q => ⟨m', S', σd', x3.trans y, r', g', q⟩, fun m' S' H' d w y r' q1 q => o.rt m' S' H' d w (x3.trans y) r' q1 q, fun m' S' H' σd' σ' y r' g' q => o.nx m' S' H' σd' σ' (x3.trans y) r' g' q,
      fun m' S' H' σd' σ' y r' g' q => ⟨m', S', σd', x3.trans y, r', g', q⟩⟩
  · have hi' : i = xs.length := by omega
    subst hi'
    rw [List.drop_length] at h1
    obtain ⟨hG, hn⟩ := h1
    obtain ⟨_, stop⟩ := hJ m1 S1 H1 x1 r1 hG
    exact .inl ⟨stop, o.nx m1 S1 H1 σd1 σ1 x1 r1 g1 hn⟩

theorem whl_ok {K : K'} {m : List Addr} {S : St} {H : L2.Hp} {σd : Sg} {σ : L2.St} {E : En} {D : L2.Ends} {c : Sg → St → (Bool → St → Prop) → Prop} {b : TSt} {tc : L2.TT} {tb : L2.TS} {n : Nat}
    (mc : MonoE c) (r : RS K m S H) (g : RSg K m H σd σ) (o : EnOk K m S H E D) (hc : ∀ σ H Q, liftT K c σ H Q → tc σ H Q) (hb : ∀ D σ H, liftS K b D σ H → tb D σ H) (h : whlW c b n E σd S) : L2.tWhile tc tb D σ H := by
  refine ⟨fun n σ' H' => ∃ m' S' σd', Xt m S H m' S' H' ∧ RS K m' S' H' ∧ RSg K m' H' σd' σ' ∧ whlW c b n E σd' S', ⟨n, m, S, σd, .refl, r, g, h⟩, ?_⟩
  rintro n σ1 H1 ⟨m1, S1, σd1, x1, r1, g1, h1⟩
  cases n with
  | zero => exact h1.elim
  | succ n =>
    refine hc _ _ _ (stepT mc r1 g1 h1 fun k S2 m2 H2 x2 r2 g2 h2 => ?_)
    have x3 := x1.trans x2
    cases k with
    | true =>
      rw [if_pos rfl] at h2 ⊢
      refine ⟨fun σ' H' => ∃ m' S' σd', Xt m S H m' S' H' ∧ RS K m' S' H' ∧ RSg K m' H' σd' σ' ∧ whlW c b n E σd' S', fun σ' H' hN => ⟨n, Nat.lt_succ_self _, hN⟩, hb _ _ _ ⟨m2, S2, σd1, _, r2, g2, ?_, h2⟩⟩
      exact ⟨fun m' S' H' σd' σ' y r' g' q => ⟨m', S', σd', x3.trans y, r', g', q⟩, fun m' S' H' d w y r' q1 q => o.rt m' S' H' d w (x3.trans y) r' q1 q, fun m' S' H' σd' σ' y r' g' q => o.nx m' S' H' σd' σ' (x3.trans y) r' g' q,
        fun m' S' H' σd' σ' y r' g' q => ⟨m', S', σd', x3.trans y, r', g', q⟩⟩
    | false =>
      rw [if_neg Bool.false_ne_true] at h2 ⊢
      exact o.nx m2 S2 H2 σd1 σ1 x3 r2 g2 h2

/-! ### comprehensions -/
mutual
theorem RD.keepG {K : K'} {m m' : List Addr} {H H' : L2.Hp} (hT : ∀ a vs, L2.SqT K H a vs → L2.SqT K H' a vs) (hm : ∀ (n : Nat) (a : Addr), m[n]? = some a → m'[n]? = some a) : ∀ {d : D} {v : L2.V}, RD K m H d v → RD K m' H' d v
  | .non, _, h => h
  | .bl _, _, h => h
  | .int _, _, h => h
  | .str _, _, h => h
  | .tup ds, v, h => by
    obtain ⟨a, vs, e, h1, h2⟩ := h
    exact ⟨a, vs, e, hT _ _ h1, RDs.keepG hT hm h2⟩
  | .ref n, v, h => by
    obtain ⟨a, e, h1⟩ := h
    exact ⟨a, e, hm _ _ h1⟩
theorem RDs.keepG {K : K'} {m m' : List Addr} {H H' : L2.Hp} (hT : ∀ a vs, L2.SqT K H a vs → L2.SqT K H' a vs) (hm : ∀ (n : Nat) (a : Addr), m[n]? = some a → m'[n]? = some a) : ∀ {ds : List D} {vs : List L2.V}, RDs K m H ds vs → RDs K m' H' ds vs
  | [], _, h => h
  | d :: ds, vs, h => by
    obtain ⟨v, rr, e, h1, h2⟩ := h
    exact ⟨v, rr, e, RD.keepG hT hm h1, RDs.keepG hT hm h2⟩
end
section
variable {K : K'} {m : List Addr} {S : St} {H : L2.Hp}
/-- a list that no cell knows is changed -/
theorem sqT_priv {Da a : Addr} {vs us ws : List L2.V} (hD : H Da = some (.lst vs)) (h : L2.SqT K H a ws) : L2.SqT K (L2.upd H Da (.lst us)) a ws := by
  rcases h with (h | ⟨o, h⟩) | h
  · exact .inl (.inl (by rw [L2.upd_ne (fun z => by rw [z, hD] at h; cases h)]; exact h))
  · exact .inl (.inr ⟨o, by rw [L2.upd_ne (fun z => by rw [z, hD] at h; cases h)]; exact h⟩)
  · exact .inr h
theorem priv_put {Da : Addr} {vs us : List L2.V} (r : RS K m S H) (hD : H Da = some (.lst vs)) (hw : ¬ Wr m S Da) : RS K m S (L2.upd H Da (.lst us)) := by
  refine ⟨r.len, fun n o a h1 h2 => ?_, r.inj⟩
  have q := r.at' n o a h1 h2
  cases o with
  | lst es =>
    obtain ⟨ws, e, q⟩ := q
    have ha : a ≠ Da := fun z => hw (z ▸ ⟨n, _, h2, h1, rfl⟩)
    exact ⟨ws, by rw [L2.upd_ne ha]; exact e, q.keepG (fun _ _ z => sqT_priv hD z) fun _ _ z => z⟩
  | fro es =>
    obtain ⟨ws, e, q⟩ := q
    refine ⟨ws, ?_, q.keepG (fun _ _ z => sqT_priv hD z) fun _ _ z => z⟩
    rcases e with ⟨o, e⟩ | e
    · exact .inl ⟨o, by rw [L2.upd_ne (fun z => by rw [z, hD] at e; cases e)]; exact e⟩
    · exact .inr e
/-- .. and becomes a cell -/
theorem adopt {Da : Addr} {vs : List L2.V} {acc : List D} (r : RS K m S H) (hD : H Da = some (.lst vs)) (hw : ¬ Wr m S Da) (hv : RDs K m H acc vs) :
    RS K (m ++ [Da]) (S ++ [.lst acc]) H ∧ RD K (m ++ [Da]) H (.ref S.length) (.ref Da) ∧ ∀ a, Wr (m ++ [Da]) (S ++ [.lst acc]) a → Wr m S a ∨ a = Da := by
  have hm : ∀ (n : Nat) (a : Addr), m[n]? = some a → (m ++ [Da])[n]? = some a := fun n a h => by rw [List.getElem?_append_left (List.getElem?_eq_some_iff.mp h).1]; exact h
  have last : (m ++ [Da])[S.length]? = some Da := by
    rw [← r.len, List.getElem?_append_right (Nat.le_refl _), Nat.sub_self]
    rfl
  have cls : ∀ {n : Nat} {o : MO} {a : Addr}, (S ++ [MO.lst acc])[n]? = some o → (m ++ [Da])[n]? = some a → (n < S.length ∧ S[n]? = some o ∧ m[n]? = some a) ∨ (n = S.length ∧ a = Da ∧ o = .lst acc) := fun {n o a} h1 h2 => by
    by_cases hn : n < S.length
    · rw [List.getElem?_append_left hn] at h1
      rw [List.getElem?_append_left (by rw [r.len]; exact hn)] at h2
      exact .inl ⟨hn, h1, h2⟩
    · have hl : n < (S ++ [MO.lst acc]).length := (List.getElem?_eq_some_iff.mp h1).1
      have hn' : n = S.length := by simp at hl; omega
      subst hn'
      rw [last] at h2
      cases h2
      refine .inr ⟨rfl, rfl, ?_⟩
      rw [List.getElem?_append_right (Nat.le_refl _), Nat.sub_self] at h1
      simpa using h1.symm
  have apart : ∀ {n : Nat} {o : MO} {a : Addr}, S[n]? = some o → o.mut = true → m[n]? = some a → a ≠ Da := fun {n o a} h1 h3 h2 z => hw (z ▸ ⟨n, o, h2, h1, h3⟩)
  refine ⟨⟨by simp [r.len], fun n o a h1 h2 => ?_, fun n n' o o' a h1 h2 h3 h4 h5 h6 => ?_⟩, ⟨Da, rfl, last⟩, fun a ⟨n, o, h1, h2, h3⟩ => ?_⟩
  · rcases cls h1 h2 with ⟨_, q1, q2⟩ | ⟨_, rfl, rfl⟩
    · have q := r.at' n o a q1 q2
      cases o with
      | lst es =>
        obtain ⟨ws, e, q⟩ := q
        exact ⟨ws, e, q.keepG (fun _ _ z => z) hm⟩
      | fro es =>
        obtain ⟨ws, e, q⟩ := q
        exact ⟨ws, e, q.keepG (fun _ _ z => z) hm⟩
    · exact ⟨vs, hD, hv.keepG (fun _ _ z => z) hm⟩
  · rcases cls h1 h5 with ⟨_, q1, q2⟩ | ⟨q1, q2, _⟩
    · rcases cls h2 h6 with ⟨_, q3, q4⟩ | ⟨q3, q4, _⟩
      · exact r.inj n n' o o' a q1 q3 h3 h4 q2 q4
      · exact absurd q4 (apart q1 h3 q2)
    · rcases cls h2 h6 with ⟨_, q3, q4⟩ | ⟨q3, q4, _⟩
      · exact absurd q2 (apart q3 h4 q4)
      · rw [q1, q3]
  · rcases cls h2 h1 with ⟨_, q1, q2⟩ | ⟨_, q2, _⟩
    · exact .inl ⟨n, o, q2, q1, h3⟩
    · exact .inr q2
end
theorem wipe_get (σ : L2.St) : ∀ (vs : List Nat) (j : Nat), (L2.wipe σ vs)[j]? = if j ∈ vs ∧ j < σ.length then some none else σ[j]?
  | [], j => by simp [L2.wipe]
  | v :: vs, j => by
    rw [L2.wipe]
    by_cases hv : v = j
    · subst hv
      by_cases hl : v < σ.length
      · rw [List.getElem?_set_self (by rw [L2.wipe_length]; exact hl), if_pos ⟨by simp, hl⟩]
      · rw [List.getElem?_eq_none (by rw [List.length_set, L2.wipe_length]; omega), if_neg (fun z => hl z.2), List.getElem?_eq_none (by omega)]
    · rw [List.getElem?_set_ne hv, wipe_get σ vs j]
      have e : (j ∈ v :: vs ∧ j < σ.length) ↔ (j ∈ vs ∧ j < σ.length) := by
        simp only [List.mem_cons]
        constructor
        · rintro ⟨h | h, h2⟩
          · exact absurd h.symm hv
          · exact ⟨h, h2⟩
        · rintro ⟨h, h2⟩
          exact ⟨.inr h, h2⟩
      by_cases hc : j ∈ vs ∧ j < σ.length
      · rw [if_pos hc, if_pos (e.mpr hc)]
      · rw [if_neg hc, if_neg (fun z => hc (e.mp z))]
theorem wipeD_get (σ : Sg) : ∀ (vs : List Nat) (j : Nat), (wipeD σ vs)[j]? = if j ∈ vs ∧ j < σ.length then some none else σ[j]?
  | [], j => by simp [wipeD]
  | v :: vs, j => by
    have hlen : ∀ ws : List Nat, (wipeD σ ws).length = σ.length := fun ws => by
      induction ws with
      | nil => rfl
      | cons w ws ih => rw [wipeD, List.length_set, ih]
    rw [wipeD]
    by_cases hv : v = j
    · subst hv
      by_cases hl : v < σ.length
      · rw [List.getElem?_set_self (by rw [hlen]; exact hl), if_pos ⟨by simp, hl⟩]
      · rw [List.getElem?_eq_none (by rw [List.length_set, hlen]; omega), if_neg (fun z => hl z.2), List.getElem?_eq_none (by omega)]
    · rw [List.getElem?_set_ne hv, wipeD_get σ vs j]
      have e : (j ∈ v :: vs ∧ j < σ.length) ↔ (j ∈ vs ∧ j < σ.length) := by
        simp only [List.mem_cons]
        constructor
        · rintro ⟨h | h, h2⟩
          · exact absurd h.symm hv
          · exact ⟨h, h2⟩
        · rintro ⟨h, h2⟩
          exact ⟨.inr h, h2⟩
      by_cases hc : j ∈ vs ∧ j < σ.length
      · rw [if_pos hc, if_pos (e.mpr hc)]
      · rw [if_neg hc, if_neg (fun z => hc (e.mp z))]
theorem wipeD_length (σ : Sg) : ∀ vs : List Nat, (wipeD σ vs).length = σ.length
  | [] => rfl
  | v :: vs => by rw [wipeD, List.length_set, wipeD_length σ vs]
theorem RSg.wipe {K : K'} {m : List Addr} {H : L2.Hp} {σd : Sg} {σ : L2.St} (g : RSg K m H σd σ) (vs : List Nat) : RSg K m H (wipeD σd vs) (L2.wipe σ vs) := by
  refine ⟨by rw [wipeD_length, L2.wipe_length, g.1], fun i d h => ?_⟩
  rw [wipeD_get] at h
  split at h
  · cases h
  · rename_i hc
    obtain ⟨v, e, q⟩ := g.2 i d h
    refine ⟨v, ?_, q⟩
    rw [wipe_get, if_neg (by rw [← g.1]; exact hc)]
    exact e
mutual
/-- a target's slots -/
def tgIn (own : List Nat) : Tg → Bool
  | .nm i => decide (i ∈ own)
  | .tp ts => tgsIn own ts
def tgsIn (own : List Nat) : Tgs → Bool
  | .nil => true
  | .cons t ts => tgIn own t && tgsIn own ts
end
/-- a store into slots that are wiped: the wiped state is as before -/
theorem wipe_set {σ : L2.St} {own : List Nat} {i : Nat} {v : L2.V} (h : i ∈ own) : L2.wipe (σ.set i (some v)) own = L2.wipe σ own := by
  refine List.ext_getElem? fun j => ?_
  rw [wipe_get, wipe_get, List.length_set]
  split
  · rfl
  · rename_i hc
    by_cases hij : i = j
    · subst hij
      have hl : ¬ i < σ.length := fun z => hc ⟨h, z⟩
      rw [List.getElem?_eq_none (by rw [List.length_set]; omega), List.getElem?_eq_none (by omega)]
    · rw [List.getElem?_set_ne hij]
mutual
theorem gR_ok2 {K : K'} {m : List Addr} {H : L2.Hp} {own : List Nat} {ω : L2.St} : ∀ (t : Tg) {d : D} {v : L2.V} {σd σd' : Sg} {σ : L2.St} {Q : L2.St → L2.Hp → Prop}, tgIn own t = true → L2.wipe σ own = ω → RSg K m H σd σ → RD K m H d v → gA t d σd = some σd' →
    (∀ σ', L2.wipe σ' own = ω → RSg K m H σd' σ' → Q σ' H) → gR K t v σ H Q
  | .nm i, d, v, σd, σd', σ, Q, hi, hw, g, q, h, k => by
    rw [gA] at h
    cases h
    rw [gR]
    rw [tgIn] at hi
    exact k _ (by rw [wipe_set (of_decide_eq_true hi)]; exact hw) (g.set q)
  | .tp ts, .tup ds, v, σd, σd', σ, Q, hi, hw, g, q, h, k => by
    rw [gA] at h
    obtain ⟨a, vs, rfl, h1, h2⟩ := q
    rw [gR]
    rw [tgIn] at hi
    exact ⟨a, vs, rfl, h1, by rw [← h2.length, len_gAs h], gRs_ok2 ts hi hw g h2 h k⟩
  | .tp ts, .non, v, σd, σd', σ, Q, hi, hw, g, q, h, k => by simp [gA] at h
  | .tp ts, .bl _, v, σd, σd', σ, Q, hi, hw, g, q, h, k => by simp [gA] at h
  | .tp ts, .int _, v, σd, σd', σ, Q, hi, hw, g, q, h, k => by simp [gA] at h
  | .tp ts, .str _, v, σd, σd', σ, Q, hi, hw, g, q, h, k => by simp [gA] at h
  | .tp ts, .ref _, v, σd, σd', σ, Q, hi, hw, g, q, h, k => by simp [gA] at h
theorem gRs_ok2 {K : K'} {m : List Addr} {H : L2.Hp} {own : List Nat} {ω : L2.St} : ∀ (ts : Tgs) {ds : List D} {vs : List L2.V} {σd σd' : Sg} {σ : L2.St} {Q : L2.St → L2.Hp → Prop}, tgsIn own ts = true → L2.wipe σ own = ω → RSg K m H σd σ → RDs K m H ds vs → gAs ts ds σd = some σd' →
    (∀ σ', L2.wipe σ' own = ω → RSg K m H σd' σ' → Q σ' H) → gRs K ts vs σ H Q
  | .nil, [], vs, σd, σd', σ, Q, hi, hw, g, q, h, k => by
    have e : vs = [] := q
    have e2 : σd = σd' := by simpa [gAs] using h
    rw [gRs]
    exact ⟨e, k _ hw (e2 ▸ g)⟩
  | .nil, d :: ds, vs, σd, σd', σ, Q, hi, hw, g, q, h, k => by simp [gAs] at h
  | .cons t ts, [], vs, σd, σd', σ, Q, hi, hw, g, q, h, k => by simp [gAs] at h
  | .cons t ts, d :: ds, vs, σd, σd', σ, Q, hi, hw, g, q, h, k => by
    rw [gAs] at h
    obtain ⟨v, r, rfl, q1, q2⟩ := q
    rw [tgsIn, Bool.and_eq_true] at hi
    cases e : gA t d σd with
    | none => rw [e] at h; cases h
    | some σ1 =>
      rw [e] at h
      rw [gRs]
      exact ⟨v, r, rfl, gR_ok2 t hi.1 hw g q1 e fun σ' hw' g' => gRs_ok2 ts hi.2 hw' g' q2 h k⟩
end
theorem wipe_wipe (σ : L2.St) (vs : List Nat) : L2.wipe (L2.wipe σ vs) vs = L2.wipe σ vs := by
  refine List.ext_getElem? fun j => ?_
  rw [wipe_get, wipe_get, L2.wipe_length]
  split <;> rfl
theorem lc_ok {K : K'} {m : List Addr} {S : St} {H : L2.Hp} {σd : Sg} {σ : L2.St} {J : L2.It} {G : St → Prop} {tg : Tg} {own : List Nat} {tt : Sg → St → (Bool → St → Prop) → Prop} {te : Sg → St → QD → Prop} {ttR : L2.TT} {teR : L2.TE} {xs : List D} {Q : L2.VK}
    (mt : MonoE tt) (me : MonoE te) (r : RS K m S H) (g : RSg K m H σd σ) (hJ : JOk K m S H J G xs) (htg : tgIn own tg = true) (hn : xs.length < sizeLine)
    (ht : ∀ σ H Q, liftT K tt σ H Q → ttR σ H Q) (he : ∀ σ H Q, liftE K te σ H Q → teR σ H Q)
    (h : lcW G tg tt te (wipeD σd own) xs [] S fun acc S2 => Po K m S H Q (.ref S2.length) (S2 ++ [.lst acc])) :
    ∀ Da, H Da = none → ∃ W : Nat → Nat → L2.Hp → Prop, (∃ m, W 0 m (L2.upd H Da (.lst []))) ∧ ∀ i m H, W i m H →
      (J.stop i H ∧ Q (.ref Da) H) ∨ (J.go i H ∧ ∃ Nx : L2.Hp → Prop, (∀ H', Nx H' → ∃ m', m' < m ∧ W (i + 1) m' H') ∧ ∀ x H', J.yld i H x H' → gR K tg x (L2.wipe σ own) H' fun σ2 H2 => L2.wipe σ2 own = L2.wipe σ own ∧ ttR σ2 H2 fun b H3 =>
        if b = true then teR σ2 H3 fun y H4 => ∃ acc, H4 Da = some (.lst acc) ∧ acc.length < sizeLine ∧ Nx (L2.upd H4 Da (.lst (acc ++ [y]))) else Nx H3) := by
  intro Da hDa
  -- the state at a turn
  let St1 : Nat → L2.Hp → Prop := fun i H' => ∃ m' S' acc vs, Xt m S H m' S' H' ∧ RS K m' S' H' ∧ H' Da = some (.lst vs) ∧ ¬ Wr m' S' Da ∧ RDs K m' H' acc vs ∧ acc.length ≤ i ∧
    lcW G tg tt te (wipeD σd own) (xs.drop i) acc S' fun acc S2 => Po K m S H Q (.ref S2.length) (S2 ++ [.lst acc])
  have nw0 : ¬ Wr m S Da := fun w => by
    obtain ⟨vs, e⟩ := r.wr w
    rw [hDa] at e; cases e
  refine ⟨fun i n H' => n = xs.length - i ∧ i ≤ xs.length ∧ St1 i H', ⟨xs.length, by simp, Nat.zero_le _, ?_⟩, ?_⟩
  · obtain ⟨x0, r0⟩ := laid_any (o := .lst []) r hDa
    exact ⟨m, S, [], [], x0, r0, L2.upd_same, nw0, rfl, Nat.le_refl _, by simpa using h⟩
  rintro i n H1 ⟨rfl, hi, m1, S1, acc, vs, x1, r1, hD1, nw1, ha1, hl1, h1⟩
  by_cases hlt : i < xs.length
  · have e : xs.drop i = xs[i] :: xs.drop (i + 1) := List.drop_eq_getElem_cons hlt
    rw [e] at h1
    obtain ⟨hG, σd2, e2, h2⟩ := h1
    obtain ⟨hgo, _⟩ := hJ m1 S1 H1 x1 r1 hG
    obtain ⟨go, yld⟩ := hgo i xs[i] (List.getElem?_eq_getElem hlt)
    refine .inr ⟨go, St1 (i + 1), fun H' hN => ⟨xs.length - (i + 1), by omega, rfl, hlt, hN⟩, fun v H2 hy => ?_⟩
    obtain ⟨x2, r2, d2⟩ := yld v H2 hy
    have keepD : ∀ {m2 : List Addr} {S2 : St} {H2 : L2.Hp} {vs : List L2.V} {m3 : List Addr} {S3 : St} {H3 : L2.Hp}, Xt m2 S2 H2 m3 S3 H3 → H2 Da = some (.lst vs) → ¬ Wr m2 S2 Da → H3 Da = some (.lst vs) ∧ ¬ Wr m3 S3 Da := fun x hD nw =>
      ⟨x.keep _ _ hD nw, fun w => by
        rcases x.new _ w with z | z
        · exact nw z
        · rw [hD] at z; cases z⟩
    obtain ⟨hD2, nw2⟩ := keepD x2 hD1 nw1
    have gw : RSg K m1 H2 (wipeD σd own) (L2.wipe σ own) := (((g.keep r x1).keep r1 x2)).wipe own
    refine gR_ok2 tg htg (wipe_wipe σ own) gw d2 e2 fun σ3 hw3 g3 => ⟨hw3, ht _ _ _ (stepT mt r2 g3 h2 fun b S3 m3 H3 x3 r3 g3' h3 => ?_)⟩
    obtain ⟨hD3, nw3⟩ := keepD x3 hD2 nw2
    have ha3 : RDs K m3 H3 acc vs := ((ha1.keep r1 x2).keep r2 x3)
    have x13 := (x1.trans x2).trans x3
    cases b with
    | false =>
      rw [if_neg Bool.false_ne_true] at h3 ⊢
      exact ⟨m3, S3, acc, vs, x13, r3, hD3, nw3, ha3, by omega, h3⟩
    | true =>
      rw [if_pos rfl] at h3 ⊢
      refine he _ _ _ (stepE me r3 g3' h3 fun y S4 m4 H4 w x4 r4 g4 d4 h4 => ?_)
      obtain ⟨hD4, nw4⟩ := keepD x4 hD3 nw3
      have ha4 := ha3.keep r3 x4
      have x14 := x13.trans x4
      refine ⟨vs, hD4, by rw [← ha4.length]; omega, m4, S4, acc ++ [y], vs ++ [w], ?_, priv_put r4 hD4 nw4, L2.upd_same, nw4, ?_, by rw [List.length_append]; simp only [List.length_singleton]; omega, h4⟩
      · refine ⟨x14.pre, fun a o h nw => ?_, x14.new⟩
        rw [L2.upd_ne (L2.ne_of_none h hDa)]
        exact x14.keep a o h nw
      · exact (ha4.append (show RDs K m4 H4 [y] [w] from ⟨w, [], rfl, d4, rfl⟩)).keepG (fun _ _ z => sqT_priv hD4 z) fun _ _ z => z
  · have hi' : i = xs.length := by omega
    subst hi'
    rw [List.drop_length] at h1
    obtain ⟨hG, hq⟩ := h1
    obtain ⟨_, stop⟩ := hJ m1 S1 H1 x1 r1 hG
    obtain ⟨r5, d5, w5⟩ := adopt r1 hD1 nw1 ha1
    refine .inl ⟨stop, hq _ _ _ ?_ r5 d5⟩
    obtain ⟨rr, e⟩ := x1.pre
    refine ⟨⟨rr ++ [Da], by rw [e, List.append_assoc]⟩, x1.keep, fun a w => ?_⟩
    rcases w5 a w with w | rfl
    · exact x1.new a w
    · exact .inr hDa
end Flx

end
section
set_option Elab.async false
set_option linter.all false
set_option maxRecDepth 100000
set_option autoImplicit false
/-! FlxIter: what is walked. -/
namespace Flx
open PySem PySem.Spec PyProof.Rows
section
variable {K : K'} {m : List Addr} {S : St} {H : L2.Hp}
theorem still_read {x : D} {v : L2.V} {xs : List D} {m' : List Addr} {S' : St} {H' : L2.Hp} (r : RS K m S H) (d : RD K m H x v) (x1 : Xt m S H m' S' H') (r1 : RS K m' S' H') (g : still x xs S') :
    ∃ a vs, v = .ref a ∧ (L2.SqL K H' a vs ∨ L2.SqT K H' a vs) ∧ RDs K m' H' xs vs := items_read r1 g (d.keep r x1)
/-- a list's protocol -/
theorem jok_list {n : Nat} {a : Addr} {xs : List D} (r : RS K m S H) (d : RD K m H (.ref n) (.ref a)) : JOk K m S H (L2.Itl K a) (still (.ref n) xs) xs := by
  intro m' S' H' x1 r1 g
  obtain ⟨a', vs, e, h1, h2⟩ := seq_read r1 (show seqOf S' n = some xs from g) (d.keep r x1)
  cases e
  refine ⟨fun i y hy => ?_, ⟨vs, h1, by rw [h2.length]; exact Nat.le_refl _⟩⟩
  obtain ⟨w, hw, dw⟩ := h2.get hy
  refine ⟨⟨vs, w, h1, hw⟩, fun u H2 hy2 => ?_⟩
  obtain ⟨rfl, q⟩ := hy2
  have e2 : some w = some u := hw.symm.trans (q vs h1)
  cases e2
  exact ⟨.refl, r1, dw⟩
theorem jok_tup {a : Addr} {xs : List D} {G : St → Prop} (r : RS K m S H) (d : RD K m H (.tup xs) (.ref a)) : JOk K m S H (L2.Itt K a) G xs := by
  intro m' S' H' x1 r1 g
  obtain ⟨a', vs, e, h1, h2⟩ := d.keep r x1
  cases e
  refine ⟨fun i y hy => ?_, ⟨vs, h1, by rw [h2.length]; exact Nat.le_refl _⟩⟩
  obtain ⟨w, hw, dw⟩ := h2.get hy
  refine ⟨⟨vs, w, h1, hw⟩, fun u H2 hy2 => ?_⟩
  obtain ⟨rfl, q⟩ := hy2
  have e2 : some w = some u := hw.symm.trans (q vs h1)
  cases e2
  exact ⟨.refl, r1, dw⟩
theorem jok_rng {a b : Int} {G : St → Prop} : JOk K m S H (L2.Itr a (b - a).toNat) G (rgD a b) := by
  intro m' S' H' x1 r1 g
  have hl : (rgD a b).length = (b - a).toNat := by unfold rgD; rw [List.length_map, List.length_range]
  refine ⟨fun i y hy => ?_, by rw [hl]; exact Nat.le_refl _⟩
  have hi : i < (b - a).toNat := by rw [← hl]; exact (List.getElem?_eq_some_iff.mp hy).1
  have e : y = .int (a + (i : Nat)) := by
    unfold rgD at hy
    rw [List.getElem?_map, List.getElem?_range hi] at hy
    exact (Option.some.inj hy).symm
  subst e
  refine ⟨hi, fun u H2 hy2 => ?_⟩
  obtain ⟨rfl, rfl⟩ := hy2
  exact ⟨.refl, r1, rfl⟩
theorem jok_rgd {a b : Int} {G : St → Prop} : JOk K m S H (L2.Itc a (-1) (a - b).toNat) G (rgdD a b) := by
  intro m' S' H' x1 r1 g
  have hl : (rgdD a b).length = (a - b).toNat := by unfold rgdD; rw [List.length_map, List.length_range]
  refine ⟨fun i y hy => ?_, by rw [hl]; exact Nat.le_refl _⟩
  have hi : i < (a - b).toNat := by rw [← hl]; exact (List.getElem?_eq_some_iff.mp hy).1
  have e : y = .int (a - (i : Nat)) := by
    unfold rgdD at hy
    rw [List.getElem?_map, List.getElem?_range hi] at hy
    exact (Option.some.inj hy).symm
  subst e
  refine ⟨hi, fun u H2 hy2 => ?_⟩
  obtain ⟨rfl, rfl⟩ := hy2
  refine ⟨.refl, r1, ?_⟩
  show L2.V.int (a + (i : Nat) * -1) = L2.V.int (a - (i : Nat))
  congr 1
  omega
theorem jok_rev_list {n : Nat} {a : Addr} {xs : List D} {vs0 : List L2.V} (r : RS K m S H) (d : RD K m H (.ref n) (.ref a)) (h0 : RDs K m H xs vs0) : JOk K m S H (L2.Itv K a vs0.length) (still (.ref n) xs) xs.reverse := by
  intro m' S' H' x1 r1 g
  obtain ⟨a', vs, e, h1, h2⟩ := seq_read r1 (show seqOf S' n = some xs from g) (d.keep r x1)
  cases e
  have hl : vs0.length = vs.length := by rw [← h0.length, h2.length]
  refine ⟨fun i y hy => ?_, by rw [List.length_reverse, h0.length]; exact Nat.le_refl _⟩
  have hi : i < xs.length := by
    have := (List.getElem?_eq_some_iff.mp hy).1
    simpa using this
  rw [List.getElem?_reverse hi] at hy
  obtain ⟨w, hw, dw⟩ := h2.get hy
  rw [h2.length, ← hl] at hw
  refine ⟨⟨by rw [hl, ← h2.length]; exact hi, vs, w, h1, hw⟩, fun u H2 hy2 => ?_⟩
  obtain ⟨rfl, q⟩ := hy2
  have e2 : some w = some u := hw.symm.trans (q vs h1)
  cases e2
  exact ⟨.refl, r1, dw⟩
theorem jok_rev_tup {a : Addr} {xs : List D} {vs0 : List L2.V} {G : St → Prop} (r : RS K m S H) (d : RD K m H (.tup xs) (.ref a)) (h0 : RDs K m H xs vs0) : JOk K m S H (RT.ItvT K a vs0.length) G xs.reverse := by
  intro m' S' H' x1 r1 g
  obtain ⟨a', vs, e, h1, h2⟩ := d.keep r x1
  cases e
  have hl : vs0.length = vs.length := by rw [← h0.length, h2.length]
  refine ⟨fun i y hy => ?_, by rw [List.length_reverse, h0.length]; exact Nat.le_refl _⟩
  have hi : i < xs.length := by
    have := (List.getElem?_eq_some_iff.mp hy).1
    simpa using this
  rw [List.getElem?_reverse hi] at hy
  obtain ⟨w, hw, dw⟩ := h2.get hy
  rw [h2.length, ← hl] at hw
  refine ⟨⟨by rw [hl, ← h2.length]; exact hi, vs, w, h1, hw⟩, fun u H2 hy2 => ?_⟩
  obtain ⟨rfl, q⟩ := hy2
  have e2 : some w = some u := hw.symm.trans (q vs h1)
  cases e2
  exact ⟨.refl, r1, dw⟩
/-- a pair that a walk hands out, in a new tuple -/
theorem pair_new {p : Addr} {a b : D} {v u : L2.V} (r : RS K m S H) (hp : H p = none) (d1 : RD K m H a v) (d2 : RD K m H b u) :
    Xt m S H m S (L2.upd H p (.tup [v, u])) ∧ RS K m S (L2.upd H p (.tup [v, u])) ∧ RD K m (L2.upd H p (.tup [v, u])) (.tup [a, b]) (.ref p) :=
  laid_tup r hp ⟨v, _, rfl, d1, u, _, rfl, d2, rfl⟩
theorem jok_enum {n : Nat} {a : Addr} {xs : List D} (r : RS K m S H) (d : RD K m H (.ref n) (.ref a)) :
    JOk K m S H (L2.Ite K a) (still (.ref n) xs) ((List.range xs.length).zipWith (fun i d => D.tup [.int (i : Nat), d]) xs) := by
  intro m' S' H' x1 r1 g
  obtain ⟨a', vs, e, h1, h2⟩ := seq_read r1 (show seqOf S' n = some xs from g) (d.keep r x1)
  cases e
  refine ⟨fun i y hy => ?_, ⟨vs, h1, by rw [← h2.length]; simp⟩⟩
  rw [List.getElem?_zipWith] at hy
  cases e1 : xs[i]? with
  | none => rw [e1] at hy; cases q : (List.range xs.length)[i]? <;> rw [q] at hy <;> cases hy
  | some x =>
    have hi : i < xs.length := (List.getElem?_eq_some_iff.mp e1).1
    rw [e1, List.getElem?_range hi] at hy
    have e2 : D.tup [.int (i : Nat), x] = y := Option.some.inj hy
    subst e2
    obtain ⟨w, hw, dw⟩ := h2.get e1
    refine ⟨⟨vs, w, h1, hw⟩, fun u H2 hy2 => ?_⟩
    obtain ⟨T, z, rfl, hT, rfl, q⟩ := hy2
    have e3 : some w = some z := hw.symm.trans (q vs h1)
    cases e3
    exact pair_new r1 hT rfl dw
end
/-- a list or a tuple, walked -/
def iAny (K : K') (tl : L2.TE) : L2.TI := fun σ H R => tl σ H fun x H1 => ∃ a, x = .ref a ∧ ((∃ xs, L2.SqL K H1 a xs ∧ R (L2.Itl K a) H1) ∨ ∃ xs, L2.SqT K H1 a xs ∧ R (L2.Itt K a) H1)
theorem pi_any {X : L2.Cx} {tg l : Expr} {tl : L2.TE} (hl : L2.PE X l tl) : L2.PI X tg l (iAny X.K tl) := by
  constructor
  intro pins s σ H R I h
  refine L2.thn (hl.run pins s σ H _ I h) ?_
  rintro v s1 ⟨x, H1, I1, r1, a, rfl, q1⟩
  obtain rfl : v = Value.ref a := r1
  have hN : H1 s1.heap.objs.size = none := I1.hok.fresh (Nat.le_refl _)
  have fin : ∀ (J : L2.It) (tn : Nat → Heap → Prop) (o : Obj), L2.Turn X.prog X.w X.K tg J [s1.heap.objs.size] s1.heap.objs.size tn → tn 0 (s1.heap.push o) → R J H1 →
      L2.PIE X pins σ tg R (.ref s1.heap.objs.size) { s1 with heap := s1.heap.push o } := fun J tn o T t0 q =>
    ⟨_, _, tn, J, H1, rfl, I1.kept (t' := s1.toks) fun b o e => Heap.get?_push_of_some _ e, T, t0, fun b hb => by
      rw [List.mem_singleton.mp hb]
      exact I1.fpOk (Nat.le_refl _) hN, q⟩
  rcases q1 with ⟨xs, hq, q⟩ | ⟨xs, hq, q⟩
  · obtain ⟨its, _, p, _⟩ := I1.list hq
    exact wpAny_pyIter_list p.isList (fin _ _ _ (L2.turn_list a _) ⟨_, Heap.get?_push_size _ rfl, rfl, rfl⟩ q)
  · obtain ⟨its, _, p, _⟩ := I1.tuple hq
    exact wpAny_pyIter_tuple (show s1.heap.IsTuple a its.toArray from p) (fin _ _ _ (L2.turn_tuple a _) ⟨_, Heap.get?_push_size _ rfl, rfl, rfl⟩ q)
end Flx

end
section
set_option Elab.async false
set_option linter.all false
set_option maxRecDepth 100000
set_option autoImplicit false
/-! FlxZip: zip of two things, each a list or a tuple. -/
namespace Flx
open PySem PySem.Spec PyProof.Rows
/-- an iterator over a list (true), over a tuple (false) -/
def Ik (c : Bool) (h : Heap) (it l : Addr) (i : Nat) : Prop := if c = true then h.IsListIter it l i else h.IsTupleIter it l i
def Qk (c : Bool) (h : Heap) (l : Addr) (xs : Array Value) : Prop := if c = true then h.IsList l xs else h.IsTuple l xs
def Hk (c : Bool) (K : K') (H : L2.Hp) (a : Addr) (vs : List L2.V) : Prop := if c = true then L2.SqL K H a vs else L2.SqT K H a vs
theorem Hk.plain {c : Bool} {X : L2.Cx} {pins : List (Addr × Obj)} {σ : L2.St} {H : L2.Hp} {s : Shared} {a : Addr} {vs : List L2.V} (I : L2.Inv X pins σ H s) (h : Hk c X.K H a vs) :
    ∃ its : List Value, L2.Vals vs its ∧ Qk c s.heap a its.toArray ∧ a < s.heap.objs.size := by
  cases c with
  | true =>
    obtain ⟨its, r, p, _⟩ := I.list h
    exact ⟨its, r, p.isList, p.lt⟩
  | false =>
    obtain ⟨its, r, p, _⟩ := I.tuple h
    exact ⟨its, r, p, p.lt⟩
theorem Hk.same {c : Bool} {X : L2.Cx} {pins : List (Addr × Obj)} {σ : L2.St} {H : L2.Hp} {s : Shared} {a : Addr} {vs us : List L2.V} (I : L2.Inv X pins σ H s) (h : Hk c X.K H a vs) (h' : Hk c X.K H a us) : vs = us := by
  cases c with
  | true => exact I.list_inj h h'
  | false => exact I.tuple_inj h h'
theorem Ik.move {c : Bool} {h h' : Heap} {it l : Addr} {i : Nat} (x : Ik c h it l i) (k : ∀ o, h.get? it = some o → h'.get? it = some o) : Ik c h' it l i := by
  cases c with
  | true => exact Heap.IsListIter.at x k
  | false => exact Heap.IsTupleIter.at x k
theorem Ik.obj {c : Bool} {h : Heap} {it l : Addr} {i : Nat} (x : Ik c h it l i) : ∃ o, h.get? it = some o ∧ ∀ v, o.data ≠ .cell v := by
  cases c with
  | true => obtain ⟨o, e, _, d⟩ := x; exact ⟨o, e, fun v z => by rw [d] at z; cases z⟩
  | false => obtain ⟨o, e, _, d⟩ := x; exact ⟨o, e, fun v z => by rw [d] at z; cases z⟩
theorem Ik.ne {c : Bool} {h : Heap} {it l : Addr} {i : Nat} {its : Array Value} (x : Ik c h it l i) (y : Qk c h l its) : l ≠ it := fun e => by
  subst e
  cases c with
  | true =>
    obtain ⟨o1, e1, c1, _⟩ := x
    obtain ⟨o2, e2, c2, _⟩ := y
    rw [e1] at e2; cases e2
    rw [c1] at c2
    injection c2 with c3
    exact absurd c3 (by decide)
  | false =>
    obtain ⟨o1, e1, c1, _⟩ := x
    obtain ⟨o2, e2, c2, _⟩ := y
    rw [e1] at e2; cases e2
    rw [c1] at c2
    injection c2 with c3
    exact absurd c3 (by decide)
theorem drawsK {prog : Program} {w : World} {A : Around} (c : Bool) (hh : A.handled = none) (it l : Addr) (hne : l ≠ it) (items : Array Value) :
    Draws prog w A it [it, l] items.size (fun i v => items[i]? = some v) (fun i h => Ik c h it l i ∧ Qk c h l items) := by
  cases c with
  | true => exact Draws.list hh it l hne items
  | false => exact Draws.tuple hh it l hne items
def objK (c : Bool) (l : Addr) : Obj := if c = true then { cls := .type "list_iterator", data := .fields #[.ref l, .int 0 0] } else { cls := .type "tuple_iterator", data := .fields #[.ref l, .int 0 0] }
theorem beginsK (c : Bool) (l : Addr) (items : Array Value) : Begins (.ref l) (objK c l) (fun h => Qk c h l items) := by
  cases c with
  | true => exact begins_list l items
  | false => exact begins_tuple l items
theorem Ik.new {c : Bool} {h : Heap} {it l : Addr} (e : h.get? it = some (objK c l)) : Ik c h it l 0 := by
  cases c with
  | true => exact ⟨_, e, rfl, rfl⟩
  | false => exact ⟨_, e, rfl, rfl⟩
/-- pairs of what stands at a and at b -/
def ItP (c d : Bool) (K : K') (a b : Addr) : L2.It where
  go := fun i H => ∃ (xs ys : List L2.V) (x y : L2.V), Hk c K H a xs ∧ Hk d K H b ys ∧ xs[i]? = some x ∧ ys[i]? = some y
  yld := fun i H v H' => ∃ T x y, v = .ref T ∧ H T = none ∧ H' = L2.upd H T (.tup [x, y]) ∧ (∀ xs, Hk c K H a xs → xs[i]? = some x) ∧ ∀ ys, Hk d K H b ys → ys[i]? = some y
  stop := fun i H => ∃ xs ys : List L2.V, Hk c K H a xs ∧ Hk d K H b ys ∧ (xs.length = i ∨ ys.length = i) ∧ i ≤ xs.length ∧ i ≤ ys.length
theorem turn_pair {P : Program} {w : World} {K : K'} {elts : List Expr} {n : Nat} {tpos : Pos} {c d : Bool} {a b z p o i1 i2 : Addr} (S : ZipSep2 z p o i1 i2 [i1, a] [i2, b]) :
    L2.Turn P w K (.Tuple elts n tpos) (ItP c d K a b) [z, p, o, i1, i2] z
      (fun i h => IsZip h z p o .none ∧ IsTupOf2 h p (.ref i1) (.ref i2) ∧ (∃ x y, IsTupOf2 h o x y) ∧ Ik c h i1 a i ∧ Ik d h i2 b i) := by
  have five : ∀ {q : Addr}, q ∈ [z, p, o, i1, i2] → q = z ∨ q = p ∨ q = o ∨ q = i1 ∨ q = i2 := fun {q} h => by simpa using h
  constructor
  case mem => simp
  case obj =>
    rintro i h ⟨hz, hp, ⟨x, y, ho⟩, h1, h2⟩ q hq
    rcases five hq with rfl | rfl | rfl | rfl | rfl
    · exact ⟨_, hz, fun v e => nomatch e⟩
    · exact ⟨_, hp, fun v e => nomatch e⟩
    · exact ⟨_, ho, fun v e => nomatch e⟩
    · exact h1.obj
    · exact h2.obj
  case keep =>
    rintro i h h' ⟨hz, hp, ⟨x, y, ho⟩, h1, h2⟩ kk
    exact ⟨kk z (by simp) _ hz, kk p (by simp) _ hp, ⟨x, y, kk o (by simp) _ ho⟩, h1.move (kk i1 (by simp)), h2.move (kk i2 (by simp))⟩
  case self => exact fun A i s Q E st q => wpAny_pyIter_zip st.1 q
  case item =>
    intro X hP hw hK hc i pins s σ H E I hf st hg
    subst hP hw hK
    obtain ⟨hz, hp, ⟨x0, y0, ho⟩, h1, h2⟩ := st
    obtain ⟨xs, ys, x, y, hx, hy, ex, ey⟩ := hg
    obtain ⟨its, rv, q1, l1⟩ := hx.plain I
    obtain ⟨its2, rv2, q2, l2⟩ := hy.plain I
    obtain ⟨u, hu, ru⟩ := rv.get ex
    obtain ⟨u2, hu2, ru2⟩ := rv2.get ey
    have lt1 : i < its.toArray.size := by simpa using (List.getElem?_eq_some_iff.mp hu).1
    have lt2 : i < its2.toArray.size := by simpa using (List.getElem?_eq_some_iff.mp hu2).1
    have n1 : a ≠ i1 := h1.ne q1
    have n2 : b ≠ i2 := h2.ne q2
    have hh : X.A.in1.handled = none := I.ok.hd hc
    refine wpAny_pyNext_zipD2_item S (drawsK c hh i1 a n1 its.toArray) (drawsK d hh i2 b n2 its2.toArray) hz hp ho ⟨h1, q1⟩ ⟨h2, q2⟩ lt1 lt2 ?_
    intro w1 w2 h' tk e1 e2 z' o' k1 k2 hT hsz kk
    have e1' : u = w1 := by
      have t : its[i]? = some w1 := by simpa using e1
      rw [hu] at t; exact Option.some.inj t
    have e2' : u2 = w2 := by
      have t : its2[i]? = some w2 := by simpa using e2
      rw [hu2] at t; exact Option.some.inj t
    subst e1' e2'
    refine ⟨_, rfl, wpAny_letOwnedTupleGo_zip (s := { s with heap := h', toks := tk }) z' fun h2' z2 sb => ?_⟩
    have zl : z < s.heap.objs.size := Heap.lt_size hz
    have hT2 : h2'.get? s.heap.objs.size = some { cls := .type "tuple", data := .seq #[u, u2] } := (sb.2 _ (Nat.ne_of_gt zl)).trans hT
    have new : L2.ObjOk X.prog X.w (L2.upd H s.heap.objs.size (.tup [x, y])) h2' s.heap.objs.size (.tup [x, y]) := ⟨(by decide : 2 ≤ sizeLine), [u, u2], .cons ru (.cons ru2 .nil), ⟨_, hT2, rfl, _, rfl⟩⟩
    have old : ∀ q ob, q ∉ [z, p, o, i1, i2] → s.heap.get? q = some ob → h2'.get? q = some ob := fun q ob hq e => by
      simp only [List.mem_cons, List.not_mem_nil, or_false, not_or] at hq
      exact (sb.2 q hq.1).trans (kk q ob hq.1 hq.2.2.1 hq.2.2.2.1 hq.2.2.2.2 e)
    have I2 := I.turnedNew (h' := h2') (t' := tk) old hf (Nat.le_refl _) new
    refine ⟨.ref s.heap.objs.size, _, I2, rfl, ⟨_, x, y, rfl, I.hok.fresh (Nat.le_refl _), rfl, fun l hl => by rw [hl.same I hx]; exact ex, fun l hl => by rw [hl.same I hy]; exact ey⟩, ⟨z2, ?_, ⟨u, u2, ?_⟩, ?_, ?_⟩, fun q hq => ?_⟩
    · exact (sb.2 _ S.TIz).trans (kk _ _ S.TIz S.TITO S.TIi1 S.TIi2 hp)
    · exact (sb.2 _ S.TOz).trans o'
    · exact k1.1.move fun ob e => (sb.2 _ (Ne.symm S.zi1)).trans e
    · exact k2.1.move fun ob e => (sb.2 _ (Ne.symm S.zi2)).trans e
    · have ql : q < s.heap.objs.size := by
        rcases five hq with rfl | rfl | rfl | rfl | rfl
        · exact zl
        · exact Heap.lt_size hp
        · exact Heap.lt_size ho
        · obtain ⟨_, e, _⟩ := h1.obj; exact Heap.lt_size e
        · obtain ⟨_, e, _⟩ := h2.obj; exact Heap.lt_size e
      rw [L2.upd_ne (Nat.ne_of_lt ql)]
      exact (hf q hq).1
  case done =>
    intro X hP hw hK hc i pins s σ H E I hf st hg
    subst hP hw hK
    obtain ⟨hz, hp, ⟨x0, y0, ho⟩, h1, h2⟩ := st
    obtain ⟨xs, ys, hx, hy, hend, le1, le2⟩ := hg
    obtain ⟨its, rv, q1, l1⟩ := hx.plain I
    obtain ⟨its2, rv2, q2, l2⟩ := hy.plain I
    have n1 : a ≠ i1 := h1.ne q1
    have n2 : b ≠ i2 := h2.ne q2
    have hh : X.A.in1.handled = none := I.ok.hd hc
    have z1 := rv.length
    have z2 := rv2.length
    refine wpAny_pyNext_zipD2_end S (drawsK c hh i1 a n1 its.toArray) (drawsK d hh i2 b n2 its2.toArray) hz hp ho ⟨h1, q1⟩ ⟨h2, q2⟩ (by simp; omega) (by simp; omega) (by simp; omega) fun h' tk kk => ⟨rfl, ?_⟩
    refine I.turnedL (t' := tk) (ch := [z, p, o, i1, i2]) (fun q ob hq e => ?_) hf
    simp only [List.mem_cons, List.not_mem_nil, or_false, not_or] at hq
    exact kk q ob hq.1 hq.2.2.1 hq.2.2.2.1 hq.2.2.2.2 e
/-- zip(x, y) -/
def iZipG (K : K') (ta : L2.TA) : L2.TI := fun σ H R => ta σ H fun vs H1 => ∃ a b xs ys c d, vs = [.ref a, .ref b] ∧ Hk c K H1 a xs ∧ Hk d K H1 b ys ∧ R (ItP c d K a b) H1
theorem pi_zipG {X : L2.Cx} {e e2 : Expr} {ta : L2.TA} {p pos tpos : Pos} {elts : List Expr} {n : Nat} (hg : L2.Gl X "zip") (hm : X.mg "zip" = none) (ha : L2.PA X [e, e2] ta)
    (hs : starEach [e, e2] X.env = (false, eval e X.env) :: starEach [e2] X.env) (hpl : (backTo pos (starEach [e2] X.env)).any (·.1) = false) :
    L2.PI X (.Tuple elts n tpos) (.Call (.Name "zip" p) [e, e2] [] pos) (iZipG X.K ta) := by
  constructor
  intro pins s σ H R I h
  refine Call_ (L2.ld_blt I hg hm PyProof.Rows.boot_zip (PyProof.Rows.callWith_type1 (L2.thn (ha.run pos pins s σ H _ I h) ?_) hs hpl))
  rintro us s1 ⟨vs, H1, I1, r1, a, b, xs, ys, c, d, rfl, hx, hy, q⟩
  obtain ⟨u1, u2, rfl, e1, e2⟩ := L2.vals2 r1
  obtain rfl : u1 = Value.ref a := e1
  obtain rfl : u2 = Value.ref b := e2
  obtain ⟨its, _, p1, l1⟩ := hx.plain I1
  obtain ⟨its2, _, p2, l2⟩ := hy.plain I1
  refine zip_begins2 (beginsK c a its.toArray) (beginsK d b its2.toArray) p1 p2 fun h' hz hp ho g1 g2 hsz kk => wpAny_pyIter_zip hz ?_
  have sep : ZipSep2 (s1.heap.objs.size + 4) (s1.heap.objs.size + 2) (s1.heap.objs.size + 3) s1.heap.objs.size (s1.heap.objs.size + 1) [s1.heap.objs.size, a] [s1.heap.objs.size + 1, b] :=
    zip_sep2 (fun q hq => by rw [List.mem_singleton.mp hq]; exact l1) (fun q hq => by rw [List.mem_singleton.mp hq]; exact l2)
  refine ⟨s1.heap.objs.size + 4, _, _, _, H1, rfl, I1.kept (t' := s1.toks) kk, turn_pair sep, ⟨hz, hp, ⟨_, _, ho⟩, .new g1, .new g2⟩, fun q hq => ?_, q⟩
  have hle : s1.heap.objs.size ≤ q := by
    have hq' : q = s1.heap.objs.size + 4 ∨ q = s1.heap.objs.size + 2 ∨ q = s1.heap.objs.size + 3 ∨ q = s1.heap.objs.size ∨ q = s1.heap.objs.size + 1 := by simpa using hq
    rcases hq' with z | z | z | z | z <;> rw [z]
    · exact Nat.le_add_right _ _
    · exact Nat.le_add_right _ _
    · exact Nat.le_add_right _ _
    · exact Nat.le_refl _
    · exact Nat.le_add_right _ _
  exact I1.fpOk hle (I1.hok.fresh hle)
section
variable {K : K'} {m : List Addr} {S : St} {H : L2.Hp}
theorem hk_of (r : RS K m S H) {x : D} {xs : List D} {v : L2.V} (h : itemsOf S x = some xs) (d : RD K m H x v) :
    ∃ c a vs, v = .ref a ∧ Hk c K H a vs ∧ RDs K m H xs vs ∧ ∀ m' S' H', Xt m S H m' S' H' → RS K m' S' H' → still x xs S' → ∃ us, Hk c K H' a us ∧ RDs K m' H' xs us := by
  cases x with
  | tup ys =>
    cases h
    obtain ⟨a, vs, rfl, h1, h2⟩ := id d
    refine ⟨false, a, vs, rfl, h1, h2, fun m' S' H' x1 r1 g => ?_⟩
    obtain ⟨a', us, e, h3, h4⟩ := d.keep r x1
    cases e
    exact ⟨us, h3, h4⟩
  | ref n =>
    obtain ⟨a, vs, rfl, h1, h2⟩ := seq_read r h d
    refine ⟨true, a, vs, rfl, h1, h2, fun m' S' H' x1 r1 g => ?_⟩
    obtain ⟨a', us, e, h3, h4⟩ := seq_read r1 (show seqOf S' n = some xs from g) (d.keep r x1)
    cases e
    exact ⟨us, h3, h4⟩
  | _ => cases h
theorem jok_zip {a b : Addr} {c d : Bool} {x y : D} {xs ys : List D}
    (k1 : ∀ m' S' H', Xt m S H m' S' H' → RS K m' S' H' → still x xs S' → ∃ us, Hk c K H' a us ∧ RDs K m' H' xs us) (k2 : ∀ m' S' H', Xt m S H m' S' H' → RS K m' S' H' → still y ys S' → ∃ us, Hk d K H' b us ∧ RDs K m' H' ys us) :
    JOk K m S H (ItP c d K a b) (fun S' => still x xs S' ∧ still y ys S') (List.zipWith (fun e f => D.tup [e, f]) xs ys) := by
  intro m' S' H' x1 r1 g
  obtain ⟨us, h1, h2⟩ := k1 m' S' H' x1 r1 g.1
  obtain ⟨ws, h3, h4⟩ := k2 m' S' H' x1 r1 g.2
  have l1 := h2.length
  have l2 := h4.length
  refine ⟨fun i t ht => ?_, ⟨us, ws, h1, h3, by rw [List.length_zipWith]; omega, by rw [List.length_zipWith]; omega, by rw [List.length_zipWith]; omega⟩⟩
  rw [List.getElem?_zipWith] at ht
  cases e1 : xs[i]? with
  | none => rw [e1] at ht; cases ht
  | some e =>
    cases e2 : ys[i]? with
    | none => rw [e1, e2] at ht; cases ht
    | some f =>
      rw [e1, e2] at ht
      have e3 : D.tup [e, f] = t := Option.some.inj ht
      subst e3
      obtain ⟨v, hv, dv⟩ := h2.get e1
      obtain ⟨u, hu, du⟩ := h4.get e2
      refine ⟨⟨us, ws, v, u, h1, h3, hv, hu⟩, fun q H2 hq => ?_⟩
      obtain ⟨p, v', u', rfl, hp, rfl, q1, q2⟩ := hq
      have e4 : some v = some v' := hv.symm.trans (q1 us h1)
      have e5 : some u = some u' := hu.symm.trans (q2 ws h3)
      cases e4; cases e5
      exact pair_new r1 hp dv du
end
end Flx

end
section
set_option Elab.async false
set_option linter.all false
set_option maxRecDepth 100000
set_option autoImplicit false
/-! FlxEnum: enumerate of a list or a tuple. -/
namespace Flx
open PySem PySem.Spec PyProof.Rows
set_option maxHeartbeats 1000000 in
theorem meets_enum1 {v : Value} {o : Obj} {H : Heap → Prop} (B : Begins v o H) :
    Meets (Builtin.«enumerate.__new__» ⟨[.type "enumerate", v], []⟩) (fun _ R s => H s.heap ∧
      R (.ok (.ret (.ref (s.heap.push o).objs.size))) { s with heap := (s.heap.push o).push { cls := .type "enumerate", data := .fields #[.none, .bool false, .ref s.heap.objs.size, rawInt 0, .none, .none] } }) :=
  .of_wp fun prog w A R s h => by
    obtain ⟨hp, g, d, tk, os⟩ := s; obtain ⟨h1, h⟩ := h
    have hsub := sub_enumerate
    have q1 : ∀ {A' : Around} {E : Value → Shared → Prop} {Q : Value → Shared → Prop}, Q (.ref hp.objs.size) ⟨hp.push o, g, d, tk, os⟩ → wpAny (model prog w) A' (pyIter v) Q E ⟨hp, g, d, tk, os⟩ :=
      fun q => B.iter prog w _ _ ⟨hp, g, d, tk, os⟩ _ h1 q
    wp_walk using q1
    refine wpAny_stack_any fun st => wpAny_pure ?_
    split
    · rename_i c _ _ _ _ _
      cases (c == Value.type "enumerate")
      · wp_walk using q1
        exact ⟨_, rfl, h⟩
      · wp_walk using q1
        exact ⟨_, rfl, h⟩
    · wp_walk using q1
      exact ⟨_, rfl, h⟩
theorem enum_begins1 {prog : Program} {w : World} {A : Around} {E : Value → Shared → Prop} {s : Shared} {v : Value} {o : Obj} {H : Heap → Prop} {Q : Value → Shared → Prop} (B : Begins v o H) (h1 : H s.heap)
    (h : ∀ h', IsEnum h' (s.heap.objs.size + 1) s.heap.objs.size 0 .none → h'.get? s.heap.objs.size = some o → h'.objs.size = s.heap.objs.size + 2 →
      (∀ b o, s.heap.get? b = some o → h'.get? b = some o) → Q (.ref (s.heap.objs.size + 1)) { s with heap := h' }) :
    wpAny (model prog w) A (call (.type "enumerate") [v]) Q E s := by
  refine callType_new F.called_enumerate (by decide) (F.typeCall_enumerate_1 _) (F.newCall_enumerate_1 _) (fun obj => F.args_object_init_2 obj _) F.entry_enumerate_new (meets_enum1 B) ⟨h1, ?_⟩
  have hz : (s.heap.push o).objs.size = s.heap.objs.size + 1 := Heap.size_push ..
  show _ ∧ _
  rw [hz]
  have he : IsEnum ((s.heap.push o).push { cls := .type "enumerate", data := .fields #[.none, .bool false, .ref s.heap.objs.size, rawInt 0, .none, .none] }) (s.heap.objs.size + 1) s.heap.objs.size 0 .none := by
    have := Heap.get?_push_size (s.heap.push o) (o := { cls := .type "enumerate", data := .fields #[.none, .bool false, .ref s.heap.objs.size, rawInt 0, .none, .none] }) rfl
    rw [hz] at this; exact this
  refine ⟨⟨_, he, rfl⟩, h _ he (Heap.get?_push_of_some _ (Heap.get?_push_size _ B.free)) (by rw [Heap.size_push, hz]) fun b o x => Heap.get?_push_of_some _ (Heap.get?_push_of_some _ x)⟩
/-- numbered items of what stands at a -/
def ItE (c : Bool) (K : K') (a : Addr) : L2.It where
  go := fun i H => ∃ (xs : List L2.V) (x : L2.V), Hk c K H a xs ∧ xs[i]? = some x
  yld := fun i H v H' => ∃ T x, v = .ref T ∧ H T = none ∧ H' = L2.upd H T (.tup [.int (i : Nat), x]) ∧ ∀ xs, Hk c K H a xs → xs[i]? = some x
  stop := fun i H => ∃ xs : List L2.V, Hk c K H a xs ∧ xs.length = i
theorem turn_enumG {P : Program} {w : World} {K : K'} {elts : List Expr} {n : Nat} {tpos : Pos} {c : Bool} {a e it : Addr} (hne : e ≠ it) (hea : e ≠ a) :
    L2.Turn P w K (.Tuple elts n tpos) (ItE c K a) [e, it] e (fun i h => (∃ old, IsEnum h e it ((i : Nat) : Int) old) ∧ Ik c h it a i) := by
  have two : ∀ {q : Addr}, q ∈ [e, it] → q = e ∨ q = it := fun {q} h => by simpa using h
  constructor
  case mem => simp
  case obj =>
    rintro i h ⟨⟨old, he⟩, h1⟩ q hq
    rcases two hq with rfl | rfl
    · exact ⟨_, he, fun v e => nomatch e⟩
    · exact h1.obj
  case keep =>
    rintro i h h' ⟨⟨old, he⟩, h1⟩ kk
    exact ⟨⟨old, kk e (by simp) _ he⟩, h1.move (kk it (by simp))⟩
  case self => exact fun A i s Q E st q => let ⟨⟨_, he⟩, _⟩ := st; wpAny_pyIter_enum he q
  case item =>
    intro X hP hw hK hc i pins s σ H E I hf st hg
    subst hP hw hK
    obtain ⟨⟨old, he⟩, h1⟩ := st
    obtain ⟨xs, x, hx, ex⟩ := hg
    obtain ⟨its, rv, q1, l1⟩ := hx.plain I
    obtain ⟨u, hu, ru⟩ := rv.get ex
    have lt1 : i < its.toArray.size := by simpa using (List.getElem?_eq_some_iff.mp hu).1
    have n1 : a ≠ it := h1.ne q1
    have hh : X.A.in1.handled = none := I.ok.hd hc
    have hel : e < s.heap.objs.size := Heap.lt_size he
    have hil : it < s.heap.objs.size := by obtain ⟨_, e, _⟩ := h1.obj; exact Heap.lt_size e
    refine wpAny_pyNext_enum_itemD (drawsK c hh it a n1 its.toArray) he ⟨h1, q1⟩ lt1 hne (by simp [hne, hea]) ?_
    intro w1 h' tk e1 ho hst' hT hsz kk
    have e1' : u = w1 := by
      have t : its[i]? = some w1 := by simpa using e1
      rw [hu] at t; exact Option.some.inj t
    subst e1'
    refine ⟨_, rfl, wpAny_letOwnedTupleGo_enum (s := { s with heap := h', toks := tk + 1 }) ho fun h'' he' sb => ?_⟩
    have hT2 : h''.get? s.heap.objs.size = some { cls := .type "tuple", data := .seq #[.int i tk, u] } := (sb.2 _ (Nat.ne_of_gt hel)).trans hT
    have new : L2.ObjOk X.prog X.w (L2.upd H s.heap.objs.size (.tup [.int (i : Nat), x])) h'' s.heap.objs.size (.tup [.int (i : Nat), x]) :=
      ⟨by show 2 ≤ sizeLine; decide, [.int i tk, u], .cons ⟨_, rfl⟩ (.cons ru .nil), ⟨_, hT2, rfl, _, rfl⟩⟩
    have I1 := I.turnedNew (h' := h'') (t' := tk + 1) (ch := [e, it]) (fun b ob hb q => (sb.2 b (fun z => hb (by simp [z]))).trans (kk b ob (fun z => hb (by simp [z])) (fun z => hb (by simp [z])) q)) hf (Nat.le_refl _) new
    refine ⟨.ref s.heap.objs.size, _, I1, rfl, ⟨_, x, rfl, I.hok.fresh (Nat.le_refl _), rfl, fun ys hy => by rw [hy.same I hx]; exact ex⟩, ⟨⟨u, ?_⟩, hst'.1.move fun o q => (sb.2 it (Ne.symm hne)).trans q⟩, fun b hb => ?_⟩
    · have e1 : ((i + 1 : Nat) : Int) = (i : Int) + 1 := by omega
      rw [e1]; exact he'
    · have hb' : b < s.heap.objs.size := by
        rcases two hb with z | z
        · rw [z]; exact hel
        · rw [z]; exact hil
      rw [L2.upd_ne (Nat.ne_of_lt hb')]
      exact (hf b hb).1
  case done =>
    intro X hP hw hK hc i pins s σ H E I hf st hg
    subst hP hw hK
    obtain ⟨⟨old, he⟩, h1⟩ := st
    obtain ⟨xs, hx, hend⟩ := hg
    obtain ⟨its, rv, q1, l1⟩ := hx.plain I
    have n1 : a ≠ it := h1.ne q1
    have hh : X.A.in1.handled = none := I.ok.hd hc
    obtain ⟨f0, f1, f2, f3, f4, f5⟩ := hf it (by simp)
    have z1 := rv.length
    have hi : i = its.toArray.size := by simp; omega
    rw [hi] at h1
    exact wpAny_pyNext_enum_endD (drawsK c hh it a n1 its.toArray) he ⟨h1, q1⟩ fun h' eb => ⟨rfl, I.turned (t' := s.toks) (fun b o hb q => eb b o hb q) f0 f1 f3 f4 f5⟩
/-- enumerate(x) -/
def iEnmG (K : K') (ta : L2.TA) : L2.TI := fun σ H R => ta σ H fun vs H1 => ∃ a xs c, vs = [.ref a] ∧ Hk c K H1 a xs ∧ R (ItE c K a) H1
theorem pi_enumG {X : L2.Cx} {e : Expr} {ta : L2.TA} {p pos tpos : Pos} {elts : List Expr} {n : Nat} (hg : L2.Gl X "enumerate") (hm : X.mg "enumerate" = none) (ha : L2.PA X [e] ta) (hs : starEach [e] X.env = [(false, eval e X.env)]) :
    L2.PI X (.Tuple elts n tpos) (.Call (.Name "enumerate" p) [e] [] pos) (iEnmG X.K ta) := by
  constructor
  intro pins s σ H R I h
  refine Call_ (L2.ld_blt I hg hm PyProof.Rows.boot_enumerate (PyProof.Rows.callWith_type1 (L2.thn (ha.run pos pins s σ H _ I h) ?_) hs rfl))
  rintro us s1 ⟨vs, H1, I1, r1, a, xs, c, rfl, hx, q⟩
  obtain ⟨u1, rfl, e1⟩ := L2.vals1 r1
  obtain rfl : u1 = Value.ref a := e1
  obtain ⟨its, _, p1, l1⟩ := hx.plain I1
  refine enum_begins1 (beginsK c a its.toArray) p1 fun h' he g1 hsz kk => wpAny_pyIter_enum he ?_
  refine ⟨s1.heap.objs.size + 1, [s1.heap.objs.size + 1, s1.heap.objs.size], _, _, H1, rfl, I1.kept (t' := s1.toks) kk, turn_enumG (Nat.succ_ne_self _) (Nat.ne_of_gt (Nat.lt_succ_of_lt l1)), ⟨⟨.none, he⟩, .new g1⟩, fun q hq => ?_, q⟩
  have hle : s1.heap.objs.size ≤ q := by
    have hq' : q = s1.heap.objs.size + 1 ∨ q = s1.heap.objs.size := by simpa using hq
    rcases hq' with z | z <;> rw [z]
    · exact Nat.le_add_right _ _
    · exact Nat.le_refl _
  exact I1.fpOk hle (I1.hok.fresh hle)
section
variable {K : K'} {m : List Addr} {S : St} {H : L2.Hp}
theorem jok_enumG {a : Addr} {c : Bool} {x : D} {xs : List D}
    (k1 : ∀ m' S' H', Xt m S H m' S' H' → RS K m' S' H' → still x xs S' → ∃ us, Hk c K H' a us ∧ RDs K m' H' xs us) :
    JOk K m S H (ItE c K a) (still x xs) ((List.range xs.length).zipWith (fun i d => .tup [.int (i : Nat), d]) xs) := by
  intro m' S' H' x1 r1 g
  obtain ⟨us, h1, h2⟩ := k1 m' S' H' x1 r1 g
  have l1 := h2.length
  refine ⟨fun i t ht => ?_, ⟨us, h1, by rw [List.length_zipWith, List.length_range]; omega⟩⟩
  rw [List.getElem?_zipWith] at ht
  cases e1 : xs[i]? with
  | none =>
    rw [e1] at ht
    cases e2 : (List.range xs.length)[i]? with
    | none => rw [e2] at ht; cases ht
    | some j => rw [e2] at ht; cases ht
  | some e =>
    have hi := (List.getElem?_eq_some_iff.mp e1).1
    rw [e1, List.getElem?_range hi] at ht
    have e3 : D.tup [.int (i : Nat), e] = t := Option.some.inj ht
    subst e3
    obtain ⟨v, hv, dv⟩ := h2.get e1
    refine ⟨⟨us, v, h1, hv⟩, fun q H2 hq => ?_⟩
    obtain ⟨p, v', rfl, hp, rfl, q1⟩ := hq
    have e4 : some v = some v' := hv.symm.trans (q1 us h1)
    cases e4
    exact pair_new r1 hp (show RD K m' H' (.int (i : Nat)) (.int (i : Nat)) from rfl) dv
end
end Flx

end
section
set_option Elab.async false
set_option linter.all false
set_option maxRecDepth 100000
set_option autoImplicit false
/-! FlxChk: is this text of the pure language that text of Python? Looks by computation; facts of the forms. -/
namespace Flx
open PySem PySem.Spec PyProof.Rows

def visB (sc : Scope) (x : Str) : Bool :=
  match sc.names.lookup x with
  | some .local => true
  | some .cell => true
  | some .free => true
  | _ => false
def glB (sc : Scope) (x : Str) : Bool :=
  match sc.names.lookup x with
  | some .globalImplicit => true
  | _ => false
/-- may be stored to; fb: the names whose cells are this block's own -/
def locB (sc : Scope) (fb : Str → Bool) (x : Str) : Bool :=
  match sc.names.lookup x with
  | some .local => true
  | some .cell => fb x
  | _ => false
def isStar : Expr → Bool
  | .Starred _ _ => true
  | _ => false
def isSlice : Expr → Bool
  | .Slice _ _ _ _ => true
  | _ => false
def isSet : Expr → Bool
  | .Set _ _ _ => true
  | _ => false
def isCall : Expr → Bool
  | .Call _ _ _ _ => true
  | _ => false
/-- its test is its value's truth -/
def plainT : Expr → Bool
  | .UnaryOp .Not _ _ => false
  | .BoolOp _ _ _ => false
  | .IfExp _ _ _ _ => false
  | .Compare _ _ _ _ => false
  | _ => true
def dunder (x : Str) : Bool := x == ("__debug__" : Str) || x == ("__classdict__" : Str) || x == ("__name__" : Str)
def bltName : Blt → Str
  | .len => "len" | .abs => "abs" | .int => "int" | .max => "max" | .min => "min" | .sum => "sum"
  | .tuple => "tuple" | .list => "list" | .any => "any" | .all => "all" | .str => "str" | .sorted => "sorted"
def tyName : Ty → Str
  | .tuple => "tuple" | .list => "list" | .str => "str" | .int => "int" | .bool => "bool"
def mthName : Mth → Str
  | .append => "append" | .insert => "insert" | .pop => "pop"
def smthName : SMth → Str
  | .split => "split"
def builtins : List Str := ["len", "abs", "int", "max", "min", "sum", "tuple", "list", "any", "all", "str", "sorted", "bool", "isinstance", "range", "enumerate", "zip", "reversed"]

def isTp : Tg → Bool
  | .tp _ => true
  | .nm _ => false
section
variable (T : List FDef) (N : List Str)
mutual
def chkG (sc : Scope) (fb : Str → Bool) : Tg → Expr → Bool
  | .nm i, e => match e with
    | .Name x _ => decide (N[i]? = some x) && locB sc fb x
    | _ => false
  | .tp ts, e => match e with
    | .Tuple l _ _ => chkGs sc fb ts l
    | _ => false
def chkGs (sc : Scope) (fb : Str → Bool) : Tgs → List Expr → Bool
  | .nil, l => l.isEmpty
  | .cons t ts, l => match l with
    | e :: r => !isStar e && chkG sc fb t e && chkGs sc fb ts r
    | [] => false
end
mutual
def chkE (sc : Scope) : Ex → Expr → Bool
  | .var i, e => match e with
    | .Name x _ => decide (N[i]? = some x) && visB sc x && !dunder x
    | _ => false
  | .cint k, e => match e with
    | .Constant (.int j) _ _ => decide (k = j)
    | _ => false
  | .cstr k, e => match e with
    | .Constant (.str j) _ _ => decide (k = j)
    | _ => false
  | .cbl k, e => match e with
    | .Constant (.bool j) _ _ => k == j
    | _ => false
  | .cnon, e => match e with
    | .Constant .none _ _ => true
    | _ => false
  | .bin op a b, e => match e with
    | .BinOp x o y _ => decide (opOf op = o) && chkE sc a x && chkE sc b y
    | _ => false
  | .neg a, e => match e with
    | .UnaryOp .USub x _ => chkE sc a x
    | _ => false
  | .cmp op a b, e => match e with
    | .Compare x [o] [y] _ => decide (copOf op = o) && chkE sc a x && chkE sc b y && !isSet y
    | _ => false
  | .cmp2 op op' a b c, e => match e with
    | .Compare x [o, o'] [y, z] _ => decide (copOf op = o) && decide (copOf op' = o') && chkE sc a x && chkE sc b y && chkE sc c z && !isSet z
    | _ => false
  | .cmp3 op op' op2 a b c d, e => match e with
    | .Compare x [o, o', o2] [y, z, w] _ => decide (copOf op = o) && decide (copOf op' = o') && decide (copOf op2 = o2) && chkE sc a x && chkE sc b y && chkE sc c z && chkE sc d w && !isSet w
    | _ => false
  | .and a b, e => match e with
    | .BoolOp .And [x, y] _ => chkE sc a x && chkE sc b y
    | .BoolOp .And (x :: y :: z :: r) p => chkE sc a x && chkE sc b (.BoolOp .And (y :: z :: r) p)
    | _ => false
  | .or a b, e => match e with
    | .BoolOp .Or [x, y] _ => chkE sc a x && chkE sc b y
    | .BoolOp .Or (x :: y :: z :: r) p => chkE sc a x && chkE sc b (.BoolOp .Or (y :: z :: r) p)
    | _ => false
  | .not a, e => match e with
    | .UnaryOp .Not x _ => chkE sc a x
    | _ => false
  | .ite c a b, e => match e with
    | .IfExp x y z _ => chkE sc c x && chkT sc c x && chkE sc a y && chkE sc b z
    | _ => false
  | .tup es, e => match e with
    | .Tuple l _ _ => chkEs sc es l
    | _ => false
  | .lst es, e => match e with
    | .List l _ => chkEs sc es l
    | _ => false
  | .ix a b, e => match e with
    | .Subscript x y _ => chkE sc a x && chkE sc b y && !isSlice y
    | _ => false
  | .sl a lo hi, e => match e with
    | .Subscript x (.Slice l h none _) _ => chkE sc a x && chkO sc lo l && chkO sc hi h
    | _ => false
  | .call f es, e => match e with
    | .Call (.Name x _) l [] _ => (match T[f]? with | some fd => decide (fd.name = x) && decide (fd.np = l.length) | none => false) && glB sc x && !dunder x && !l.isEmpty && chkEs sc es l
    | _ => false
  | .blt f es, e => match e with
    | .Call (.Name x _) l [] _ => decide (bltName f = x) && glB sc x && !l.isEmpty && chkEs sc es l
    | _ => false
  | .isi a t, e => match e with
    | .Call (.Name x _) [y, .Name z _] [] _ => decide (("isinstance" : Str) = x) && glB sc x && decide (tyName t = z) && glB sc z && chkE sc a y && !isStar y
    | _ => false
  | .mth m o es, e => match e with
    | .Call (.Attribute x n ap) l [] cp => decide (mthName m = n) && chkE sc o x && !isCall x && (ap.endLine == cp.line) && decide (l.length < 20) && chkEs sc es l
    | _ => false
  | .smt m o a, e => match e with
    | .Call (.Attribute x n ap) [y] [] cp => decide (smthName m = n) && chkE sc o x && !isCall x && (ap.endLine == cp.line) && chkE sc a y && !isStar y
    | _ => false
  | .lrg es, e => match e with
    | .Call (.Name x _) [.Call (.Name y _) l [] _] [] _ => decide (("list" : Str) = x) && glB sc x && decide (("range" : Str) = y) && glB sc y && chkEs sc es l && (l.length == 1 || l.length == 2)
    | _ => false
  | .lc elt tg it ifs own, e => match e with
    | .ListComp y [⟨t, i, fs, 0⟩] scope _ => L2.blkC N sc scope (own.map fun j => (N.getD j "", j)) && tgIn own tg && chkG N (L2.relS scope sc) (fun x => scope.names.lookup x == some .cell) tg t &&
        chkI sc tg it i && !isSet i && chkC (L2.relS scope sc) ifs fs && chkE (L2.relS scope sc) elt y
    | _ => false
/-- as a test -/
def chkT (sc : Scope) : Ex → Expr → Bool
  | .and a b, e => match e with
    | .BoolOp .And [x, y] _ => chkT sc a x && chkT sc b y
    | .BoolOp .And (x :: y :: z :: r) p => chkT sc a x && chkT sc b (.BoolOp .And (y :: z :: r) p)
    | _ => false
  | .or a b, e => match e with
    | .BoolOp .Or [x, y] _ => chkT sc a x && chkT sc b y
    | .BoolOp .Or (x :: y :: z :: r) p => chkT sc a x && chkT sc b (.BoolOp .Or (y :: z :: r) p)
    | _ => false
  | .not a, e => match e with
    | .UnaryOp .Not x _ => chkT sc a x
    | _ => false
  | .cmp _ _ _, e => match e with
    | .Compare _ _ _ _ => true
    | _ => false
  | .cmp2 _ _ _ _ _, e => match e with
    | .Compare _ _ _ _ => true
    | _ => false
  | .cmp3 _ _ _ _ _ _ _, e => match e with
    | .Compare _ _ _ _ => true
    | _ => false
  | _, e => plainT e
def chkI (sc : Scope) (tg : Tg) : It → Expr → Bool
  | .seq x, e => chkE sc x e
  | .rng es, e => match e with
    | .Call (.Name y _) l [] _ => decide (("range" : Str) = y) && glB sc y && chkEs sc es l && (l.length == 1 || l.length == 2)
    | _ => false
  | .rgd a b, e => match e with
    | .Call (.Name y _) [u, v, .UnaryOp .USub (.Constant (.int 1) _ _) _] [] _ => decide (("range" : Str) = y) && glB sc y && chkE sc a u && !isStar u && chkE sc b v && !isStar v
    | _ => false
  | .enm x, e => match e with
    | .Call (.Name y _) [z] [] _ => decide (("enumerate" : Str) = y) && glB sc y && chkE sc x z && !isStar z && isTp tg
    | _ => false
  | .zip a b, e => match e with
    | .Call (.Name y _) [z, w] [] _ => decide (("zip" : Str) = y) && glB sc y && chkE sc a z && !isStar z && chkE sc b w && !isStar w && isTp tg
    | _ => false
  | .rev x, e => match e with
    | .Call (.Name y _) [z] [] _ => decide (("reversed" : Str) = y) && glB sc y && chkE sc x z && !isStar z
    | _ => false
def chkEs (sc : Scope) : Exs → List Expr → Bool
  | .nil, l => l.isEmpty
  | .cons x xs, l => match l with
    | e :: r => !isStar e && chkE sc x e && chkEs sc xs r
    | [] => false
def chkO (sc : Scope) : ExO → Option Expr → Bool
  | .none, o => o.isNone
  | .some x, o => match o with
    | some e => chkE sc x e
    | none => false
def chkC (sc : Scope) : Exs → List Expr → Bool
  | .nil, l => l.isEmpty
  | .cons x .nil, l => match l with
    | [e] => chkE sc x e && chkT sc x e
    | _ => false
  | .cons _ (.cons _ _), _ => false
end
/-- a stored value that is exchanged with the comprehension's variables -/
def swB (sc : Scope) (x : Str) (xp : Pos) : Expr → Bool
  | .ListComp _ _ scope p => (match sc.names.lookup x with | some .local => true | _ => false) && (xp.line == p.line) && !(scope.names.any fun (n, k) => n == x && (k == .local || k == .cell))
  | _ => false
def isComp : Expr → Bool
  | .ListComp _ _ _ _ => true
  | .SetComp _ _ _ _ => true
  | .DictComp _ _ _ _ _ => true
  | _ => false
def isLC : Expr → Bool
  | .ListComp _ _ _ _ => true
  | _ => false
def isTup : Expr → Bool
  | .Tuple _ _ _ => true
  | _ => false
/-- two or three plain local names of one line -/
def parB (N : List Str) (sc : Scope) : List Nat → List Expr → Bool
  | [i, j], [.Name x px, .Name y py] => decide (N[i]? = some x) && decide (N[j]? = some y) && !(i == j) && !(x == y) && (sc.names.lookup x == some .local) && (sc.names.lookup y == some .local) && (py.line == px.line)
  | [i, j, l], [.Name x px, .Name y py, .Name z pz] => decide (N[i]? = some x) && decide (N[j]? = some y) && decide (N[l]? = some z) && !(i == j) && !(i == l) && !(j == l) && !(x == y) && !(x == z) && !(y == z) && (sc.names.lookup x == some .local) && (sc.names.lookup y == some .local) && (sc.names.lookup z == some .local) && (py.line == px.line) && (pz.line == px.line)
  | _, _ => false
mutual
def chkS (sc : Scope) : Sm → Stmt → Bool
  | .set i x, s => match s with
    | .Assign [.Name y yp] e _ => decide (N[i]? = some y) && locB sc (fun _ => true) y && chkE T N sc x e && (!isComp e || isLC e)
    | _ => false
  | .setT ts x, s => match s with
    | .Assign [.Tuple l _ _] e _ => chkGs N sc (fun _ => true) ts l && chkE T N sc x e && !isComp e && !isTup e
    | _ => false
  | .par is es, s => match s with
    | .Assign [.Tuple l _ _] (.Tuple r _ _) _ => parB N sc is l && chkEs T N sc es r && decide (r.length = l.length) && !(r.all (foldedForSure 8)) && !(r.all (constantsAlone 8))
    | _ => false
  | .setIx o i x, s => match s with
    | .Assign [.Subscript y z _] e _ => chkE T N sc x e && !isComp e && chkE T N sc o y && chkE T N sc i z && !isSlice z
    | _ => false
  | .ex x, s => match s with
    | .Expr e _ => chkE T N sc x e && isCall e
    | _ => false
  | .ite c a b, s => match s with
    | .If x p q _ => chkE T N sc c x && chkT T N sc c x && chkSs sc a p && chkSs sc b q
    | _ => false
  | .for tg it b, s => match s with
    | .For t i p [] _ => chkG N sc (fun _ => true) tg t && chkI T N sc tg it i && !isSet i && chkSs sc b p
    | _ => false
  | .whl c b, s => match s with
    | .While x p [] _ => chkE T N sc c x && chkT T N sc c x && chkSs sc b p
    | _ => false
  | .ret x, s => match s with
    | .Return (some e) _ => chkE T N sc x e
    | _ => false
  | .retN, s => match s with
    | .Return none _ => true
    | _ => false
  | .brk, s => match s with
    | .Break _ => true
    | _ => false
  | .cnt, s => match s with
    | .Continue _ => true
    | _ => false
  | .pas, s => match s with
    | .Pass _ => true
    | _ => false
def chkSs (sc : Scope) : Sms → List Stmt → Bool
  | .nil, l => l.isEmpty
  | .cons x xs, l => match l with
    | s :: r => chkS sc x s && chkSs sc xs r
    | [] => false
end
end

/-! ### facts of the forms -/
theorem star_of {e : Expr} {es : List Expr} {env : Env} (h : isStar e = false) : starEach (e :: es) env = (false, eval e env) :: starEach es env := by
  cases e <;> first | rfl | cases h
theorem assignStar_of {e : Expr} {es : List Expr} {env : Env} (h : isStar e = false) : assignEach (e :: es) env = (false, assign e env) :: assignEach es env := by
  cases e <;> first | rfl | cases h
theorem plainIx_of {e : Expr} (h : isSlice e = false) : L2.PlainIx e := by
  intro o i
  cases e <;> first | rfl | cases h
theorem plainT_of {e : Expr} {env : Env} (h : plainT e = true) (whole : Sem Value) : isTrue e env whole = (do let v ← whole; standAt e.pos; holding [v] (truthy v)) := by
  cases e with
  | UnaryOp op x p => cases op <;> first | rfl | cases h
  | _ => first | rfl | cases h
theorem set_of {e : Expr} {env : Env} (h : isSet e = false) (x : Value) : foldedSetIterable e env x = pure x := by
  cases e <;> first | rfl | cases h
theorem mark_of {op : CmpOp} {e : Expr} (h : isSet e = false) : behindInMarks op e = false := by
  cases e <;> first | rfl | cases h
theorem base_of {o : Expr} {n : Str} {env : Env} {w : Sem Value} (h : isCall o = false) : attributeBase o n env w = w := by
  cases o <;> first | rfl | cases h
theorem sw_of {e : Expr} {t : Option Expr} {l : Nat} {env : Env} (h : isComp e = false) : swapsWith e t l env = pure false := by
  cases e <;> first | rfl | cases h
/-- no star in a list -/
def noStar (l : List Expr) : Bool := l.all fun e => !isStar e
theorem noStar_chk {T : List FDef} {N : List Str} {sc : Scope} : ∀ {xs : Exs} {l : List Expr}, chkEs T N sc xs l = true → noStar l = true
  | .nil, l, h => by
    rw [chkEs] at h
    have e : l = [] := by simpa using h
    rw [e]; rfl
  | .cons x xs, [], h => by rw [chkEs] at h; cases h
  | .cons x xs, e :: r, h => by
    rw [chkEs] at h
    simp only [Bool.and_eq_true] at h
    have ih := noStar_chk h.2
    unfold noStar at ih ⊢
    rw [List.all_cons, h.1.1, ih]; rfl
theorem noStar_any {l : List Expr} {pos : Pos} {env : Env} (h : noStar l = true) : (backTo pos (starEach l env)).any (·.1) = false := by
  induction l with
  | nil => rfl
  | cons e r ih =>
    unfold noStar at h ih
    rw [List.all_cons, Bool.and_eq_true] at h
    have h1 : isStar e = false := by simpa using h.1
    rw [star_of h1]
    show (false || (backTo pos (starEach r env)).any (·.1)) = false
    rw [ih h.2]; rfl
theorem noStar_all {l : List Expr} {pos : Pos} {env : Env} (h : noStar l = true) : (backTo pos (starEach l env)).all (fun x => !x.1) = true := by
  induction l with
  | nil => rfl
  | cons e r ih =>
    unfold noStar at h ih
    rw [List.all_cons, Bool.and_eq_true] at h
    have h1 : isStar e = false := by simpa using h.1
    rw [star_of h1]
    show (!false && (backTo pos (starEach r env)).all (fun x => !x.1)) = true
    rw [ih h.2]; rfl
theorem noStar_tgs {N : List Str} {sc : Scope} {fb : Str → Bool} {env : Env} : ∀ {ts : Tgs} {l : List Expr}, chkGs N sc fb ts l = true → (assignEach l env).length = lenTgs ts ∧ (assignEach l env).findIdx? (·.1) = none
  | .nil, l, h => by
    rw [chkGs] at h
    have e : l = [] := by simpa using h
    rw [e, lenTgs]; exact ⟨rfl, rfl⟩
  | .cons x xs, [], h => by rw [chkGs] at h; cases h
  | .cons x xs, e :: r, h => by
    rw [chkGs] at h
    simp only [Bool.and_eq_true] at h
    obtain ⟨h1, h2⟩ := noStar_tgs (env := env) h.2
    have hs : isStar e = false := by simpa using h.1.1
    rw [assignStar_of hs, lenTgs, List.length_cons, h1]
    refine ⟨rfl, ?_⟩
    rw [List.findIdx?_cons, h2]
    rfl
end Flx

end
section
set_option Elab.async false
set_option linter.all false
set_option maxRecDepth 100000
set_option autoImplicit false
/-! FlxSound: what a looked-at text of the pure language asks is enough for the Python text. -/
namespace Flx
open PySem PySem.Spec PyProof.Rows

/-- a def of the table as it stands behind the top, at the level k -/
def FnAt (P : Program) (w : World) (K : K') (mg : Str → Option Value) (base : Heap) (T : List FDef) (k f : Nat) (fd : FDef) : Prop :=
  ∃ (fa : Addr) (fdata : FuncData) (ps : List Str), mg fd.name = some (.ref fa) ∧ PySem.W.keepIn K (.ref fa) = true ∧ L2.Binds K fdata ps [] ∧ ps.length = fd.np ∧ L2.FnOk P w K mg base L2.CX0 k fa fdata ps (liftSp K (callW T k f))
structure Gd (X : L2.Cx) (T : List FDef) (k : Nat) : Prop where
  room : L2.Room k X.A
  calm : X.calm = true
  nd : X.N.Nodup
  fn : ∀ (f : Nat) (fd : FDef), T[f]? = some fd → FnAt X.prog X.w X.K X.mg X.base T k f fd
  blt : ∀ x ∈ builtins, X.mg x = none
theorem Gd.blk {X : L2.Cx} {T : List FDef} {k : Nat} (G : Gd X T k) (s : Shared) (H : L2.Hp) (scope : Scope) (env : Env) (fp : List Addr) : Gd (X.blk s H scope env fp) T k := ⟨G.room, G.calm, G.nd, G.fn, G.blt⟩

section
variable (T : List FDef) (N : List Str) (k : Nat)
abbrev Cw := callW T k
def SndE (ex : Ex) : Prop := ∀ (X : L2.Cx) (e : Expr), Gd X T k → X.N = N → chkE T N X.env.scope ex e = true → L2.PE X e (liftE X.K (wE (callW T k) ex))
def SndT (ex : Ex) : Prop := ∀ (X : L2.Cx) (e : Expr), Gd X T k → X.N = N → chkE T N X.env.scope ex e = true → chkT T N X.env.scope ex e = true → L2.PT X e (liftT X.K (wT (callW T k) ex))
def SndA (es : Exs) : Prop := ∀ (X : L2.Cx) (l : List Expr), Gd X T k → X.N = N → chkEs T N X.env.scope es l = true → L2.PA X l (liftA X.K (wEs (callW T k) es))
def SndO (o : ExO) : Prop := ∀ (X : L2.Cx) (e : Option Expr), Gd X T k → X.N = N → chkO T N X.env.scope o e = true → L2.PO X e (liftO X.K (wO (callW T k) o))
def SndI (it : It) : Prop := ∀ (X : L2.Cx) (tg : Tg) (t e : Expr) (sc : Scope) (fb : Str → Bool), Gd X T k → X.N = N → chkG N sc fb tg t = true → chkI T N X.env.scope tg it e = true → L2.PI X t e (liftI X.K (wI (callW T k) it))
def SndC (es : Exs) : Prop := ∀ (X : L2.Cx) (l : List Expr), Gd X T k → X.N = N → chkC T N X.env.scope es l = true → L2.PTs X l (liftT X.K (wC (callW T k) es))
end
section
variable {T : List FDef} {N : List Str} {k : Nat}
theorem mE (ex : Ex) : MonoE (wE (callW T k) ex) := wE_mono (callW_mono T k) ex
theorem mA (ex : Exs) : MonoE (wEs (callW T k) ex) := wEs_mono (callW_mono T k) ex
theorem mO (ex : ExO) : MonoE (wO (callW T k) ex) := wO_mono (callW_mono T k) ex
theorem mT (ex : Ex) : MonoE (wT (callW T k) ex) := wT_mono (callW_mono T k) ex
theorem mC (ex : Exs) : MonoE (wC (callW T k) ex) := wC_mono (callW_mono T k) ex
theorem vis_of {sc : Scope} {x : Str} (h : visB sc x = true) : L2.Vis sc x := by
  unfold visB at h
  unfold L2.Vis
  split at h <;> first | cases h | skip
  · exact .inl (by assumption)
  · exact .inr (.inl (by assumption))
  · exact .inr (.inr (by assumption))
theorem gl_of {X : L2.Cx} {x : Str} (h : glB X.env.scope x = true) : L2.Gl X x := by
  unfold glB at h
  split at h
  · assumption
  · cases h
theorem dunder_of {x : Str} (h : dunder x = false) : (x == ("__debug__" : Str)) = false ∧ (x == ("__classdict__" : Str)) = false ∧ x ≠ ("__name__" : Str) := by
  unfold dunder at h
  simp only [Bool.or_eq_false_iff] at h
  exact ⟨h.1.1, h.1.2, fun e => by rw [e] at h; simp at h⟩
theorem truth_of {X : L2.Cx} {e : Expr} {ex : Ex} (h : L2.PE X e (liftE X.K (wE (callW T k) ex))) (hp : plainT e = true) : L2.PT X e (liftT X.K (wT (callW T k) ex)) := by
  refine pt_le (L2.pt_truth h (plainT_of hp)) fun σ H Q => ?_
  rintro ⟨m, S, σd, r, g, q⟩
  refine stepE (mE ex) r g q fun x S1 m1 H1 v x1 r1 g1 d1 h1 => ?_
  obtain ⟨b, e1, q1⟩ := h1
  exact ⟨b, tru_of r1 d1 e1, q1 _ _ x1 r1⟩

theorem snd_var (i : Nat) : SndE T N k (.var i) := by
  intro X e G hN h
  unfold chkE at h
  split at h
  · rename_i x p
    simp only [Bool.and_eq_true, decide_eq_true_eq, Bool.not_eq_true'] at h
    obtain ⟨⟨h1, h2⟩, h3⟩ := h
    obtain ⟨d1, d2, _⟩ := dunder_of h3
    refine pe_le (L2.pe_var (by rw [hN]; exact h1) (vis_of h2) d1 d2) fun σ H Q => ?_
    rintro ⟨m, S, σd, r, g, q⟩
    rw [wE] at q
    obtain ⟨d, e1, q⟩ := q
    obtain ⟨v, e2, dv⟩ := g.2 i d e1
    exact ⟨v, e2, at_once r q dv⟩
  · cases h
theorem snd_const {ex : Ex} {d : D} {v : L2.V} (hw : ∀ σ S Q, wE (callW T k) ex σ S Q → Q d S) (hd : ∀ K m H, RD K m H d v) (hc : ∀ (X : L2.Cx) (e : Expr), chkE T N X.env.scope ex e = true → L2.PE X e (L2.tC v)) : SndE T N k ex := by
  intro X e G hN h
  refine pe_le (hc X e h) fun σ H Q => ?_
  rintro ⟨m, S, σd, r, g, q⟩
  exact at_once r (hw _ _ _ q) (hd _ _ _)
theorem snd_int (i : Int) : SndE T N k (.cint i) := snd_const (v := .int i) (d := .int i) (fun σ S Q h => by rw [wE] at h; exact h) (fun _ _ _ => rfl) fun X e h => by
  unfold chkE at h
  split at h
  · have e1 := of_decide_eq_true h
    subst e1
    exact L2.pe_int
  · cases h
theorem snd_str (i : Str) : SndE T N k (.cstr i) := snd_const (v := .str i) (d := .str i) (fun σ S Q h => by rw [wE] at h; exact h) (fun _ _ _ => rfl) fun X e h => by
  unfold chkE at h
  split at h
  · have e1 := of_decide_eq_true h
    subst e1
    exact L2.pe_str
  · cases h
theorem snd_bl (i : Bool) : SndE T N k (.cbl i) := snd_const (v := .bl i) (d := .bl i) (fun σ S Q h => by rw [wE] at h; exact h) (fun _ _ _ => rfl) fun X e h => by
  unfold chkE at h
  split at h
  · have e1 := eq_of_beq h
    subst e1
    exact L2.pe_bl
  · cases h
theorem snd_non : SndE T N k .cnon := snd_const (v := .non) (d := .non) (fun σ S Q h => by rw [wE] at h; exact h) (fun _ _ _ => rfl) fun X e h => by
  unfold chkE at h
  split at h
  · exact L2.pe_non
  · cases h
theorem snd_bin {op : BOp} {a b : Ex} (ha : SndE T N k a) (hb : SndE T N k b) : SndE T N k (.bin op a b) := by
  intro X e G hN h
  unfold chkE at h
  split at h
  · simp only [Bool.and_eq_true, decide_eq_true_eq] at h
    obtain ⟨⟨rfl, h1⟩, h2⟩ := h
    refine pe_le (L2.pe_op (opBin op) (ha X _ G hN h1) (hb X _ G hN h2)) fun σ H Q => ?_
    rintro ⟨m, S, σd, r, g, q⟩
    rw [wE] at q
    exact stepE (mE a) r g q fun x S1 m1 H1 v x1 r1 g1 d1 q1 => stepE (mE b) r1 g1 q1 fun y S2 m2 H2 u x2 r2 g2 d2 q2 => bin_ok r2 (d1.keep r1 x2) d2 (binW_mono (fun _ _ p => p.shift (x1.trans x2)) q2)
  · cases h
theorem snd_neg {a : Ex} (ha : SndE T N k a) : SndE T N k (.neg a) := by
  intro X e G hN h
  unfold chkE at h
  split at h
  · refine pe_le (L2.pe_un L2.un_neg (ha X _ G hN h)) fun σ H Q => ?_
    rintro ⟨m, S, σd, r, g, q⟩
    rw [wE] at q
    refine stepE (mE a) r g q fun x S1 m1 H1 v x1 r1 g1 d1 q1 => ?_
    obtain ⟨i, rfl, q1⟩ := q1
    cases d1
    exact ⟨i, rfl, at_once r1 (q1.shift x1) rfl⟩
  · cases h
theorem snd_cmp {op : COp} {a b : Ex} (ha : SndE T N k a) (hb : SndE T N k b) : SndE T N k (.cmp op a b) := by
  intro X e G hN h
  unfold chkE at h
  split at h
  · simp only [Bool.and_eq_true, decide_eq_true_eq, Bool.not_eq_true'] at h
    obtain ⟨⟨⟨rfl, h1⟩, h2⟩, h3⟩ := h
    refine pe_le (L2.pe_cmpR (opCmp G.room op) (ha X _ G hN h1) (hb X _ G hN h2) (mark_of h3)) fun σ H Q => ?_
    rintro ⟨m, S, σd, r, g, q⟩
    rw [wE] at q
    exact stepE (mE a) r g q fun x S1 m1 H1 v x1 r1 g1 d1 q1 => stepE (mE b) r1 g1 q1 fun y S2 m2 H2 u x2 r2 g2 d2 q2 => cmp_ok r2 (d1.keep r1 x2) d2 (cmpW_mono (fun _ _ p => p.shift (x1.trans x2)) q2)
  · cases h
/-- a truth value tested -/
theorem po_bl {K : K'} {m m2 : List Addr} {S S2 : St} {H H2 : L2.Hp} {Q : Bool → L2.Hp → Prop} (x : Xt m S H m2 S2 H2) {b : Bool} {S' : St} (h : ∃ c, truD S' (.bl b) = some c ∧ PoB K m S H Q c S') :
    Po K m2 S2 H2 (fun v H' => ∃ c, v = .bl c ∧ Q c H') (.bl b) S' := by
  obtain ⟨c, e, q⟩ := h
  have e' : b = c := by simpa [truD] using e
  subst e'
  exact fun m' H' v x' r' d' => ⟨b, d', q m' H' (x.trans x') r'⟩
theorem sndT_cmp {op : COp} {a b : Ex} (ha : SndE T N k a) (hb : SndE T N k b) : SndT T N k (.cmp op a b) := by
  intro X e G hN h _
  unfold chkE at h
  split at h
  · simp only [Bool.and_eq_true, decide_eq_true_eq, Bool.not_eq_true'] at h
    obtain ⟨⟨⟨rfl, h1⟩, h2⟩, h3⟩ := h
    refine pt_le (L2.pt_cmpR (opCmp G.room op) (ha X _ G hN h1) (hb X _ G hN h2) (mark_of h3)) fun σ H Q => ?_
    rintro ⟨m, S, σd, r, g, q⟩
    unfold wT at q
    rw [wE] at q
    exact stepE (mE a) r g q fun x S1 m1 H1 v x1 r1 g1 d1 q1 => stepE (mE b) r1 g1 q1 fun y S2 m2 H2 u x2 r2 g2 d2 q2 => cmp_ok r2 (d1.keep r1 x2) d2 (cmpW_mono (fun _ _ p => po_bl (x1.trans x2) p) q2)
  · cases h
theorem chain_le {X : L2.Cx} {op op' : COp} {a b c : Ex} {m : List Addr} {S : St} {σd : Sg} {σ : L2.St} {H : L2.Hp} {Q : L2.VK} {R : QD} (r : RS X.K m S H) (g : RSg X.K m H σd σ) (hR : ∀ b S', R (.bl b) S' → Po X.K m S H Q (.bl b) S') (q : wE (callW T k) (.cmp2 op op' a b c) σd S R) :
    L2.tChain (rCmp X.K op) (rCmp X.K op') (liftE X.K (wE (callW T k) a)) (liftE X.K (wE (callW T k) b)) (liftE X.K (wE (callW T k) c)) σ H Q := by
  rw [wE] at q
  refine stepE (mE a) r g q fun x S1 m1 H1 v x1 r1 g1 d1 q1 => stepE (mE b) r1 g1 q1 fun y S2 m2 H2 u x2 r2 g2 d2 q2 => cmp_ok r2 (d1.keep r1 x2) d2 (cmpW_mono (fun b S3 p => ?_) q2)
  intro m3 H3 v3 x3 r3 d3
  refine ⟨b, d3, ?_⟩
  have x13 := (x1.trans x2).trans x3
  cases b with
  | false =>
    rw [if_neg Bool.false_ne_true] at p ⊢
    exact hR _ _ p _ _ _ x13 r3 rfl
  | true =>
    rw [if_pos rfl] at p ⊢
    exact stepE (mE c) r3 (g2.keep r2 x3) p fun z S4 m4 H4 w x4 r4 g4 d4 p4 => cmp_ok r4 ((d2.keep r2 x3).keep r3 x4) d4 (cmpW_mono (fun b' S' p' => (hR _ _ p').shift (x13.trans x4)) p4)
theorem snd_cmp2 {op op' : COp} {a b c : Ex} (ha : SndE T N k a) (hb : SndE T N k b) (hc : SndE T N k c) : SndE T N k (.cmp2 op op' a b c) := by
  intro X e G hN h
  unfold chkE at h
  split at h
  · simp only [Bool.and_eq_true, decide_eq_true_eq, Bool.not_eq_true'] at h
    obtain ⟨⟨⟨⟨⟨rfl, rfl⟩, h1⟩, h2⟩, h3⟩, h4⟩ := h
    refine pe_le (L2.pe_chain (opCmp G.room op) (opCmp G.room op') (ha X _ G hN h1) (hb X _ G hN h2) (hc X _ G hN h3) (by show behindInMarks _ _ = false; exact mark_of h4)) fun σ H Q => ?_
    rintro ⟨m, S, σd, r, g, q⟩
    exact chain_le r g (fun _ _ p => p) q
  · cases h
theorem sndT_cmp2 {op op' : COp} {a b c : Ex} (ha : SndE T N k a) (hb : SndE T N k b) (hc : SndE T N k c) : SndT T N k (.cmp2 op op' a b c) := by
  intro X e G hN h _
  unfold chkE at h
  split at h
  · simp only [Bool.and_eq_true, decide_eq_true_eq, Bool.not_eq_true'] at h
    obtain ⟨⟨⟨⟨⟨rfl, rfl⟩, h1⟩, h2⟩, h3⟩, h4⟩ := h
    refine pt_le (L2.pt_chain (opCmp G.room op) (opCmp G.room op') (ha X _ G hN h1) (hb X _ G hN h2) (hc X _ G hN h3) (by show behindInMarks _ _ = false; exact mark_of h4)) fun σ H Q => ?_
    rintro ⟨m, S, σd, r, g, q⟩
    exact chain_le r g (fun _ _ p => po_bl .refl p) q
  · cases h
theorem chain3_le {X : L2.Cx} {op op' op2 : COp} {a b c d : Ex} {m : List Addr} {S : St} {σd : Sg} {σ : L2.St} {H : L2.Hp} {Q : L2.VK} {R : QD} (r : RS X.K m S H) (g : RSg X.K m H σd σ) (hR : ∀ b S', R (.bl b) S' → Po X.K m S H Q (.bl b) S') (q : wE (callW T k) (.cmp3 op op' op2 a b c d) σd S R) :
    tChain3 (rCmp X.K op) (rCmp X.K op') (rCmp X.K op2) (liftE X.K (wE (callW T k) a)) (liftE X.K (wE (callW T k) b)) (liftE X.K (wE (callW T k) c)) (liftE X.K (wE (callW T k) d)) σ H Q := by
  rw [wE] at q
  refine stepE (mE a) r g q fun x S1 m1 H1 v x1 r1 g1 d1 q1 => stepE (mE b) r1 g1 q1 fun y S2 m2 H2 u x2 r2 g2 d2 q2 => cmp_ok r2 (d1.keep r1 x2) d2 (cmpW_mono (fun b S3 p => ?_) q2)
  intro m3 H3 v3 x3 r3 d3
  refine ⟨b, d3, ?_⟩
  have x13 := (x1.trans x2).trans x3
  cases b with
  | false =>
    rw [if_neg Bool.false_ne_true] at p ⊢
    exact hR _ _ p _ _ _ x13 r3 rfl
  | true =>
    rw [if_pos rfl] at p ⊢
    refine stepE (mE c) r3 (g2.keep r2 x3) p fun z S4 m4 H4 w x4 r4 g4 d4 p4 => cmp_ok r4 ((d2.keep r2 x3).keep r3 x4) d4 (cmpW_mono (fun b' S5 p' => ?_) p4)
    intro m5 H5 v5 x5 r5 d5
    refine ⟨b', d5, ?_⟩
    have x15 := (x13.trans x4).trans x5
    cases b' with
    | false =>
      rw [if_neg Bool.false_ne_true] at p' ⊢
      exact hR _ _ p' _ _ _ x15 r5 rfl
    | true =>
      rw [if_pos rfl] at p' ⊢
      exact stepE (mE d) r5 (g4.keep r4 x5) p' fun z S6 m6 H6 w6 x6 r6 g6 d6 p6 => cmp_ok r6 ((d4.keep r4 x5).keep r5 x6) d6 (cmpW_mono (fun b' S' p' => (hR _ _ p').shift (x15.trans x6)) p6)
theorem snd_cmp3 {op op' op2 : COp} {a b c d : Ex} (ha : SndE T N k a) (hb : SndE T N k b) (hc : SndE T N k c) (hd : SndE T N k d) : SndE T N k (.cmp3 op op' op2 a b c d) := by
  intro X e G hN h
  unfold chkE at h
  split at h
  · simp only [Bool.and_eq_true, decide_eq_true_eq, Bool.not_eq_true'] at h
    obtain ⟨⟨⟨⟨⟨⟨⟨rfl, rfl⟩, rfl⟩, h1⟩, h2⟩, h3⟩, h3'⟩, h4⟩ := h
    refine pe_le (pe_chain3 (opCmp G.room op) (opCmp G.room op') (opCmp G.room op2) (ha X _ G hN h1) (hb X _ G hN h2) (hc X _ G hN h3) (hd X _ G hN h3') (by show behindInMarks _ _ = false; exact mark_of h4)) fun σ H Q => ?_
    rintro ⟨m, S, σd, r, g, q⟩
    exact chain3_le r g (fun _ _ p => p) q
  · cases h
theorem sndT_cmp3 {op op' op2 : COp} {a b c d : Ex} (ha : SndE T N k a) (hb : SndE T N k b) (hc : SndE T N k c) (hd : SndE T N k d) : SndT T N k (.cmp3 op op' op2 a b c d) := by
  intro X e G hN h _
  unfold chkE at h
  split at h
  · simp only [Bool.and_eq_true, decide_eq_true_eq, Bool.not_eq_true'] at h
    obtain ⟨⟨⟨⟨⟨⟨⟨rfl, rfl⟩, rfl⟩, h1⟩, h2⟩, h3⟩, h3'⟩, h4⟩ := h
    refine pt_le (pt_chain3 (opCmp G.room op) (opCmp G.room op') (opCmp G.room op2) (ha X _ G hN h1) (hb X _ G hN h2) (hc X _ G hN h3) (hd X _ G hN h3') (by show behindInMarks _ _ = false; exact mark_of h4)) fun σ H Q => ?_
    rintro ⟨m, S, σd, r, g, q⟩
    exact chain3_le r g (fun _ _ p => po_bl .refl p) q
  · cases h
theorem and_le {X : L2.Cx} {a b : Ex} {tb : L2.TE} (hb : ∀ σ H Q, liftE X.K (wE (callW T k) b) σ H Q → tb σ H Q) : ∀ σ H Q, liftE X.K (wE (callW T k) (.and a b)) σ H Q → L2.tAndT X.K (liftE X.K (wE (callW T k) a)) tb σ H Q := by
  rintro σ H Q ⟨m, S, σd, r, g, q⟩
  rw [wE] at q
  refine stepE (mE a) r g q fun x S1 m1 H1 v x1 r1 g1 d1 q1 => ?_
  obtain ⟨c, e, q1⟩ := q1
  refine ⟨c, tru_of r1 d1 e, ?_⟩
  cases c with
  | true =>
    rw [if_pos rfl] at q1 ⊢
    exact hb _ _ _ (stepE (mE b) r1 g1 q1 fun y S2 m2 H2 u x2 r2 g2 d2 q2 => at_once r2 (q2.shift (x1.trans x2)) d2)
  | false =>
    rw [if_neg Bool.false_ne_true] at q1 ⊢
    exact at_once r1 (q1.shift x1) d1
theorem or_le {X : L2.Cx} {a b : Ex} {tb : L2.TE} (hb : ∀ σ H Q, liftE X.K (wE (callW T k) b) σ H Q → tb σ H Q) : ∀ σ H Q, liftE X.K (wE (callW T k) (.or a b)) σ H Q → L2.tOrT X.K (liftE X.K (wE (callW T k) a)) tb σ H Q := by
  rintro σ H Q ⟨m, S, σd, r, g, q⟩
  rw [wE] at q
  refine stepE (mE a) r g q fun x S1 m1 H1 v x1 r1 g1 d1 q1 => ?_
  obtain ⟨c, e, q1⟩ := q1
  refine ⟨c, tru_of r1 d1 e, ?_⟩
  cases c with
  | false =>
    rw [if_neg Bool.false_ne_true] at q1 ⊢
    exact hb _ _ _ (stepE (mE b) r1 g1 q1 fun y S2 m2 H2 u x2 r2 g2 d2 q2 => at_once r2 (q2.shift (x1.trans x2)) d2)
  | true =>
    rw [if_pos rfl] at q1 ⊢
    exact at_once r1 (q1.shift x1) d1
theorem snd_and {a b : Ex} (ha : SndE T N k a) (hb : SndE T N k b) : SndE T N k (.and a b) := by
  intro X e G hN h
  unfold chkE at h
  split at h
  · simp only [Bool.and_eq_true] at h
    exact pe_le (L2.pe_andT (ha X _ G hN h.1) (L2.pe_one (hb X _ G hN h.2))) (and_le fun _ _ _ q => q)
  · simp only [Bool.and_eq_true] at h
    exact pe_le (L2.pe_andT (ha X _ G hN h.1) (hb X _ G hN h.2)) (and_le fun _ _ _ q => q)
  · cases h
theorem snd_or {a b : Ex} (ha : SndE T N k a) (hb : SndE T N k b) : SndE T N k (.or a b) := by
  intro X e G hN h
  unfold chkE at h
  split at h
  · simp only [Bool.and_eq_true] at h
    exact pe_le (L2.pe_orT (ha X _ G hN h.1) (L2.pe_one (hb X _ G hN h.2))) (or_le fun _ _ _ q => q)
  · simp only [Bool.and_eq_true] at h
    exact pe_le (L2.pe_orT (ha X _ G hN h.1) (hb X _ G hN h.2)) (or_le fun _ _ _ q => q)
  · cases h
theorem snd_not {a : Ex} (ha : SndE T N k a) : SndE T N k (.not a) := by
  intro X e G hN h
  unfold chkE at h
  split at h
  · refine pe_le (L2.pe_notT (ha X _ G hN h)) fun σ H Q => ?_
    rintro ⟨m, S, σd, r, g, q⟩
    rw [wE] at q
    refine stepE (mE a) r g q fun x S1 m1 H1 v x1 r1 g1 d1 q1 => ?_
    obtain ⟨c, e, q1⟩ := q1
    exact ⟨c, tru_of r1 d1 e, at_once r1 (q1.shift x1) rfl⟩
  · cases h
/-- tests joined -/
theorem andT_le {X : L2.Cx} {a b : Ex} {tb : L2.TT} (hb : ∀ σ H Q, liftT X.K (wT (callW T k) b) σ H Q → tb σ H Q) : ∀ σ H Q, liftT X.K (wT (callW T k) (.and a b)) σ H Q → L2.tAnd (liftT X.K (wT (callW T k) a)) tb σ H Q := by
  rintro σ H Q ⟨m, S, σd, r, g, q⟩
  unfold wT at q
  rw [wE] at q
  have q' : wT (callW T k) a σd S fun c S1 => if c = true then wT (callW T k) b σd S1 (PoB X.K m S H Q) else PoB X.K m S H Q false S1 := by
    refine wE_mono (callW_mono T k) a _ _ _ _ (fun x S1 h => ?_) q
    obtain ⟨c, e, h⟩ := h
    refine ⟨c, e, ?_⟩
    cases c with
    | true => exact h
    | false =>
      rw [if_neg Bool.false_ne_true] at h ⊢
      obtain ⟨c', e', h⟩ := h
      rw [e] at e'; cases e'
      exact h
  refine stepT (mT a) r g q' fun c S1 m1 H1 x1 r1 g1 q1 => ?_
  cases c with
  | true =>
    rw [if_pos rfl] at q1 ⊢
    exact hb _ _ _ (stepT (mT b) r1 g1 q1 fun c' S2 m2 H2 x2 r2 g2 q2 => q2 _ _ (x1.trans x2) r2)
  | false =>
    rw [if_neg Bool.false_ne_true] at q1 ⊢
    exact q1 _ _ x1 r1
theorem orT_le {X : L2.Cx} {a b : Ex} {tb : L2.TT} (hb : ∀ σ H Q, liftT X.K (wT (callW T k) b) σ H Q → tb σ H Q) : ∀ σ H Q, liftT X.K (wT (callW T k) (.or a b)) σ H Q → L2.tOr (liftT X.K (wT (callW T k) a)) tb σ H Q := by
  rintro σ H Q ⟨m, S, σd, r, g, q⟩
  unfold wT at q
  rw [wE] at q
  have q' : wT (callW T k) a σd S fun c S1 => if c = true then PoB X.K m S H Q true S1 else wT (callW T k) b σd S1 (PoB X.K m S H Q) := by
    refine wE_mono (callW_mono T k) a _ _ _ _ (fun x S1 h => ?_) q
    obtain ⟨c, e, h⟩ := h
    refine ⟨c, e, ?_⟩
    cases c with
    | false => exact h
    | true =>
      rw [if_pos rfl] at h ⊢
      obtain ⟨c', e', h⟩ := h
      rw [e] at e'; cases e'
      exact h
  refine stepT (mT a) r g q' fun c S1 m1 H1 x1 r1 g1 q1 => ?_
  cases c with
  | false =>
    rw [if_neg Bool.false_ne_true] at q1 ⊢
    exact hb _ _ _ (stepT (mT b) r1 g1 q1 fun c' S2 m2 H2 x2 r2 g2 q2 => q2 _ _ (x1.trans x2) r2)
  | true =>
    rw [if_pos rfl] at q1 ⊢
    exact q1 _ _ x1 r1
/-- tests of a junction, whatever the whole is -/
def SndW (ex : Ex) : Prop := ∀ (X : L2.Cx) (op : BoolOp) (x y : Expr) (r : List Expr) (p : Pos), Gd X T k → X.N = N → chkE T N X.env.scope ex (.BoolOp op (x :: y :: r) p) = true → chkT T N X.env.scope ex (.BoolOp op (x :: y :: r) p) = true → L2.PW X (.BoolOp op (x :: y :: r) p) (liftT X.K (wT (callW T k) ex))
theorem sndW_and {a b : Ex} (ha : SndT T N k a) (hb : SndT T N k b) (hw : SndW (T := T) (N := N) (k := k) b) : SndW (T := T) (N := N) (k := k) (.and a b) := by
  intro X op x y r p G hN h h'
  unfold chkE at h
  unfold chkT at h'
  cases op with
  | Or => simp at h
  | And =>
    cases r with
    | nil =>
      simp only [Bool.and_eq_true] at h h'
      exact pw_le (L2.pw_and (ha X _ G hN h.1 h'.1) (L2.pw_and1 (hb X _ G hN h.2 h'.2))) (andT_le fun _ _ _ q => q)
    | cons z r =>
      simp only [Bool.and_eq_true] at h h'
      exact pw_le (L2.pw_and (ha X _ G hN h.1 h'.1) (hw X _ _ _ _ _ G hN h.2 h'.2)) (andT_le fun _ _ _ q => q)
theorem sndW_or {a b : Ex} (ha : SndT T N k a) (hb : SndT T N k b) (hw : SndW (T := T) (N := N) (k := k) b) : SndW (T := T) (N := N) (k := k) (.or a b) := by
  intro X op x y r p G hN h h'
  unfold chkE at h
  unfold chkT at h'
  cases op with
  | And => simp at h
  | Or =>
    cases r with
    | nil =>
      simp only [Bool.and_eq_true] at h h'
      exact pw_le (L2.pw_or (ha X _ G hN h.1 h'.1) (L2.pw_or1 (hb X _ G hN h.2 h'.2))) (orT_le fun _ _ _ q => q)
    | cons z r =>
      simp only [Bool.and_eq_true] at h h'
      exact pw_le (L2.pw_or (ha X _ G hN h.1 h'.1) (hw X _ _ _ _ _ G hN h.2 h'.2)) (orT_le fun _ _ _ q => q)
theorem sndT_and {a b : Ex} (hw : SndW (T := T) (N := N) (k := k) (.and a b)) : SndT T N k (.and a b) := by
  intro X e G hN h h'
  have h0 := h
  unfold chkE at h
  split at h
  · exact (hw X _ _ _ _ _ G hN h0 h').pt
  · exact (hw X _ _ _ _ _ G hN h0 h').pt
  · cases h
theorem sndT_or {a b : Ex} (hw : SndW (T := T) (N := N) (k := k) (.or a b)) : SndT T N k (.or a b) := by
  intro X e G hN h h'
  have h0 := h
  unfold chkE at h
  split at h
  · exact (hw X _ _ _ _ _ G hN h0 h').pt
  · exact (hw X _ _ _ _ _ G hN h0 h').pt
  · cases h
theorem sndT_not {a : Ex} (ha : SndT T N k a) : SndT T N k (.not a) := by
  intro X e G hN h h'
  unfold chkE at h
  split at h
  · unfold chkT at h'
    refine pt_le (L2.pt_not (ha X _ G hN h h')) fun σ H Q => ?_
    rintro ⟨m, S, σd, r, g, q⟩
    unfold wT at q
    rw [wE] at q
    have q' : wT (callW T k) a σd S fun c S1 => PoB X.K m S H Q (!c) S1 := by
      refine wE_mono (callW_mono T k) a _ _ _ _ (fun x S1 h => ?_) q
      obtain ⟨c, e, c', e', h⟩ := h
      have e2 : (!c) = c' := by simpa [truD] using e'
      subst e2
      exact ⟨c, e, h⟩
    exact stepT (mT a) r g q' fun c S1 m1 H1 x1 r1 g1 q1 => q1 _ _ x1 r1
  · cases h
theorem snd_ite {c a b : Ex} (hc : SndT T N k c) (ha : SndE T N k a) (hb : SndE T N k b) : SndE T N k (.ite c a b) := by
  intro X e G hN h
  unfold chkE at h
  split at h
  · simp only [Bool.and_eq_true] at h
    refine pe_le (L2.pe_ifExp (hc X _ G hN h.1.1.1 h.1.1.2) (ha X _ G hN h.1.2) (hb X _ G hN h.2)) fun σ H Q => ?_
    rintro ⟨m, S, σd, r, g, q⟩
    rw [wE] at q
    have q' : wT (callW T k) c σd S fun d S1 => if d = true then wE (callW T k) a σd S1 (Po X.K m S H Q) else wE (callW T k) b σd S1 (Po X.K m S H Q) := q
    refine stepT (mT c) r g q' fun d S1 m1 H1 x1 r1 g1 q1 => ?_
    cases d with
    | true =>
      rw [if_pos rfl] at q1 ⊢
      exact stepE (mE a) r1 g1 q1 fun y S2 m2 H2 u x2 r2 g2 d2 q2 => at_once r2 (q2.shift (x1.trans x2)) d2
    | false =>
      rw [if_neg Bool.false_ne_true] at q1 ⊢
      exact stepE (mE b) r1 g1 q1 fun y S2 m2 H2 u x2 r2 g2 d2 q2 => at_once r2 (q2.shift (x1.trans x2)) d2
  · cases h
theorem snd_nil : SndA T N k .nil := by
  intro X l G hN h
  rw [chkEs] at h
  have e : l = [] := by simpa using h
  subst e
  refine pa_le L2.pa_nil fun σ H Q => ?_
  rintro ⟨m, S, σd, r, g, q⟩
  rw [wEs] at q
  exact q _ _ [] .refl r rfl
theorem snd_cons {a : Ex} {es : Exs} (ha : SndE T N k a) (hs : SndA T N k es) : SndA T N k (.cons a es) := by
  intro X l G hN h
  cases l with
  | nil => rw [chkEs] at h; cases h
  | cons e l =>
    rw [chkEs] at h
    simp only [Bool.and_eq_true, Bool.not_eq_true'] at h
    refine pa_le (L2.pa_cons (ha X _ G hN h.1.2) (hs X _ G hN h.2) (star_of h.1.1)) fun σ H Q => ?_
    rintro ⟨m, S, σd, r, g, q⟩
    rw [wEs] at q
    exact stepE (mE a) r g q fun x S1 m1 H1 v x1 r1 g1 d1 q1 => stepA (mA es) r1 g1 q1 fun y S2 m2 H2 u x2 r2 g2 d2 q2 => q2 _ _ _ (x1.trans x2) r2 ⟨v, u, rfl, d1.keep r1 x2, d2⟩
theorem snd_tup {es : Exs} (hs : SndA T N k es) : SndE T N k (.tup es) := by
  intro X e G hN h
  unfold chkE at h
  split at h
  · refine pe_le (L2.pe_tup (hs X _ G hN h)) fun σ H Q => ?_
    rintro ⟨m, S, σd, r, g, q⟩
    rw [wE] at q
    exact stepA (mA es) r g q fun x S1 m1 H1 v x1 r1 g1 d1 q1 => ⟨by rw [← d1.length]; exact q1.1, new_tup r1 d1 (q1.2.shift x1)⟩
  · cases h
theorem snd_lst {es : Exs} (hs : SndA T N k es) : SndE T N k (.lst es) := by
  intro X e G hN h
  unfold chkE at h
  split at h
  · refine pe_le (L2.pe_lst (hs X _ G hN h)) fun σ H Q => ?_
    rintro ⟨m, S, σd, r, g, q⟩
    rw [wE] at q
    exact stepA (mA es) r g q fun x S1 m1 H1 v x1 r1 g1 d1 q1 => ⟨by rw [← d1.length]; exact q1.1, new_list r1 d1 (q1.2.shift x1)⟩
  · cases h
theorem snd_ix {a b : Ex} (ha : SndE T N k a) (hb : SndE T N k b) : SndE T N k (.ix a b) := by
  intro X e G hN h
  unfold chkE at h
  split at h
  · simp only [Bool.and_eq_true, Bool.not_eq_true'] at h
    refine pe_le (L2.pe_ix L2.ix_seq (ha X _ G hN h.1.1) (hb X _ G hN h.1.2) (plainIx_of h.2)) fun σ H Q => ?_
    rintro ⟨m, S, σd, r, g, q⟩
    rw [wE] at q
    exact stepE (mE a) r g q fun x S1 m1 H1 v x1 r1 g1 d1 q1 => stepE (mE b) r1 g1 q1 fun y S2 m2 H2 u x2 r2 g2 d2 q2 => ix_ok r2 (d1.keep r1 x2) d2 (ixW_mono (fun _ _ p => p.shift (x1.trans x2)) q2)
  · cases h
theorem snd_none : SndO T N k .none := by
  intro X o G hN h
  unfold chkO at h
  cases o with
  | some e => cases h
  | none =>
    refine po_le L2.po_none fun σ H Q => ?_
    rintro ⟨m, S, σd, r, g, q⟩
    rw [wO] at q
    exact q _ _ .refl r
theorem snd_some {a : Ex} (ha : SndE T N k a) : SndO T N k (.some a) := by
  intro X o G hN h
  unfold chkO at h
  cases o with
  | none => cases h
  | some e =>
    refine po_le (L2.po_some (ha X _ G hN h)) fun σ H Q => ?_
    rintro ⟨m, S, σd, r, g, q⟩
    rw [wO] at q
    refine stepE (mE a) r g q fun x S1 m1 H1 v x1 r1 g1 d1 q1 => ?_
    obtain ⟨i, rfl, q1⟩ := q1
    cases d1
    exact ⟨i, rfl, q1 _ _ x1 r1⟩
theorem snd_sl {a : Ex} {lo hi : ExO} (ha : SndE T N k a) (hl : SndO T N k lo) (hh : SndO T N k hi) : SndE T N k (.sl a lo hi) := by
  intro X e G hN h
  unfold chkE at h
  split at h
  · simp only [Bool.and_eq_true] at h
    refine pe_le (L2.pe_slice opSl (ha X _ G hN h.1.1) (hl X _ G hN h.1.2) (hh X _ G hN h.2)) fun σ H Q => ?_
    rintro ⟨m, S, σd, r, g, q⟩
    rw [wE] at q
    exact stepE (mE a) r g q fun x S1 m1 H1 v x1 r1 g1 d1 q1 => stepO (mO lo) r1 g1 q1 fun l S2 m2 H2 x2 r2 g2 q2 => stepO (mO hi) r2 g2 q2 fun u S3 m3 H3 x3 r3 g3 q3 =>
      sl_ok r3 ((d1.keep r1 x2).keep r2 x3) (slW_mono (fun _ _ p => p.shift ((x1.trans x2).trans x3)) q3)
  · cases h
theorem snd_call {f : Nat} {es : Exs} (hs : SndA T N k es) : SndE T N k (.call f es) := by
  intro X e G hN h
  unfold chkE at h
  split at h
  · rename_i x p l pos
    simp only [Bool.and_eq_true, Bool.not_eq_true'] at h
    obtain ⟨⟨⟨⟨h1, h2⟩, h3⟩, h4⟩, h5⟩ := h
    cases hT : T[f]? with
    | none => rw [hT] at h1; cases h1
    | some fd =>
      rw [hT] at h1
      simp only [Bool.and_eq_true, decide_eq_true_eq] at h1
      obtain ⟨rfl, h6⟩ := h1
      obtain ⟨fa, fdata, ps, e1, e2, e3, e4, F⟩ := G.fn f fd hT
      obtain ⟨db, _, _⟩ := dunder_of h3
      have hst := noStar_chk h5
      cases l with
      | nil => cases h4
      | cons e0 l =>
        have hs0 : isStar e0 = false := by
          unfold noStar at hst
          rw [List.all_cons, Bool.and_eq_true] at hst
          simpa using hst.1
        have hsl : noStar l = true := by
          unfold noStar at hst ⊢
          rw [List.all_cons, Bool.and_eq_true] at hst
          exact hst.2
        refine pe_le (L2.pe_call F G.room (gl_of h2) e1 e2 e3 .nil L2.pass0 (hs X _ G hN h5) db (star_of hs0) (noStar_any hsl)) fun σ H Q => ?_
        rintro ⟨m, S, σd, r, g, q⟩
        rw [wE] at q
        refine stepA (mA es) r g q fun xs S1 m1 H1 vs x1 r1 g1 d1 q1 => ?_
        rw [List.append_nil]
        exact ⟨m1, S1, xs, r1, d1, callW_mono T k f xs S1 _ _ (fun _ _ p => p.shift x1) q1⟩
  · cases h
theorem blt_boot : ∀ f : Blt, bootBuiltins (bltName f) = some (bltFn f) := by
  intro f
  cases f <;> decide +kernel
theorem blt_in : ∀ f : Blt, bltName f ∈ builtins ∧ bltName f ≠ ("__name__" : Str) ∧ (bltName f == ("__debug__" : Str)) = false := by
  intro f
  cases f <;> decide +kernel
theorem snd_blt {f : Blt} {es : Exs} (hs : SndA T N k es) : SndE T N k (.blt f es) := by
  intro X e G hN h
  unfold chkE at h
  split at h
  · rename_i x p l pos
    simp only [Bool.and_eq_true, Bool.not_eq_true', decide_eq_true_eq] at h
    obtain ⟨⟨⟨rfl, h2⟩, h4⟩, h5⟩ := h
    have hst := noStar_chk h5
    obtain ⟨b1, b2, b3⟩ := blt_in f
    cases l with
    | nil => cases h4
    | cons e0 l =>
      have hs0 : isStar e0 = false := by
        unfold noStar at hst
        rw [List.all_cons, Bool.and_eq_true] at hst
        simpa using hst.1
      have hsl : noStar l = true := by
        unfold noStar at hst ⊢
        rw [List.all_cons, Bool.and_eq_true] at hst
        exact hst.2
      have fin : ∀ σ H Q, liftE X.K (wE (callW T k) (.blt f es)) σ H Q → L2.tCB (rBlt X.K f) (liftA X.K (wEs (callW T k) es)) σ H Q := by
        rintro σ H Q ⟨m, S, σd, r, g, q⟩
        rw [wE] at q
        exact stepA (mA es) r g q fun xs S1 m1 H1 vs x1 r1 g1 d1 q1 => blt_ok r1 d1 (bltW_mono (fun _ _ p => p.shift x1) q1)
      have hboot := blt_boot f
      have op := opBlt (X := X) G.room G.calm f
      have kind : (∃ id, bltFn f = .builtin id) ∨ ∃ id, bltFn f = .type id := by cases f <;> first | exact .inl ⟨_, rfl⟩ | exact .inr ⟨_, rfl⟩
      rcases kind with ⟨id, e1⟩ | ⟨id, e1⟩
      · rw [e1] at hboot op
        exact pe_le (L2.pe_callB op (gl_of h2) (G.blt _ b1) hboot (hs X _ G hN h5) b2 b3 (star_of hs0) (noStar_any hsl)) fin
      · rw [e1] at hboot op
        exact pe_le (L2.pe_callTy op (gl_of h2) (G.blt _ b1) hboot (hs X _ G hN h5) b2 b3 (star_of hs0) (noStar_any hsl)) fin
  · cases h
theorem ty_boot : ∀ t : Ty, bootBuiltins (tyName t) = some (.type (tyOf t)) ∧ tyName t ∈ builtins ∧ tyName t ≠ ("__name__" : Str) ∧ (tyName t == ("__debug__" : Str)) = false := by
  intro t
  cases t <;> decide +kernel
theorem snd_isi {a : Ex} {t : Ty} (ha : SndE T N k a) : SndE T N k (.isi a t) := by
  intro X e G hN h
  unfold chkE at h
  split at h
  · rename_i x p y z p2 pos
    simp only [Bool.and_eq_true, Bool.not_eq_true', decide_eq_true_eq] at h
    obtain ⟨⟨⟨⟨⟨rfl, h2⟩, rfl⟩, h3⟩, h4⟩, h5⟩ := h
    obtain ⟨t1, t2, t3, t4⟩ := ty_boot t
    have hT : L2.PE X (.Name (tyName t) p2) (L2.tC (.ty (tyOf t))) := L2.pe_bltn (gl_of h3) (G.blt _ t2) t1 rfl t3 t4
    have hA : L2.PA X [y, .Name (tyName t) p2] (L2.tCons (liftE X.K (wE (callW T k) a)) (L2.tCons (L2.tC (.ty (tyOf t))) L2.tNil)) := L2.pa_cons (ha X _ G hN h4) (L2.pa_cons hT L2.pa_nil (star_of rfl)) (star_of h5)
    refine pe_le (L2.pe_callB L2.call_isi (gl_of h2) (G.blt _ (by decide +kernel)) (by decide +kernel) hA (by decide +kernel) (by decide +kernel) (star_of h5) (by rw [star_of rfl]; rfl)) fun σ H Q => ?_
    rintro ⟨m, S, σd, r, g, q⟩
    rw [wE] at q
    refine stepE (mE a) r g q fun x S1 m1 H1 v x1 r1 g1 d1 q1 => ?_
    obtain ⟨b, e, q1⟩ := q1
    exact isi_ok r1 d1 e (q1.shift x1)
  · cases h
theorem mth_attrs : ∀ f : Mth, typeOf (.builtin (mthId f)) = pure (.type "method_descriptor") := by
  intro f
  cases f
  · exact PySem.F.type_list_append
  · exact PySem.F.type_list_insert
  · exact PySem.F.type_list_pop
theorem mth_slot : ∀ f : Mth, Slot "list" (mthName f) (mthId f) := by
  intro f
  cases f
  · exact PySem.F.slot_list_append
  · exact PySem.F.slot_list_insert
  · exact PySem.F.slot_list_pop
end
end Flx

end
section
set_option Elab.async false
set_option linter.all false
set_option maxRecDepth 100000
set_option autoImplicit false
/-! FlxSound2: methods, walks, comprehensions, statements. -/
namespace Flx
open PySem PySem.Spec PyProof.Rows
section
variable {T : List FDef} {N : List Str} {k : Nat}
theorem few_of {l : List Expr} {pos : Pos} {env : Env} (h : noStar l = true) (hl : l.length < 20) :
    ((backTo pos (starEach l env)).all (fun x => !x.1) && (backToKw pos (keywordEach [] env)).all (fun x => x.1.isSome) && decide (l.length + ([] : List Keyword).length + (if ([] : List Keyword).isEmpty then 0 else 1) < 30)) = true := by
  rw [noStar_all h]
  have e : decide (l.length + ([] : List Keyword).length + (if ([] : List Keyword).isEmpty then 0 else 1) < 30) = true := decide_eq_true (by
    simp only [List.length_nil, List.isEmpty_nil, if_true]
    omega)
  rw [e]; rfl
theorem snd_mth {f : Mth} {o : Ex} {es : Exs} (ho : SndE T N k o) (hs : SndA T N k es) : SndE T N k (.mth f o es) := by
  intro X e G hN h
  unfold chkE at h
  split at h
  · rename_i x nm ap l cp
    simp only [Bool.and_eq_true, Bool.not_eq_true', decide_eq_true_eq] at h
    obtain ⟨⟨⟨⟨⟨rfl, h2⟩, h3⟩, h4⟩, h5⟩, h6⟩ := h
    have hst := noStar_chk h6
    have pO := ho X _ G hN h2
    cases l with
    | nil =>
      have e1 : es = .nil := by
        cases es with
        | nil => rfl
        | cons a b => rw [chkEs] at h6; cases h6
      subst e1
      refine pe_le (L2.pe_bm0 PySem.F.plainAttrs_list (mth_slot f) (mth_attrs f) (opMth f) pO (base_of h3) h4) fun σ H Q => ?_
      rintro ⟨m, S, σd, r, g, q⟩
      rw [wE] at q
      refine stepE (mE o) r g q fun x S1 m1 H1 v x1 r1 g1 d1 q1 => ?_
      obtain ⟨q0, q1⟩ := q1
      rw [wEs] at q1
      exact ⟨mth_ty r1 d1 q0, mth_ok r1 d1 (show RDs X.K m1 H1 [] [] from rfl) (mthW_mono (fun _ _ p => Po.shift x1 p) q1)⟩
    | cons e0 l =>
      have hs0 : isStar e0 = false := by
        unfold noStar at hst
        rw [List.all_cons, Bool.and_eq_true] at hst
        simpa using hst.1
      have hsl : noStar l = true := by
        unfold noStar at hst ⊢
        rw [List.all_cons, Bool.and_eq_true] at hst
        exact hst.2
      refine pe_le (L2.pe_bm PySem.F.plainAttrs_list (mth_slot f) (mth_attrs f) (opMth f) pO (hs X _ G hN h6) (base_of h3) (few_of hst h5) h4 (star_of hs0) (noStar_any hsl)) fun σ H Q => ?_
      rintro ⟨m, S, σd, r, g, q⟩
      rw [wE] at q
      refine stepE (mE o) r g q fun x S1 m1 H1 v x1 r1 g1 d1 q1 => ?_
      exact ⟨mth_ty r1 d1 q1.1, stepA (mA es) r1 g1 q1.2 fun xs S2 m2 H2 vs x2 r2 g2 d2 q2 => mth_ok r2 (d1.keep r1 x2) d2 (mthW_mono (fun _ _ p => Po.shift (x1.trans x2) p) q2)⟩
  · cases h
theorem snd_smt {f : SMth} {o a : Ex} (ho : SndE T N k o) (ha : SndE T N k a) : SndE T N k (.smt f o a) := by
  intro X e G hN h
  unfold chkE at h
  split at h
  · simp only [Bool.and_eq_true, Bool.not_eq_true', decide_eq_true_eq] at h
    obtain ⟨⟨⟨⟨⟨rfl, h2⟩, h3⟩, h4⟩, h5⟩, h6⟩ := h
    cases f
    refine pe_le (L2.pe_split (ho X _ G hN h2) (ha X _ G hN h5) (star_of h6) (base_of h3) h4) fun σ H Q => ?_
    rintro ⟨m, S, σd, r, g, q⟩
    rw [wE] at q
    refine stepE (mE o) r g q fun x S1 m1 H1 v x1 r1 g1 d1 q1 => ?_
    obtain ⟨⟨z, rfl⟩, q1⟩ := q1
    refine ⟨⟨z, d1⟩, stepE (mE a) r1 g1 q1 fun y S2 m2 H2 u x2 r2 g2 d2 q2 => ?_⟩
    exact split_ok r2 (d1.keep r1 x2) d2 (smtW_mono (fun _ _ p => Po.shift (x1.trans x2) p) q2)
  · cases h
theorem one_arg {es : Exs} {l : List Expr} {sc : Scope} (h : chkEs T N sc es l = true) (hl : l.length = 1) : ∃ a e, l = [e] ∧ es = .cons a .nil ∧ chkE T N sc a e = true ∧ isStar e = false := by
  cases es with
  | nil =>
    rw [chkEs] at h
    have e : l = [] := by simpa using h
    subst e; cases hl
  | cons a es =>
    cases l with
    | nil => cases hl
    | cons e l =>
      have e1 : l = [] := by simpa using hl
      subst e1
      rw [chkEs] at h
      simp only [Bool.and_eq_true, Bool.not_eq_true'] at h
      cases es with
      | nil => exact ⟨a, e, rfl, rfl, h.1.2, h.1.1⟩
      | cons b es => have h2 := h.2; rw [chkEs] at h2; cases h2
theorem two_args {es : Exs} {l : List Expr} {sc : Scope} (h : chkEs T N sc es l = true) (hl : l.length = 2) :
    ∃ a b e f, l = [e, f] ∧ es = .cons a (.cons b .nil) ∧ chkE T N sc a e = true ∧ isStar e = false ∧ chkE T N sc b f = true ∧ isStar f = false := by
  cases es with
  | nil =>
    rw [chkEs] at h
    have e : l = [] := by simpa using h
    subst e; cases hl
  | cons a es =>
    cases l with
    | nil => cases hl
    | cons e l =>
      rw [chkEs] at h
      simp only [Bool.and_eq_true, Bool.not_eq_true'] at h
      obtain ⟨b, f, rfl, rfl, h3, h4⟩ := one_arg h.2 (by simpa using hl)
      exact ⟨a, b, e, f, rfl, rfl, h.1.2, h.1.1, h3, h4⟩
/-- every item of an argument list -/
def AllE : Exs → Prop
  | .nil => True
  | .cons a es => SndE T N k a ∧ AllE es
theorem sndA_of : ∀ {es : Exs}, AllE (T := T) (N := N) (k := k) es → SndA T N k es
  | .nil, _ => snd_nil
  | .cons a es, h => snd_cons h.1 (sndA_of h.2)
theorem range_in : ("range" : Str) ∈ builtins ∧ ("list" : Str) ∈ builtins ∧ ("enumerate" : Str) ∈ builtins ∧ ("zip" : Str) ∈ builtins ∧ ("reversed" : Str) ∈ builtins := by decide +kernel
theorem rgV_of (a b : Int) {K : K'} {m : List Addr} {H : L2.Hp} : RDs K m H (rgD a b) (L2.rgV a b) := by
  have e1 : rgD a b = ((List.range (b - a).toNat).map fun i : Nat => a + (i : Int)).map D.int := by unfold rgD; rw [List.map_map]; rfl
  have e2 : L2.rgV a b = ((List.range (b - a).toNat).map fun i : Nat => a + (i : Int)).map L2.V.int := by unfold L2.rgV; rw [List.map_map]; rfl
  rw [e1, e2]
  exact RDs.map_int _
theorem lrg_fin {X : L2.Cx} {m : List Addr} {S : St} {H : L2.Hp} {Q : L2.VK} {a b : Int} (r : RS X.K m S H) (h : -(2 ^ 62) ≤ a ∧ a < 2 ^ 62 ∧ -(2 ^ 62) ≤ b ∧ b < 2 ^ 62) (hn : (b - a).toNat ≤ 2 ^ 24)
    (q : Po X.K m S H Q (.ref S.length) (S ++ [.lst (rgD a b)])) : L2.RgOk a b ∧ ∀ p, H p = none → Q (.ref p) (L2.upd H p (.lst (L2.rgV a b))) :=
  ⟨⟨h.1, h.2.1, h.2.2.1, h.2.2.2, hn⟩, new_list r (rgV_of a b) q⟩
theorem snd_lrg {es : Exs} (hs : AllE (T := T) (N := N) (k := k) es) : SndE T N k (.lrg es) := by
  intro X e G hN h
  obtain ⟨b1, b2, _⟩ := range_in
  unfold chkE at h
  split at h
  · simp only [Bool.and_eq_true, decide_eq_true_eq, Bool.or_eq_true, beq_iff_eq] at h
    obtain ⟨⟨⟨⟨⟨rfl, h2⟩, rfl⟩, h3⟩, h4⟩, h5⟩ := h
    rcases h5 with h5 | h5
    · obtain ⟨a, e0, rfl, rfl, ha, sa⟩ := one_arg h4 h5
      refine pe_le (L2.pe_listRg G.calm (gl_of h2) (G.blt _ b2) (L2.prg_1 (gl_of h3) (G.blt _ b1) (hs.1 X _ G hN ha) (star_of sa)) (star_of rfl)) fun σ H Q => ?_
      rintro ⟨m, S, σd, r, g, q⟩
      rw [wE, wEs] at q
      refine stepE (mE a) r g q fun x S1 m1 H1 v x1 r1 g1 d1 q1 => ?_
      rw [wEs] at q1
      cases x <;> first | exact q1.elim | skip
      cases d1
      exact ⟨_, rfl, lrg_fin r1 ⟨by decide, by decide, q1.1, q1.2.1⟩ q1.2.2.1 (q1.2.2.2.shift x1)⟩
    · obtain ⟨a, b, e0, f0, rfl, rfl, ha, sa, hb, sb⟩ := two_args h4 h5
      refine pe_le (L2.pe_listRg G.calm (gl_of h2) (G.blt _ b2) (L2.prg_2 (gl_of h3) (G.blt _ b1) (hs.1 X _ G hN ha) (hs.2.1 X _ G hN hb) (star_of sa) (star_of sb) (by rw [star_of sb]; rfl)) (star_of rfl)) fun σ H Q => ?_
      rintro ⟨m, S, σd, r, g, q⟩
      rw [wE, wEs] at q
      refine stepE (mE a) r g q fun x S1 m1 H1 v x1 r1 g1 d1 q1 => ?_
      rw [wEs] at q1
      refine stepE (mE b) r1 g1 q1 fun y S2 m2 H2 u x2 r2 g2 d2 q2 => ?_
      rw [wEs] at q2
      cases x <;> first | exact q2.elim | skip
      cases y <;> first | exact q2.elim | skip
      cases d1; cases d2
      exact ⟨_, _, rfl, rfl, lrg_fin r2 q2.1 q2.2.1 (q2.2.2.shift (x1.trans x2))⟩
  · cases h

/-! ### walks -/
theorem sndI_seq {a : Ex} (ha : SndE T N k a) : SndI T N k (.seq a) := by
  intro X tg t e sc fb G hN ht h
  rw [chkI] at h
  refine pi_le (pi_any (ha X _ G hN h)) fun σ H Q => ?_
  rintro ⟨m, S, σd, r, g, q⟩
  rw [wI] at q
  refine stepE (mE a) r g q fun x S1 m1 H1 v x1 r1 g1 d1 q1 => ?_
  obtain ⟨xs, e1, q1⟩ := q1
  cases x with
  | tup ys =>
    cases e1
    obtain ⟨p, vs, rfl, h1, h2⟩ := id d1
    exact ⟨p, rfl, .inr ⟨vs, h1, q1 _ _ _ x1 r1 (jok_tup r1 d1)⟩⟩
  | ref n =>
    obtain ⟨p, vs, rfl, h1, h2⟩ := seq_read r1 e1 d1
    exact ⟨p, rfl, .inl ⟨vs, h1, q1 _ _ _ x1 r1 (jok_list r1 d1)⟩⟩
  | _ => cases e1
theorem sndI_rng {es : Exs} (hs : AllE (T := T) (N := N) (k := k) es) : SndI T N k (.rng es) := by
  intro X tg t e sc fb G hN ht h
  obtain ⟨b1, _⟩ := range_in
  unfold chkI at h
  split at h
  · simp only [Bool.and_eq_true, decide_eq_true_eq, Bool.or_eq_true, beq_iff_eq] at h
    obtain ⟨⟨⟨rfl, h3⟩, h4⟩, h5⟩ := h
    rcases h5 with h5 | h5
    · obtain ⟨a, e0, rfl, rfl, ha, sa⟩ := one_arg h4 h5
      refine pi_le (L2.pi_range1 (gl_of h3) (G.blt _ b1) (L2.pa_cons (hs.1 X _ G hN ha) L2.pa_nil (star_of sa)) (by rw [star_of sa]; rfl)) fun σ H Q => ?_
      rintro ⟨m, S, σd, r, g, q⟩
      rw [wI, wEs] at q
      refine stepE (mE a) r g q fun x S1 m1 H1 v x1 r1 g1 d1 q1 => ?_
      rw [wEs] at q1
      cases x <;> first | exact q1.elim | skip
      rename_i i
      cases d1
      refine ⟨_, rfl, q1.1, q1.2.1, q1.2.2 _ _ _ x1 r1 ?_⟩
      have j := jok_rng (K := X.K) (m := m1) (S := S1) (H := H1) (G := noG) (a := 0) (b := i)
      rw [Int.sub_zero] at j
      exact j
    · obtain ⟨a, b, e0, f0, rfl, rfl, ha, sa, hb, sb⟩ := two_args h4 h5
      refine pi_le (L2.pi_range2 (gl_of h3) (G.blt _ b1) (L2.pa_cons (hs.1 X _ G hN ha) (L2.pa_cons (hs.2.1 X _ G hN hb) L2.pa_nil (star_of sb)) (star_of sa)) (by rw [star_of sa, star_of sb]; rfl) (by rw [star_of sb]; rfl)) fun σ H Q => ?_
      rintro ⟨m, S, σd, r, g, q⟩
      rw [wI, wEs] at q
      refine stepE (mE a) r g q fun x S1 m1 H1 v x1 r1 g1 d1 q1 => ?_
      rw [wEs] at q1
      refine stepE (mE b) r1 g1 q1 fun y S2 m2 H2 u x2 r2 g2 d2 q2 => ?_
      rw [wEs] at q2
      cases x <;> first | exact q2.elim | skip
      cases y <;> first | exact q2.elim | skip
      cases d1; cases d2
      exact ⟨_, _, rfl, q2.1, q2.2 _ _ _ (x1.trans x2) r2 jok_rng⟩
  · cases h
theorem sndI_rgd {a b : Ex} (ha : SndE T N k a) (hb : SndE T N k b) : SndI T N k (.rgd a b) := by
  intro X tg t e sc fb G hN ht h
  obtain ⟨b1, _⟩ := range_in
  unfold chkI at h
  split at h
  · simp only [Bool.and_eq_true, decide_eq_true_eq, Bool.not_eq_true'] at h
    obtain ⟨⟨⟨⟨⟨rfl, h3⟩, h4⟩, h5⟩, h6⟩, h7⟩ := h
    refine pi_le (L2.pi_range3 (gl_of h3) (G.blt _ b1) (L2.pa_cons (ha X _ G hN h4) (L2.pa_cons (hb X _ G hN h6) (L2.pa_cons (L2.pe_un L2.un_neg L2.pe_int) L2.pa_nil (star_of rfl)) (star_of h7)) (star_of h5)) (star_of h5) (by rw [star_of h7]; rfl)) fun σ H Q => ?_
    rintro ⟨m, S, σd, r, g, q⟩
    rw [wI] at q
    refine stepE (mE a) r g q fun x S1 m1 H1 v x1 r1 g1 d1 q1 => stepE (mE b) r1 g1 q1 fun y S2 m2 H2 u x2 r2 g2 d2 q2 => ?_
    obtain ⟨i, j, rfl, rfl, q3, q2⟩ := q2
    cases d1; cases d2
    exact ⟨1, rfl, i, j, -1, (i - j).toNat, rfl, L2.RgC.neg q3.1 q3.2.1 q3.2.2.1 q3.2.2.2, q2 _ _ _ (x1.trans x2) r2 jok_rgd⟩
  · cases h
theorem tup_of {sc : Scope} {fb : Str → Bool} {tg : Tg} {t : Expr} (h : chkG N sc fb tg t = true) (h2 : isTp tg = true) : ∃ l c p, t = .Tuple l c p := by
  cases tg with
  | nm i => cases h2
  | tp ts =>
    unfold chkG at h
    split at h
    · exact ⟨_, _, _, rfl⟩
    · cases h
theorem sndI_enm {a : Ex} (ha : SndE T N k a) : SndI T N k (.enm a) := by
  intro X tg t e sc fb G hN ht h
  obtain ⟨_, _, b3, _⟩ := range_in
  unfold chkI at h
  split at h
  · simp only [Bool.and_eq_true, decide_eq_true_eq, Bool.not_eq_true'] at h
    obtain ⟨⟨⟨⟨rfl, h3⟩, h4⟩, h5⟩, h6⟩ := h
    obtain ⟨l, c, p, rfl⟩ := tup_of ht h6
    refine pi_le (pi_enumG (gl_of h3) (G.blt _ b3) (L2.pa_cons (ha X _ G hN h4) L2.pa_nil (star_of h5)) (by rw [star_of h5]; rfl)) fun σ H Q => ?_
    rintro ⟨m, S, σd, r, g, q⟩
    rw [wI] at q
    refine stepE (mE a) r g q fun x S1 m1 H1 v x1 r1 g1 d1 q1 => ?_
    obtain ⟨xs, e1, q1⟩ := q1
    obtain ⟨c1, p1, vs, rfl, h10, _, k1⟩ := hk_of r1 e1 d1
    exact ⟨p1, vs, c1, rfl, h10, q1 _ _ _ x1 r1 (jok_enumG k1)⟩
  · cases h
theorem sndI_zip {a b : Ex} (ha : SndE T N k a) (hb : SndE T N k b) : SndI T N k (.zip a b) := by
  intro X tg t e sc fb G hN ht h
  obtain ⟨_, _, _, b4, _⟩ := range_in
  unfold chkI at h
  split at h
  · simp only [Bool.and_eq_true, decide_eq_true_eq, Bool.not_eq_true'] at h
    obtain ⟨⟨⟨⟨⟨⟨rfl, h3⟩, h4⟩, h5⟩, h6⟩, h7⟩, h8⟩ := h
    obtain ⟨l, c, p, rfl⟩ := tup_of ht h8
    refine pi_le (pi_zipG (gl_of h3) (G.blt _ b4) (L2.pa_cons (ha X _ G hN h4) (L2.pa_cons (hb X _ G hN h6) L2.pa_nil (star_of h7)) (star_of h5)) (star_of h5) (by rw [star_of h7]; rfl)) fun σ H Q => ?_
    rintro ⟨m, S, σd, r, g, q⟩
    rw [wI] at q
    refine stepE (mE a) r g q fun x S1 m1 H1 v x1 r1 g1 d1 q1 => stepE (mE b) r1 g1 q1 fun y S2 m2 H2 u x2 r2 g2 d2 q2 => ?_
    obtain ⟨xs, ys, e1, e2, q2⟩ := q2
    obtain ⟨c1, p1, vs, rfl, h10, _, k1⟩ := hk_of r2 e1 (d1.keep r1 x2)
    obtain ⟨c2, p2, us, rfl, h11, _, k2⟩ := hk_of r2 e2 d2
    exact ⟨p1, p2, vs, us, c1, c2, rfl, h10, h11, q2 _ _ _ (x1.trans x2) r2 (jok_zip k1 k2)⟩
  · cases h
theorem sndI_rev {a : Ex} (ha : SndE T N k a) : SndI T N k (.rev a) := by
  intro X tg t e sc fb G hN ht h
  obtain ⟨_, _, _, _, b5⟩ := range_in
  unfold chkI at h
  split at h
  · simp only [Bool.and_eq_true, decide_eq_true_eq, Bool.not_eq_true'] at h
    obtain ⟨⟨⟨rfl, h3⟩, h4⟩, h5⟩ := h
    refine pi_le (RT.pi_revA (gl_of h3) (G.blt _ b5) (ha X _ G hN h4) (star_of h5)) fun σ H Q => ?_
    rintro ⟨m, S, σd, r, g, q⟩
    rw [wI] at q
    refine stepE (mE a) r g q fun x S1 m1 H1 v x1 r1 g1 d1 q1 => ?_
    obtain ⟨xs, e1, q1⟩ := q1
    cases x with
    | tup ys =>
      cases e1
      obtain ⟨p, vs, rfl, h1, h2⟩ := id d1
      exact ⟨p, vs, rfl, .inr ⟨h1, q1 _ _ _ x1 r1 (jok_rev_tup r1 d1 h2)⟩⟩
    | ref n =>
      obtain ⟨p, vs, rfl, h1, h2⟩ := seq_read r1 e1 d1
      exact ⟨p, vs, rfl, .inl ⟨h1, q1 _ _ _ x1 r1 (jok_rev_list r1 d1 h2)⟩⟩
    | _ => cases e1
  · cases h

/-! ### targets -/
mutual
theorem snd_tg : ∀ (tg : Tg) (X : L2.Cx) (fb : Str → Bool) (t : Expr), X.calm = true → X.N.Nodup → (∀ x, fb x = true → X.fn x = true) → chkG X.N X.env.scope fb tg t = true → L2.PG X t (gR X.K tg)
  | .nm i, X, fb, t, hc, hn, hf, h => by
    unfold chkG at h
    split at h
    · rename_i x p
      simp only [Bool.and_eq_true, decide_eq_true_eq] at h
      rw [gR]
      have h2 := h.2
      unfold locB at h2
      split at h2
      · exact L2.pg_name hn h.1 (.inl (by assumption)) (.inr (by assumption))
      · exact L2.pg_name hn h.1 (.inr (by assumption)) (.inl (hf _ h2))
      · cases h2
    · cases h
  | .tp ts, X, fb, t, hc, hn, hf, h => by
    unfold chkG at h
    split at h
    · rw [gR]
      obtain ⟨h1, h2⟩ := noStar_tgs (env := X.env) h
      exact L2.pg_tup hc (snd_tgs ts X fb _ hc hn hf h) h1 h2
    · cases h
theorem snd_tgs : ∀ (ts : Tgs) (X : L2.Cx) (fb : Str → Bool) (l : List Expr), X.calm = true → X.N.Nodup → (∀ x, fb x = true → X.fn x = true) → chkGs X.N X.env.scope fb ts l = true → L2.PGs X l (gRs X.K ts)
  | .nil, X, fb, l, hc, hn, hf, h => by
    rw [chkGs] at h
    have e : l = [] := by simpa using h
    subst e
    rw [gRs]
    exact L2.pgs_nil
  | .cons t ts, X, fb, l, hc, hn, hf, h => by
    cases l with
    | nil => rw [chkGs] at h; cases h
    | cons e l =>
      rw [chkGs] at h
      simp only [Bool.and_eq_true, Bool.not_eq_true'] at h
      rw [gRs]
      exact L2.pgs_cons (snd_tg t X fb e hc hn hf h.1.2) (snd_tgs ts X fb l hc hn hf h.2) (by rw [assignStar_of h.1.1]; rfl)
end
theorem sndC_nil : SndC T N k .nil := by
  intro X l G hN h
  rw [chkC] at h
  have e : l = [] := by simpa using h
  subst e
  refine pts_le L2.pts_nil fun σ H Q => ?_
  rintro ⟨m, S, σd, r, g, q⟩
  rw [wC] at q
  exact q _ _ .refl r
theorem sndC_one {a : Ex} (ha : SndT T N k a) : SndC T N k (.cons a .nil) := by
  intro X l G hN h
  unfold chkC at h
  split at h
  · simp only [Bool.and_eq_true] at h
    refine pts_le (L2.pts_one (ha X _ G hN h.1 h.2)) fun σ H Q => ?_
    rintro ⟨m, S, σd, r, g, q⟩
    rw [wC] at q
    exact ⟨m, S, σd, r, g, q⟩
  · cases h
/-- a comprehension's rule and what it asks -/
theorem lc_le {X : L2.Cx} {elt : Ex} {tg : Tg} {it : It} {ifs : Exs} {own : List Nat} (h3 : tgIn own tg = true) : ∀ σ H Q, liftE X.K (wE (callW T k) (.lc elt tg it ifs own)) σ H Q →
    L2.tLc (liftI X.K (wI (callW T k) it)) (gR X.K tg) (liftT X.K (wC (callW T k) ifs)) (liftE X.K (wE (callW T k) elt)) own σ H Q := by
  rintro σ H Q ⟨m, S, σd, r, g, q⟩
  rw [wE] at q
  refine ⟨m, S, σd, r, g, wI_mono (callW_mono T k) it _ _ _ _ (fun G' xs S1 q1 => ?_) q⟩
  intro m1 H1 J x1 r1 hJ
  exact lc_ok (mC ifs) (mE elt) r1 (g.keep r x1) hJ h3 q1.1 (fun _ _ _ z => z) (fun _ _ _ z => z)
    (lcW_mono (fun σ S Q Q' => wC_mono (callW_mono T k) ifs σ S Q Q') (fun σ S Q Q' => wE_mono (callW_mono T k) elt σ S Q Q') xs [] S1 _ _ (fun acc S2 p => p.shift x1) q1.2)
theorem own_snd (own : List Nat) : (own.map fun j => (N.getD j "", j)).map (·.2) = own := by
  rw [List.map_map]
  exact List.map_id own
/-- what a looked-at comprehension brings -/
theorem lc_parts {elt : Ex} {tg : Tg} {it : It} {ifs : Exs} {own : List Nat} (he : SndE T N k elt) (hi : SndI T N k it) (hc : SndC T N k ifs) {X : L2.Cx} {y t i : Expr} {fs : List Expr} {scope : Scope} (G : Gd X T k) (hN : X.N = N)
    (h1 : L2.blkC N X.env.scope scope (own.map fun j => (N.getD j "", j)) = true) (h4 : chkG N (L2.relS scope X.env.scope) (fun x => scope.names.lookup x == some .cell) tg t = true)
    (h5 : chkI T N X.env.scope tg it i = true) (h6 : chkC T N (L2.relS scope X.env.scope) ifs fs = true) (h7 : chkE T N (L2.relS scope X.env.scope) elt y = true) :
    L2.PI X t i (liftI X.K (wI (callW T k) it)) ∧ L2.BlkOk X.N X.env.scope scope (own.map fun j => (N.getD j "", j)) ∧
    (∀ (s : Shared) (H : L2.Hp) (C : Addr) (cl : List (Str × Addr)) (fp : List Addr), L2.PG (X.blk s H scope (compEnvC scope cl C X.env) fp) t (gR X.K tg)) ∧
    (∀ (s : Shared) (H : L2.Hp) (C : Addr) (cl : List (Str × Addr)) (fp : List Addr), L2.PTs (X.blk s H scope (compEnvC scope cl C X.env) fp) fs (liftT X.K (wC (callW T k) ifs))) ∧
    (∀ (s : Shared) (H : L2.Hp) (C : Addr) (cl : List (Str × Addr)) (fp : List Addr), L2.PE (X.blk s H scope (compEnvC scope cl C X.env) fp) y (liftE X.K (wE (callW T k) elt))) := by
  subst hN
  exact ⟨hi X tg t i _ _ G rfl h4 h5, L2.blkOk_by h1, fun s H C cl fp => snd_tg tg (X.blk s H scope (compEnvC scope cl C X.env) fp) _ t G.calm G.nd (fun _ z => z) h4,
    fun s H C cl fp => hc (X.blk s H scope (compEnvC scope cl C X.env) fp) fs (G.blk _ _ _ _ _) rfl h6,
    fun s H C cl fp => he (X.blk s H scope (compEnvC scope cl C X.env) fp) y (G.blk _ _ _ _ _) rfl h7⟩
theorem snd_lc {elt : Ex} {tg : Tg} {it : It} {ifs : Exs} {own : List Nat} (he : SndE T N k elt) (hi : SndI T N k it) (hc : SndC T N k ifs) : SndE T N k (.lc elt tg it ifs own) := by
  intro X e G hN h
  unfold chkE at h
  split at h
  · rename_i y t i fs scope pos
    simp only [Bool.and_eq_true, Bool.not_eq_true'] at h
    obtain ⟨⟨⟨⟨⟨⟨h1, h3⟩, h4⟩, h5⟩, h5'⟩, h6⟩, h7⟩ := h
    obtain ⟨p1, p2, p3, p4, p5⟩ := lc_parts he hi hc G hN h1 h4 h5 h6 h7
    have P := L2.pe_lc (pos := pos) G.calm G.nd p1 p2 p3 p4 p5 (set_of h5')
    rw [own_snd] at P
    exact pe_le P (lc_le h3)
  · cases h
end
end Flx

end
section
set_option Elab.async false
set_option linter.all false
set_option maxRecDepth 100000
set_option autoImplicit false
/-! FlxSound3: all expressions, statements, defs, the table. -/
namespace Flx
open PySem PySem.Spec PyProof.Rows
section
variable {T : List FDef} {N : List Str} {k : Nat}
def XE (T : List FDef) (N : List Str) (k : Nat) (ex : Ex) : Prop := SndE T N k ex ∧ SndT T N k ex ∧ SndW (T := T) (N := N) (k := k) ex
theorem leafX {ex : Ex} (h : SndE T N k ex) (ht : ∀ sc e, chkT T N sc ex e = plainT e) (hw : ∀ sc op x y r p, chkE T N sc ex (.BoolOp op (x :: y :: r) p) = false) : XE T N k ex :=
  ⟨h, fun X e G hN h1 h2 => truth_of (h X e G hN h1) (by rw [← ht X.env.scope e]; exact h2), fun X op x y r p G hN h1 _ => by rw [hw] at h1; cases h1⟩
mutual
theorem allE : ∀ ex : Ex, XE T N k ex
  | .var i => leafX (snd_var i) (fun _ _ => rfl) fun _ _ _ _ _ _ => rfl
  | .cint i => leafX (snd_int i) (fun _ _ => rfl) fun _ _ _ _ _ _ => rfl
  | .cstr i => leafX (snd_str i) (fun _ _ => rfl) fun _ _ _ _ _ _ => rfl
  | .cbl i => leafX (snd_bl i) (fun _ _ => rfl) fun _ _ _ _ _ _ => rfl
  | .cnon => leafX snd_non (fun _ _ => rfl) fun _ _ _ _ _ _ => rfl
  | .bin op a b => leafX (snd_bin (allE a).1 (allE b).1) (fun _ _ => rfl) fun _ _ _ _ _ _ => rfl
  | .neg a => leafX (snd_neg (allE a).1) (fun _ _ => rfl) fun _ _ _ _ _ _ => rfl
  | .cmp op a b => ⟨snd_cmp (allE a).1 (allE b).1, sndT_cmp (allE a).1 (allE b).1, fun X op x y r p G hN h1 _ => by have e : false = true := h1; cases e⟩
  | .cmp2 op op' a b c => ⟨snd_cmp2 (allE a).1 (allE b).1 (allE c).1, sndT_cmp2 (allE a).1 (allE b).1 (allE c).1, fun X op x y r p G hN h1 _ => by have e : false = true := h1; cases e⟩
  | .cmp3 op op' op2 a b c d => ⟨snd_cmp3 (allE a).1 (allE b).1 (allE c).1 (allE d).1, sndT_cmp3 (allE a).1 (allE b).1 (allE c).1 (allE d).1, fun X op x y r p G hN h1 _ => by have e : false = true := h1; cases e⟩
  | .and a b =>
    have w := sndW_and (allE a).2.1 (allE b).2.1 (allE b).2.2
    ⟨snd_and (allE a).1 (allE b).1, sndT_and w, w⟩
  | .or a b =>
    have w := sndW_or (allE a).2.1 (allE b).2.1 (allE b).2.2
    ⟨snd_or (allE a).1 (allE b).1, sndT_or w, w⟩
  | .not a => ⟨snd_not (allE a).1, sndT_not (allE a).2.1, fun X op x y r p G hN h1 _ => by have e : false = true := h1; cases e⟩
  | .ite c a b => leafX (snd_ite (allE c).2.1 (allE a).1 (allE b).1) (fun _ _ => rfl) fun _ _ _ _ _ _ => rfl
  | .tup es => leafX (snd_tup (sndA_of (allEs es))) (fun _ _ => rfl) fun _ _ _ _ _ _ => rfl
  | .lst es => leafX (snd_lst (sndA_of (allEs es))) (fun _ _ => rfl) fun _ _ _ _ _ _ => rfl
  | .ix a b => leafX (snd_ix (allE a).1 (allE b).1) (fun _ _ => rfl) fun _ _ _ _ _ _ => rfl
  | .sl a lo hi => leafX (snd_sl (allE a).1 (allO lo) (allO hi)) (fun _ _ => rfl) fun _ _ _ _ _ _ => rfl
  | .call f es => leafX (snd_call (sndA_of (allEs es))) (fun _ _ => rfl) fun _ _ _ _ _ _ => rfl
  | .blt f es => leafX (snd_blt (sndA_of (allEs es))) (fun _ _ => rfl) fun _ _ _ _ _ _ => rfl
  | .isi a t => leafX (snd_isi (allE a).1) (fun _ _ => rfl) fun _ _ _ _ _ _ => rfl
  | .mth m o es => leafX (snd_mth (allE o).1 (sndA_of (allEs es))) (fun _ _ => rfl) fun _ _ _ _ _ _ => rfl
  | .smt m o e => leafX (snd_smt (allE o).1 (allE e).1) (fun _ _ => rfl) fun _ _ _ _ _ _ => rfl
  | .lrg es => leafX (snd_lrg (allEs es)) (fun _ _ => rfl) fun _ _ _ _ _ _ => rfl
  | .lc elt tg it ifs own => leafX (snd_lc (allE elt).1 (allI it) (allC ifs)) (fun _ _ => rfl) fun _ _ _ _ _ _ => rfl
theorem allI : ∀ it : It, SndI T N k it
  | .seq e => sndI_seq (allE e).1
  | .rng es => sndI_rng (allEs es)
  | .rgd a b => sndI_rgd (allE a).1 (allE b).1
  | .enm e => sndI_enm (allE e).1
  | .zip a b => sndI_zip (allE a).1 (allE b).1
  | .rev e => sndI_rev (allE e).1
theorem allEs : ∀ es : Exs, AllE (T := T) (N := N) (k := k) es
  | .nil => trivial
  | .cons a es => ⟨(allE a).1, allEs es⟩
theorem allO : ∀ o : ExO, SndO T N k o
  | .none => snd_none
  | .some a => snd_some (allE a).1
theorem allC : ∀ es : Exs, SndC T N k es
  | .nil => sndC_nil
  | .cons a .nil => sndC_one (allE a).2.1
  | .cons a (.cons b es) => fun X l G hN h => by have e : false = true := h; cases e
end

/-! ### statements -/
/-- the context of a def's body: nothing leaves it but by return -/
structure Gs (X : L2.Cx) (T : List FDef) (k : Nat) : Prop extends Gd X T k where
  fn' : ∀ x, X.fn x = true
  xe : X.xe = fun _ _ => False
  kind : X.env.scope.kind = .function
def SndS (T : List FDef) (N : List Str) (k : Nat) (sm : Sm) : Prop := ∀ (X : L2.Cx) (s : Stmt), Gs X T k → X.N = N → chkS T N X.env.scope sm s = true → L2.PS X s (liftS X.K (wS (callW T k) sm))
def SndSs (T : List FDef) (N : List Str) (k : Nat) (sm : Sms) : Prop := ∀ (X : L2.Cx) (s : List Stmt), Gs X T k → X.N = N → chkSs T N X.env.scope sm s = true → L2.PSs X s (liftS X.K (wSs (callW T k) sm))
theorem never_of {X : L2.Cx} (G : Gs X T k) : PassesOwn (model X.prog X.w) X.A X.env X.xe := by
  rw [G.xe]
  exact PassesOwn.never
theorem loc_of {sc : Scope} {x : Str} (h : locB sc (fun _ => true) x = true) : L2.Loc sc x := by
  unfold locB at h
  split at h
  · exact .inl (by assumption)
  · exact .inr (by assumption)
  · cases h
theorem sw_false {e : Expr} {y : Str} {yp : Pos} {l : Nat} {env : Env} (hk : env.scope.kind = .function) (h : isComp e = false ∨ isLC e = true) :
    (swapsWith e (some (.Name y yp)) l env = pure false) ∨ ∃ elt gs scope p, e = .ListComp elt gs scope p ∧ env.scope.names.lookup y = some .local ∧ swapsWith e (some (.Name y yp)) l env = pure true := by
  rcases h with h | h
  · exact .inl (sw_of h)
  · cases e <;> first | (cases h; done) | skip
    rename_i elt gs scope p
    by_cases h1 : env.scope.names.lookup y = some .local ∧ (yp.line == p.line) = true ∧ (scope.names.any fun (n, k) => n == y && (k == .local || k == .cell)) = false
    · exact .inr ⟨elt, gs, scope, p, rfl, h1.1, L2.sw_true hk h1.1 h1.2.1 h1.2.2⟩
    · refine .inl ?_
      have hb : env.blockKind = .function := by unfold Env.blockKind; rw [hk]; rfl
      have e0 : swapsWith (.ListComp elt gs scope p) (some (.Name y yp)) l env = pure (env.blockKind == .function && env.kindOf y == some .local && yp.line == p.line && !(scope.names.any fun (n, k) => n == y && (k == .local || k == .cell))) := by
        unfold swapsWith
        rfl
      rw [e0]
      congr 1
      rw [hb]
      cases hl : (yp.line == p.line) with
      | false => simp
      | true =>
        cases ha : (scope.names.any fun (n, k) => n == y && (k == .local || k == .cell)) with
        | true => simp
        | false =>
          have hy : ¬ env.scope.names.lookup y = some .local := fun g => h1 ⟨g, hl, ha⟩
          have ky : (env.kindOf y == some .local) = false := by
            show (env.scope.names.lookup y == some .local) = false
            cases g : (env.scope.names.lookup y == some NameKind.local) with
            | false => rfl
            | true => exact absurd (eq_of_beq g) hy
          rw [ky]; rfl
theorem snd_set {i : Nat} {x : Ex} (hx : SndE T N k x) (hlc : ∀ elt tg it ifs own, x = .lc elt tg it ifs own → SndE T N k elt ∧ SndI T N k it ∧ SndC T N k ifs) : SndS T N k (.set i x) := by
  intro X s G hN h
  unfold chkS at h
  split at h
  · rename_i y yp e pos
    simp only [Bool.and_eq_true, decide_eq_true_eq] at h
    obtain ⟨⟨⟨h1, h2⟩, h3⟩, h4⟩ := h
    have h4' : isComp e = false ∨ isLC e = true := by simpa using h4
    have fin : ∀ {te : L2.TE}, (∀ σ H Q, liftE X.K (wE (callW T k) x) σ H Q → te σ H Q) → ∀ D σ H, liftS X.K (wS (callW T k) (.set i x)) D σ H → L2.tAsg te (L2.gName i) D σ H := by
      rintro te hle D σ H ⟨m, S, σd, E, r, g, o, q⟩
      rw [wS] at q
      refine hle _ _ _ (stepE (mE x) r g q fun d S1 m1 H1 v x1 r1 g1 d1 q1 => ?_)
      exact o.nx _ _ _ _ _ x1 r1 (g1.set d1) q1
    rcases sw_false (l := pos.line) G.kind h4' with hs | ⟨elt, gs, scope, p, rfl, hy, hs⟩
    · exact ps_le (L2.ps_set G.nd (by rw [hN]; exact h1) (loc_of h2) (hx X _ G.toGd hN h3) hs (.inl (G.fn' _))) (fin fun _ _ _ q => q)
    · -- a comprehension, exchanged with its variables
      cases x <;> first | (have e : false = true := h3; cases e; done) | skip
      rename_i elt' tg it ifs own
      obtain ⟨he, hi, hc⟩ := hlc _ _ _ _ _ rfl
      unfold chkE at h3
      split at h3
      · rename_i y' t i' fs scope' pos' heq
        cases heq
        simp only [Bool.and_eq_true, Bool.not_eq_true'] at h3
        obtain ⟨⟨⟨⟨⟨⟨h31, h33⟩, h34⟩, h35⟩, h35'⟩, h36⟩, h37⟩ := h3
        obtain ⟨p1, p2, p3, p4, p5⟩ := lc_parts he hi hc G.toGd hN h31 h34 h35 h36 h37
        have P := L2.ps_setLc (spos := pos) G.calm G.nd (by rw [hN]; exact h1) hy hs p1 p2 p3 p4 p5 (set_of h35')
        rw [own_snd] at P
        exact ps_le P (fin (lc_le h33))
      · cases h3
  · cases h
theorem snd_setT {ts : Tgs} {x : Ex} (hx : SndE T N k x) : SndS T N k (.setT ts x) := by
  intro X s G hN h
  unfold chkS at h
  split at h
  · rename_i l c p e pos
    simp only [Bool.and_eq_true, Bool.not_eq_true'] at h
    obtain ⟨⟨⟨h1, h2⟩, h3⟩, h4⟩ := h
    have hg : L2.PG X (.Tuple l c p) (gR X.K (.tp ts)) := snd_tg (.tp ts) X (fun _ => true) _ G.calm G.nd (fun x _ => G.fn' x) (by unfold chkG; rw [hN]; exact h1)
    have hw : swappedStores [.Tuple l c p] e X.env = pure none := by cases e <;> first | rfl | cases h4
    refine ps_le (L2.ps_asg (hx X _ G.toGd hN h2) hg (by cases e <;> first | rfl | cases h3) hw rfl) ?_
    rintro D σ H ⟨m, S, σd, E, r, g, o, q⟩
    rw [wS] at q
    refine stepE (mE x) r g q fun d S1 m1 H1 v x1 r1 g1 d1 q1 => ?_
    obtain ⟨σ', e1, q1⟩ := q1
    exact gR_ok (.tp ts) g1 d1 e1 fun σ2 g2 => o.nx _ _ _ _ _ x1 r1 g2 q1
  · cases h
theorem snd_setIx {o i x : Ex} (ho : SndE T N k o) (hi : SndE T N k i) (hx : SndE T N k x) : SndS T N k (.setIx o i x) := by
  intro X s G hN h
  unfold chkS at h
  split at h
  · rename_i y z p e pos
    simp only [Bool.and_eq_true, Bool.not_eq_true'] at h
    obtain ⟨⟨⟨⟨h1, h2⟩, h3⟩, h4⟩, h5⟩ := h
    have hg := L2.pg_sub (X := X) (pos := p) (ho X _ G.toGd hN h3) (hi X _ G.toGd hN h4) L2.set_list (fun v => by cases z <;> first | rfl | cases h5)
    refine ps_le (L2.ps_asg (hx X _ G.toGd hN h1) hg (by cases e <;> first | rfl | cases h2) (by cases e <;> rfl) rfl) ?_
    rintro D σ H ⟨m, S, σd, E, r, g, oo, q⟩
    rw [wS] at q
    refine stepE (mE x) r g q fun d S1 m1 H1 v x1 r1 g1 d1 q1 => stepE (mE o) r1 g1 q1 fun d' S2 m2 H2 v' x2 r2 g2 d2 q2 => stepE (mE i) r2 g2 q2 fun d'' S3 m3 H3 v'' x3 r3 g3 d3 q3 => ?_
    refine setIx_ok r3 (d2.keep r2 x3) d3 ((d1.keep r1 x2).keep r2 x3) (setIxW_mono (fun S4 q4 => ?_) q3)
    intro H4 x4 r4
    exact oo.nx _ _ _ _ _ (((x1.trans x2).trans x3).trans x4) r4 (g3.keep r3 x4) q4
  · cases h
theorem snd_ex {x : Ex} (hx : SndE T N k x) : SndS T N k (.ex x) := by
  intro X s G hN h
  unfold chkS at h
  split at h
  · rename_i e pos
    simp only [Bool.and_eq_true] at h
    refine ps_le (L2.ps_expr (hx X _ G.toGd hN h.1) (by have h2 := h.2; cases e <;> first | rfl | cases h2)) ?_
    rintro D σ H ⟨m, S, σd, E, r, g, o, q⟩
    rw [wS] at q
    exact stepE (mE x) r g q fun d S1 m1 H1 v x1 r1 g1 d1 q1 => o.nx _ _ _ _ _ x1 r1 g1 q1
  · cases h
theorem snd_if {c : Ex} {a b : Sms} (hc : SndT T N k c) (ha : SndSs T N k a) (hb : SndSs T N k b) : SndS T N k (.ite c a b) := by
  intro X s G hN h
  unfold chkS at h
  split at h
  · simp only [Bool.and_eq_true] at h
    refine ps_le (L2.ps_if (hc X _ G.toGd hN h.1.1.1 h.1.1.2) (ha X _ G hN h.1.2) (hb X _ G hN h.2)) ?_
    rintro D σ H ⟨m, S, σd, E, r, g, o, q⟩
    rw [wS] at q
    refine stepT (mT c) r g q fun d S1 m1 H1 x1 r1 g1 q1 => ?_
    cases d with
    | true =>
      rw [if_pos rfl] at q1 ⊢
      exact ⟨m1, S1, σd, E, r1, g1, o.shift x1, q1⟩
    | false =>
      rw [if_neg Bool.false_ne_true] at q1 ⊢
      exact ⟨m1, S1, σd, E, r1, g1, o.shift x1, q1⟩
  · cases h
theorem snd_for {tg : Tg} {it : It} {b : Sms} (hi : SndI T N k it) (hb : SndSs T N k b) : SndS T N k (.for tg it b) := by
  intro X s G hN h
  unfold chkS at h
  split at h
  · simp only [Bool.and_eq_true, Bool.not_eq_true'] at h
    obtain ⟨⟨⟨h1, h2⟩, h3⟩, h4⟩ := h
    have hg := snd_tg tg X (fun _ => true) _ G.calm G.nd (fun x _ => G.fn' x) (by rw [hN]; exact h1)
    refine ps_le (L2.ps_for (never_of G) G.calm (hi X tg _ _ _ _ G.toGd hN h1 h2) hg (hb X _ G hN h4) (set_of h3)) ?_
    rintro D σ H ⟨m, S, σd, E, r, g, o, q⟩
    rw [wS] at q
    refine ⟨m, S, σd, r, g, wI_mono (callW_mono T k) it _ _ _ _ (fun G' xs S1 q1 => ?_) q⟩
    intro m1 H1 J x1 r1 hJ
    exact for_ok r1 (g.keep r x1) (o.shift x1) hJ (fun _ _ _ z => z) q1
  · cases h
theorem snd_whl {c : Ex} {b : Sms} (hc : SndT T N k c) (hb : SndSs T N k b) : SndS T N k (.whl c b) := by
  intro X s G hN h
  unfold chkS at h
  split at h
  · simp only [Bool.and_eq_true] at h
    refine ps_le (L2.ps_while (never_of G) (hc X _ G.toGd hN h.1.1 h.1.2) (hb X _ G hN h.2)) ?_
    rintro D σ H ⟨m, S, σd, E, r, g, o, q⟩
    rw [wS] at q
    obtain ⟨n, q⟩ := q
    exact whl_ok (mT c) r g o (fun _ _ _ z => z) (fun _ _ _ z => z) q
  · cases h
theorem star_any {l : List Expr} (h : noStar l = true) : (l.any fun | .Starred .. => true | _ => false) = false := by
  induction l with
  | nil => rfl
  | cons e r ih =>
    unfold noStar at h ih
    rw [List.all_cons, Bool.and_eq_true] at h
    rw [List.any_cons, ih h.2]
    cases e <;> first | rfl | (cases h.1)
theorem swap2 {x y : Str} {px py kp kp2 : Pos} {kt k2 : Nat} {a b : Expr} {env : Env} (hk : env.scope.kind = .function) (hx : env.scope.names.lookup x = some .local) (hy : env.scope.names.lookup y = some .local) (hxy : (x == y) = false) (hl : (py.line == px.line) = true)
    (hs : noStar [a, b] = true) (h1 : [a, b].all (foldedForSure 8) = false) (h2 : [a, b].all (constantsAlone 8) = false) :
    swappedStores [.Tuple [.Name x px, .Name y py] kt kp] (.Tuple [a, b] k2 kp2) env = pure (some [x, y]) := by
  have hb : env.blockKind = .function := by unfold Env.blockKind; rw [hk]; rfl
  have kx : (env.kindOf x == some .local) = true := by show (env.scope.names.lookup x == some .local) = true; rw [hx]; rfl
  have ky : (env.kindOf y == some .local) = true := by show (env.scope.names.lookup y == some .local) = true; rw [hy]; rfl
  have hst := star_any hs
  have hxy' : ¬ x = y := by simpa using hxy
  have hd : [x, y].eraseDups = [x, y] := by
    have h' : (y == x) = false := by rw [← hxy]; exact Bool.beq_comm
    simp [List.eraseDups, List.eraseDupsBy, List.eraseDupsBy.loop, h']
  unfold swappedStores
  simp only [List.length_cons, List.length_nil, hb, hst, List.filterMap_cons, List.filterMap_nil, kx, ky, hl, List.head?_cons, Option.map_some, Option.getD_some, Expr.pos, hd, h1, h2]
  have s1 : isStar a = false := by unfold noStar at hs; simp at hs; exact hs.1
  have s2 : isStar b = false := by unfold noStar at hs; simp at hs; exact hs.2
  simp
  rw [hd]
  split
  · cases s1
  · split
    · cases s2
    · rfl
theorem swap3 {x y z : Str} {px py pz kp kp2 : Pos} {kt k2 : Nat} {a b c : Expr} {env : Env} (hk : env.scope.kind = .function) (hx : env.scope.names.lookup x = some .local) (hy : env.scope.names.lookup y = some .local) (hz : env.scope.names.lookup z = some .local)
    (hxy : (x == y) = false) (hxz : (x == z) = false) (hyz : (y == z) = false) (hl : (py.line == px.line) = true) (hl2 : (pz.line == px.line) = true)
    (hs : noStar [a, b, c] = true) (h1 : [a, b, c].all (foldedForSure 8) = false) (h2 : [a, b, c].all (constantsAlone 8) = false) :
    swappedStores [.Tuple [.Name x px, .Name y py, .Name z pz] kt kp] (.Tuple [a, b, c] k2 kp2) env = pure (some [x, y, z]) := by
  have hb : env.blockKind = .function := by unfold Env.blockKind; rw [hk]; rfl
  have kx : (env.kindOf x == some .local) = true := by show (env.scope.names.lookup x == some .local) = true; rw [hx]; rfl
  have ky : (env.kindOf y == some .local) = true := by show (env.scope.names.lookup y == some .local) = true; rw [hy]; rfl
  have kz : (env.kindOf z == some .local) = true := by show (env.scope.names.lookup z == some .local) = true; rw [hz]; rfl
  have hst := star_any hs
  have hd : [x, y, z].eraseDups = [x, y, z] := by
    have h1 : (y == x) = false := by rw [← hxy]; exact Bool.beq_comm
    have h2 : (z == x) = false := by rw [← hxz]; exact Bool.beq_comm
    have h3 : (z == y) = false := by rw [← hyz]; exact Bool.beq_comm
    simp [List.eraseDups, List.eraseDupsBy, List.eraseDupsBy.loop, h1, h2, h3]
  unfold swappedStores
  simp only [List.length_cons, List.length_nil, hb, hst, List.filterMap_cons, List.filterMap_nil, kx, ky, kz, hl, hl2, List.head?_cons, Option.map_some, Option.getD_some, Expr.pos, hd, h1, h2]
  have s1 : isStar a = false := by unfold noStar at hs; simp at hs; exact hs.1
  have s2 : isStar b = false := by unfold noStar at hs; simp at hs; exact hs.2.1
  have s3 : isStar c = false := by unfold noStar at hs; simp at hs; exact hs.2.2
  simp
  rw [hd]
  split
  · cases s1
  · split
    · cases s2
    · split
      · cases s3
      · rfl
theorem snd_par {is : List Nat} {es : Exs} (hs : SndA T N k es) : SndS T N k (.par is es) := by
  intro X s G hN h
  unfold chkS at h
  split at h
  · rename_i l kt pt r k2 pt2 pos
    simp only [Bool.and_eq_true, decide_eq_true_eq, Bool.not_eq_true'] at h
    obtain ⟨⟨⟨⟨h1, h2⟩, h3⟩, h4⟩, h5⟩ := h
    have hst := noStar_chk h2
    unfold parB at h1
    split at h1
    · rename_i i j x px y py
      simp only [Bool.and_eq_true, decide_eq_true_eq, Bool.not_eq_true', beq_iff_eq] at h1
      obtain ⟨⟨⟨⟨⟨⟨e1, e2⟩, e3⟩, e4⟩, e5⟩, e6⟩, e7⟩ := h1
      match r, h3 with
      | [a, b], _ =>
      refine ps_le (L2.ps_par G.calm G.nd (by rw [hN]; exact e1) (by rw [hN]; exact e2) (by simpa using e3) e5 e6 (hs X _ G.toGd hN h2) (swap2 G.kind e5 e6 e4 (by rw [e7]; simp) hst h4 h5)) ?_
      rintro D σ H ⟨m, S, σd, E, r, g, o, q⟩
      rw [wS] at q
      refine stepA (mA es) r g q fun xs S1 m1 H1 vs x1 r1 g1 d1 q1 => ?_
      match xs, q1 with
      | [d1', d2'], q1 =>
      obtain ⟨v, rr, rfl, k1, k2⟩ := d1
      obtain ⟨w, rr2, rfl, k3, k4⟩ := k2
      have k4 : rr2 = [] := k4
      subst k4
      exact ⟨v, w, rfl, o.nx _ _ _ _ _ x1 r1 ((g1.set k1).set k3) q1⟩
    · rename_i i j l x px y py z pz
      simp only [Bool.and_eq_true, decide_eq_true_eq, Bool.not_eq_true', beq_iff_eq] at h1
      obtain ⟨⟨⟨⟨⟨⟨⟨⟨⟨⟨⟨⟨⟨e1, e2⟩, e3⟩, e4⟩, e5⟩, e6⟩, e7⟩, e8⟩, e9⟩, e10⟩, e11⟩, e12⟩, e13⟩, e14⟩ := h1
      match r, h3 with
      | [a, b, c], _ =>
      refine ps_le (L2.ps_par3 G.calm G.nd (by rw [hN]; exact e1) (by rw [hN]; exact e2) (by rw [hN]; exact e3) (by simpa using e4) (by simpa using e5) (by simpa using e6) e10 e11 e12 (hs X _ G.toGd hN h2) (swap3 G.kind e10 e11 e12 e7 e8 e9 (by rw [e13]; simp) (by rw [e14]; simp) hst h4 h5)) ?_
      rintro D σ H ⟨m, S, σd, E, r, g, o, q⟩
      rw [wS] at q
      refine stepA (mA es) r g q fun xs S1 m1 H1 vs x1 r1 g1 d1 q1 => ?_
      match xs, q1 with
      | [d1', d2', d3'], q1 =>
      obtain ⟨v, rr, rfl, k1, k2⟩ := d1
      obtain ⟨w, rr2, rfl, k3, k4⟩ := k2
      obtain ⟨u, rr3, rfl, k5, k6⟩ := k4
      have k6 : rr3 = [] := k6
      subst k6
      exact ⟨v, w, u, rfl, o.nx _ _ _ _ _ x1 r1 (((g1.set k1).set k3).set k5) q1⟩
    · cases h1
  · cases h
theorem snd_ret {x : Ex} (hx : SndE T N k x) : SndS T N k (.ret x) := by
  intro X s G hN h
  unfold chkS at h
  split at h
  · refine ps_le (L2.ps_ret (hx X _ G.toGd hN h)) ?_
    rintro D σ H ⟨m, S, σd, E, r, g, o, q⟩
    rw [wS] at q
    exact stepE (mE x) r g q fun d S1 m1 H1 v x1 r1 g1 d1 q1 => o.rt _ _ _ _ _ x1 r1 d1 q1
  · cases h
theorem snd_retN : SndS T N k .retN := by
  intro X s G hN h
  unfold chkS at h
  split at h
  · refine ps_le L2.ps_retN ?_
    rintro D σ H ⟨m, S, σd, E, r, g, o, q⟩
    rw [wS] at q
    exact o.rt _ _ _ _ _ .refl r (show RD X.K m H .non .non from rfl) q
  · cases h
theorem snd_brk : SndS T N k .brk := by
  intro X s G hN h
  unfold chkS at h
  split at h
  · refine ps_le L2.ps_break ?_
    rintro D σ H ⟨m, S, σd, E, r, g, o, q⟩
    rw [wS] at q
    exact o.bk _ _ _ _ _ .refl r g q
  · cases h
theorem snd_cnt : SndS T N k .cnt := by
  intro X s G hN h
  unfold chkS at h
  split at h
  · refine ps_le L2.ps_continue ?_
    rintro D σ H ⟨m, S, σd, E, r, g, o, q⟩
    rw [wS] at q
    exact o.ct _ _ _ _ _ .refl r g q
  · cases h
theorem snd_pas : SndS T N k .pas := by
  intro X s G hN h
  unfold chkS at h
  split at h
  · refine ps_le L2.ps_pass ?_
    rintro D σ H ⟨m, S, σd, E, r, g, o, q⟩
    rw [wS] at q
    exact o.nx _ _ _ _ _ .refl r g q
  · cases h
theorem snd_snil : SndSs T N k .nil := by
  intro X s G hN h
  rw [chkSs] at h
  have e : s = [] := by simpa using h
  subst e
  refine pss_le L2.pss_nil ?_
  rintro D σ H ⟨m, S, σd, E, r, g, o, q⟩
  rw [wSs] at q
  exact o.nx _ _ _ _ _ .refl r g q
theorem snd_scons {a : Sm} {as : Sms} (ha : SndS T N k a) (hs : SndSs T N k as) : SndSs T N k (.cons a as) := by
  intro X s G hN h
  cases s with
  | nil => rw [chkSs] at h; cases h
  | cons s ss =>
    rw [chkSs] at h
    simp only [Bool.and_eq_true] at h
    refine pss_le (L2.pss_cons (ha X _ G hN h.1) (hs X _ G hN h.2)) ?_
    rintro D σ H ⟨m, S, σd, E, r, g, o, q⟩
    rw [wSs] at q
    refine ⟨m, S, σd, _, r, g, ?_, q⟩
    exact ⟨fun m' S' H' σd' σ' x r' g' q' => ⟨m', S', σd', E, r', g', o.shift x, q'⟩, o.rt, o.bk, o.ct⟩
mutual
theorem allS : ∀ s : Sm, SndS T N k s
  | .set i x => snd_set (allE x).1 (fun elt tg it ifs own _ => ⟨(allE elt).1, allI it, allC ifs⟩)
  | .setT ts x => snd_setT (allE x).1
  | .par is es => snd_par (sndA_of (allEs es))
  | .setIx o i x => snd_setIx (allE o).1 (allE i).1 (allE x).1
  | .ex x => snd_ex (allE x).1
  | .ite c a b => snd_if (allE c).2.1 (allSs a) (allSs b)
  | .for tg it b => snd_for (allI it) (allSs b)
  | .whl c b => snd_whl (allE c).2.1 (allSs b)
  | .ret x => snd_ret (allE x).1
  | .retN => snd_retN
  | .brk => snd_brk
  | .cnt => snd_cnt
  | .pas => snd_pas
theorem allSs : ∀ s : Sms, SndSs T N k s
  | .nil => snd_snil
  | .cons a as => snd_scons (allS a) (allSs as)
end

/-! ### defs -/
/-- a def of the text: its statement, its names (parameters first) -/
structure PDef where
  st : Stmt
  ns : List Str
/-- the table's looks: the bodies, the scopes -/
def okDef (T : List FDef) (fd : FDef) (p : PDef) : Bool :=
  chkSs T p.ns (L2.defScope p.st) fd.body (L2.defBody p.st) && decide (fd.nn = p.ns.length) && decide (fd.np ≤ fd.nn) && decide (p.ns.Nodup) &&
    (match (L2.defScope p.st).kind with | .function => true | _ => false) && !(L2.defScope p.st).isCoroutine && !(L2.defScope p.st).isGenerator &&
    ((p.ns.take fd.np).all fun x => match (L2.defScope p.st).names.lookup x with | some .local => true | some .cell => true | _ => false) &&
    ((L2.defScope p.st).names.all fun y => match y.2 with | .free => false | _ => true)
theorem scope_of {T : List FDef} {fd : FDef} {p : PDef} (h : okDef T fd p = true) : L2.FnScope p.ns (p.ns.take fd.np) (L2.defScope p.st) ∧ chkSs T p.ns (L2.defScope p.st) fd.body (L2.defBody p.st) = true ∧ fd.nn = p.ns.length ∧ (p.ns.take fd.np).length = fd.np := by
  unfold okDef at h
  simp only [Bool.and_eq_true, decide_eq_true_eq, Bool.not_eq_true', List.all_eq_true] at h
  obtain ⟨⟨⟨⟨⟨⟨⟨⟨h1, h2⟩, h3⟩, h4⟩, h5⟩, h6⟩, h7⟩, h8⟩, h9⟩ := h
  have hl : (p.ns.take fd.np).length = fd.np := by rw [List.length_take]; omega
  refine ⟨⟨?_, h6, h7, h4, by rw [hl], fun x hx => ?_, fun y hy => ?_⟩, h1, h2, hl⟩
  · split at h5
    · assumption
    · cases h5
  · have q := h8 x hx
    split at q
    · exact .inl (by assumption)
    · exact .inr (by assumption)
    · cases q
  · have q := h9 y hy
    intro e
    rw [e] at q
    cases q
/-- a def behind the top: where it stands, how its arguments bind -/
structure Here (K : K') (mg : Str → Option Value) (fd : FDef) (p : PDef) : Prop where
  ex : ∃ (f : Addr) (d : FuncData), mg fd.name = some (.ref f) ∧ L2.Fun K fd.name fd.name p.st f d ∧ L2.Binds K d (p.ns.take fd.np) []
theorem start_of {K : K'} {m : List Addr} {H : L2.Hp} {N : List Str} {ds : List D} {vs : List L2.V} (h : RDs K m H ds vs) (n : Nat) (hn : n = N.length) (hl : ds.length ≤ n) : RSg K m H (startD n ds) (L2.start N vs) := by
  have hv := h.length
  refine ⟨by unfold startD L2.start; simp; omega, fun i d e => ?_⟩
  unfold startD at e
  by_cases hi : i < ds.length
  · rw [List.getElem?_append_left (by simpa using hi), List.getElem?_map] at e
    cases q : ds[i]? with
    | none => rw [q] at e; cases e
    | some d' =>
      rw [q] at e
      have e' : d' = d := by
        injection e with e; injection e
      subst e'
      obtain ⟨v, e1, e2⟩ := h.get q
      refine ⟨v, ?_, e2⟩
      unfold L2.start
      rw [List.getElem?_append_left (by rw [List.length_map, ← hv]; exact hi), List.getElem?_map, e1]
      rfl
  · rw [List.getElem?_append_right (by simpa using hi), List.getElem?_replicate] at e
    split at e <;> cases e
theorem step_ok {P : Program} {w : World} {K : K'} {mg : Str → Option Value} {base : Heap} {T : List FDef} {k f : Nat} {fd : FDef} {p : PDef} {fa : Addr} {d : FuncData} (hf : T[f]? = some fd) (hok : okDef T fd p = true) (hb : ∀ x ∈ builtins, mg x = none)
    (ih : ∀ (f : Nat) (fd : FDef), T[f]? = some fd → FnAt P w K mg base T k f fd) (F : L2.Fun K fd.name fd.name p.st fa d) : L2.FnOk P w K mg base L2.CX0 (k + 1) fa d (p.ns.take fd.np) (liftSp K (callW T (k + 1) f)) := by
  obtain ⟨S, c, hn, hlen⟩ := scope_of hok
  refine F.ok S (fun vs H Q E h => ?_) fun cdv A outer s H vs Q E hr h => ?_
  · obtain ⟨m, S', ds, _, r, fd', e, hl', _⟩ := h
    rw [hf] at e; cases e
    rw [hlen, ← r.length, hl']
  · obtain ⟨m, S', ds, r, rd, fd', e, hl', h⟩ := h
    rw [hf] at e; cases e
    have G : Gs (L2.cxOf L2.CX0 P w K mg base p.ns fd.name (L2.defScope p.st) fa cdv A outer s H E).nox T k := ⟨⟨hr, rfl, S.nd, ih, hb⟩, fun _ => rfl, rfl, S.kind⟩
    refine ⟨_, allSs fd.body _ _ G rfl c, m, S', _, _, r, start_of rd fd.nn hn (by rw [hl']; have := hlen; rw [List.length_take] at this; omega), ?_, h⟩
    exact ⟨fun m' S'' H' σd' σ' x r' g q => q _ _ _ x r' (show RD K m' H' .non .non from rfl), fun m' S'' H' d' v x r' q1 q => q _ _ _ x r' q1, fun _ _ _ _ _ _ _ _ q => q.elim, fun _ _ _ _ _ _ _ _ q => q.elim⟩
theorem table_ok {P : Program} {w : World} {K : K'} {mg : Str → Option Value} {base : Heap} (T : List FDef) (ps : List PDef) (hl : T.length = ps.length) (hok : (T.zip ps).all (fun q => okDef T q.1 q.2) = true)
    (hh : ∀ q ∈ T.zip ps, Here K mg q.1 q.2) (hb : ∀ x ∈ builtins, mg x = none) :
    ∀ (k f : Nat) (fd : FDef), T[f]? = some fd → FnAt P w K mg base T k f fd := by
  have two : ∀ (f : Nat) (fd : FDef), T[f]? = some fd → ∃ p, okDef T fd p = true ∧ Here K mg fd p := fun f fd hf => by
    obtain ⟨p, hp⟩ : ∃ p, ps[f]? = some p := ⟨_, List.getElem?_eq_getElem (by rw [← hl]; exact (List.getElem?_eq_some_iff.mp hf).1)⟩
    have hm : (fd, p) ∈ T.zip ps := List.mem_of_getElem? (i := f) (by rw [List.getElem?_zip_eq_some]; exact ⟨hf, hp⟩)
    exact ⟨p, List.all_eq_true.mp hok _ hm, hh _ hm⟩
  intro k
  induction k with
  | zero =>
    intro f fd hf
    obtain ⟨p, o, H⟩ := two f fd hf
    obtain ⟨fa, d, e1, F, b⟩ := H.ex
    obtain ⟨S, c, hn, hlen⟩ := scope_of o
    refine ⟨fa, d, _, e1, F.kp, b, hlen, ⟨fun vs H Q E h => ?_, fun A outer s H args us vs Q E hr e0 hb hv h => ?_⟩⟩
    · obtain ⟨m, S, ds, _, _, h⟩ := h
      exact h.elim
    · obtain ⟨m, S, ds, _, _, h⟩ := h
      exact h.elim
  | succ k ih =>
    intro f fd hf
    obtain ⟨p, o, H⟩ := two f fd hf
    obtain ⟨fa, d, e1, F, b⟩ := H.ex
    obtain ⟨S, c, hn, hlen⟩ := scope_of o
    exact ⟨fa, d, _, e1, F.kp, b, hlen, step_ok hf o hb ih F⟩
end
end Flx

end
section
set_option Elab.async false
set_option linter.all false
set_option maxRecDepth 100000
set_option autoImplicit false
/-! FlxEnd: from a table to a law's row. -/
namespace Flx
open PySem PySem.Spec PyProof.Rows
/-- a def of the text, as the written part holds it -/
def HereK (K : K') (x : Str) (st : Stmt) : Prop :=
  ∃ (f : Addr) (od an : Option Addr) (sl : Array (Option Value)) (oc kV dc pm cd ct : Value), PySem.W.nsIn K mainGlobals x = some (some (.ref f)) ∧
    K.lookup f = some ⟨oc, od, .func (PySem.W.fnOf x x (L2.defArgs st) (L2.defBody st) (L2.defScope st) .none kV dc pm an cd ct), sl⟩ ∧ PySem.W.codeIn K cd x = true ∧ PySem.W.keepIn K (.ref f) = true
/-- the parameters of a def: positional ones, no defaults -/
def plainArgs (a : Arguments) (ps : List Str) : Bool :=
  a.posonlyargs.isEmpty && a.vararg.isNone && a.kwonlyargs.isEmpty && a.kwarg.isNone && a.defaults.isEmpty && decide (a.args.map (·.arg) = ps)
/-- positional arguments bind to such parameters -/
def BindsAll (st : Stmt) (x : Str) (n : Nat) (ps : List Str) : Prop :=
  ∀ (kV doc pm : Value) (an : Option Addr) (cdv ct : Value) (us : List Value), us.length = n → bindArgs (PySem.W.fnOf x x (L2.defArgs st) (L2.defBody st) (L2.defScope st) .none kV doc pm an cdv ct) ⟨us, []⟩ = pure (ps.zip us)
theorem here_of {K : K'} {h : Heap} {mg : Str → Option Value} {fd : FDef} {p : PDef} (X : K.In h) (G : h.Ns mainGlobals mg) (hp : (p.ns.take fd.np).length = fd.np) (hb : BindsAll p.st fd.name fd.np (p.ns.take fd.np)) (hk : HereK K fd.name p.st) : Here K mg fd p := by
  obtain ⟨f, od, an, sl, oc, kV, dc, pm, cd, ct, a, l, c, k⟩ := hk
  have F := L2.fun_mk (st := p.st) l c k
  exact ⟨f, _, PySem.W.mg_of X G a, F, F.binds fun kV doc pm an cdv ct us hu => hb kV doc pm an cdv ct us (by rw [hu, hp])⟩
/-- the law's own def, the rest of the table behind it -/
theorem law_fn {P : Program} {w : World} {K : K'} {h : Heap} {mg : Str → Option Value} {fa : Addr} {T : List FDef} {ps : List PDef} {f : Nat} {fd : FDef} {p : PDef} (k : Nat) (X : K.In h) (G : h.Ns mainGlobals mg) (hfa : mg fd.name = some (.ref fa))
    (hl : T.length = ps.length) (hok : (T.zip ps).all (fun q => okDef T q.1 q.2) = true) (hf : T[f]? = some fd) (hp : ps[f]? = some p) (h1 : p.ns.take fd.np = [("script" : Str)])
    (hB : ∀ q ∈ T.zip ps, BindsAll q.2.st q.1.name q.1.np (q.2.ns.take q.1.np)) (hK : ∀ q ∈ T.zip ps, HereK K q.1.name q.2.st) (hz : ∀ x ∈ builtins, PySem.W.nsIn K mainGlobals x = some none) :
    ∃ d : FuncData, (∀ (s : Shared) (u : Value), BindsTo s d ⟨[u], []⟩ [("script", u)]) ∧ ∀ base : Heap, K.In base → base.Ns mainGlobals mg → L2.FnOk P w K mg base L2.CX0 (k + 1) fa d ["script"] (liftSp K (callW T (k + 1) f)) := by
  have hm : (fd, p) ∈ T.zip ps := List.mem_of_getElem? (i := f) (by rw [List.getElem?_zip_eq_some]; exact ⟨hf, hp⟩)
  have ok := List.all_eq_true.mp hok _ hm
  have hlen : ∀ q ∈ T.zip ps, (q.2.ns.take q.1.np).length = q.1.np := fun q hq => (scope_of (List.all_eq_true.mp hok _ hq)).2.2.2
  have hb : ∀ x ∈ builtins, mg x = none := fun x hx => PySem.W.mg_none_of X G (hz x hx)
  have hh : ∀ q ∈ T.zip ps, Here K mg q.1 q.2 := fun q hq => here_of X G (hlen q hq) (hB q hq) (hK q hq)
  obtain ⟨f', od, an, sl, oc, kV, dc, pm, cd, ct, a, l, c, kk⟩ := hK _ hm
  have e := hfa.symm.trans (PySem.W.mg_of X G a)
  cases e
  have F := L2.fun_mk (st := p.st) l c kk
  have hn1 : fd.np = 1 := by have := hlen _ hm; rw [h1] at this; exact this.symm
  refine ⟨PySem.W.fnOf fd.name fd.name (L2.defArgs p.st) (L2.defBody p.st) (L2.defScope p.st) .none kV dc pm an cd ct, fun s u => ?_, fun base _ _ => ?_⟩
  · have q := hB _ hm kV dc pm an cd ct [u] (by rw [hn1]; rfl)
    rw [h1] at q
    exact .of_eq q
  · have q := step_ok (P := P) (w := w) (base := base) hf ok hb (table_ok T ps hl hok hh hb k) F
    rw [h1] at q
    exact q
/-- the law's promise -/
theorem law_sp {K : K'} {T : List FDef} {k f : Nat} {a : Addr} {ns : List Int} {H : L2.Hp} {E : L2.XK} (hO : L2.Only H) (hS : L2.SqL K H a (ns.map L2.V.int))
    (h : callW T k f [.ref 0] [.fro (ns.map D.int)] fun d _ => d = .bl true) : liftSp K (callW T k f) [.ref a] H (fun v _ => v = .bl true) E := by
  have hF : Fro K H a (ns.map L2.V.int) := by
    rcases hS with (h1 | ⟨o, h1⟩) | h1
    · rcases hO a with z | ⟨o, xs, z⟩ <;> rw [z] at h1 <;> cases h1
    · exact .inl ⟨o, h1⟩
    · exact .inr h1
  have e0 : ∀ {α : Type} {n : Nat} {x y : α}, [x][n]? = some y → n = 0 ∧ x = y := fun {α n x y} e => by
    cases n with
    | zero => exact ⟨rfl, by simpa using e⟩
    | succ n => simp at e
  refine ⟨[a], [.fro (ns.map D.int)], [.ref 0], ⟨rfl, fun n o b h1 h2 => ?_, fun n n' o o' b h1 h2 h3 h4 h5 h6 => ?_⟩, ⟨.ref a, [], rfl, ⟨a, rfl, rfl⟩, rfl⟩, callW_mono T k f _ _ _ _ (fun d S' hd => ?_) h⟩
  · obtain ⟨_, rfl⟩ := e0 h1
    obtain ⟨_, rfl⟩ := e0 h2
    exact ⟨_, hF, RDs.map_int ns⟩
  · obtain ⟨_, rfl⟩ := e0 h1
    cases h3
  · subst hd
    exact fun m' H' v _ _ q => q
end Flx

end
section
set_option Elab.async false
set_option linter.all false
set_option autoImplicit false
set_option maxRecDepth 100000
/-! FlxUse: the pure language, step by step: one lemma for each form; loops by invariants; stores that grow. -/
namespace Flx
open PySem PySem.Spec PyProof.Rows

/-! ### stores -/
/-- S' has all that S has -/
structure Ext (S S' : St) : Prop where
  len : S.length ≤ S'.length
  get : ∀ {i : Nat} {m : MO}, S[i]? = some m → S'[i]? = some m
/-- S' has all that S has, but for the tape at 2 -/
structure Fr (S S' : St) : Prop where
  len : S.length ≤ S'.length
  get : ∀ {i : Nat} {m : MO}, i ≠ 2 → S[i]? = some m → S'[i]? = some m
/-- the tape -/
def Tp (S : St) : Prop := ∃ (ns : List Int) (a b c : Int), S[1]? = some (.lst (ns.map D.int)) ∧ S[2]? = some (.lst [.ref 1, .int a, .int b, .int c]) ∧ 0 ≤ a ∧ 0 ≤ b ∧ 0 ≤ c
theorem Ext.refl (S : St) : Ext S S := ⟨Nat.le_refl _, fun h => h⟩
theorem Fr.refl (S : St) : Fr S S := ⟨Nat.le_refl _, fun _ h => h⟩
theorem Ext.trans {S S1 S2 : St} (h : Ext S S1) (h' : Ext S1 S2) : Ext S S2 := ⟨Nat.le_trans h.len h'.len, fun e => h'.get (h.get e)⟩
theorem Fr.trans {S S1 S2 : St} (h : Fr S S1) (h' : Fr S1 S2) : Fr S S2 := ⟨Nat.le_trans h.len h'.len, fun n e => h'.get n (h.get n e)⟩
theorem Ext.fr {S S1 : St} (h : Ext S S1) : Fr S S1 := ⟨h.len, fun _ e => h.get e⟩
theorem lt_of_get {S : St} {i : Nat} {m : MO} (h : S[i]? = some m) : i < S.length := by
  rcases Nat.lt_or_ge i S.length with g | g
  · exact g
  · rw [List.getElem?_eq_none g] at h; cases h
theorem get_app {S X : St} {i : Nat} {m : MO} (h : S[i]? = some m) : (S ++ X)[i]? = some m := by
  rw [List.getElem?_append_left (lt_of_get h)]; exact h
theorem get_new {S : St} {m : MO} : (S ++ [m])[S.length]? = some m := by simp
theorem get_new' {S : St} {m : MO} {n : Nat} (h : n = S.length) : (S ++ [m])[n]? = some m := by subst h; simp
theorem get_set {S : St} {i n : Nat} {m m' : MO} (hn : i ≠ n) (h : S[i]? = some m) : (S.set n m')[i]? = some m := by
  rw [List.getElem?_set_ne (Ne.symm hn)]; exact h
theorem get_set_self {S : St} {n : Nat} {m m' : MO} (h : S[n]? = some m) : (S.set n m')[n]? = some m' := by
  rw [List.getElem?_set_self (lt_of_get h)]
theorem Ext.app {S S1 : St} (h : Ext S S1) (X : St) : Ext S (S1 ++ X) := ⟨by rw [List.length_append]; exact Nat.le_trans h.len (Nat.le_add_right _ _), fun e => get_app (h.get e)⟩
theorem Fr.app {S S1 : St} (h : Fr S S1) (X : St) : Fr S (S1 ++ X) := ⟨by rw [List.length_append]; exact Nat.le_trans h.len (Nat.le_add_right _ _), fun n e => get_app (h.get n e)⟩
theorem Ext.new (S X : St) : Ext S (S ++ X) := (Ext.refl S).app X
theorem Ext.set {S S1 : St} (h : Ext S S1) {n : Nat} (m : MO) (hn : S.length ≤ n) : Ext S (S1.set n m) :=
  ⟨by rw [List.length_set]; exact h.len, fun e => get_set (by have := lt_of_get e; omega) (h.get e)⟩
theorem Fr.set {S S1 : St} (h : Fr S S1) {n : Nat} (m : MO) (hn : S.length ≤ n) : Fr S (S1.set n m) :=
  ⟨by rw [List.length_set]; exact h.len, fun n' e => get_set (by have := lt_of_get e; omega) (h.get n' e)⟩
theorem Fr.setT {S S1 : St} (h : Fr S S1) (m : MO) : Fr S (S1.set 2 m) :=
  ⟨by rw [List.length_set]; exact h.len, fun n' e => get_set n' (h.get n' e)⟩
theorem Tp.ext {S S1 : St} (h : Tp S) (e : Ext S S1) : Tp S1 := by
  obtain ⟨ns, a, b, c, h1, h2, h3⟩ := h
  exact ⟨ns, a, b, c, e.get h1, e.get h2, h3⟩
theorem Tp.app {S : St} (h : Tp S) (X : St) : Tp (S ++ X) := h.ext (Ext.new S X)
theorem Tp.set {S : St} (h : Tp S) {n : Nat} (m : MO) (hn : 3 ≤ n) : Tp (S.set n m) := by
  obtain ⟨ns, a, b, c, h1, h2, h3⟩ := h
  exact ⟨ns, a, b, c, get_set (by omega) h1, get_set (by omega) h2, h3⟩
theorem Tp.len {S : St} (h : Tp S) : 3 ≤ S.length := by
  obtain ⟨ns, a, b, c, h1, h2, h3⟩ := h
  exact lt_of_get h2
theorem seqOf_lst {S : St} {n : Nat} {xs : List D} (h : S[n]? = some (.lst xs)) : seqOf S n = some xs := by unfold seqOf; rw [h]
theorem seqOf_fro {S : St} {n : Nat} {xs : List D} (h : S[n]? = some (.fro xs)) : seqOf S n = some xs := by unfold seqOf; rw [h]
theorem still_tup (xs : List D) (S : St) : still (.tup xs) xs S := rfl
theorem still_ref {n : Nat} {xs : List D} {S : St} (h : S[n]? = some (.lst xs)) : still (.ref n) xs S := seqOf_lst h
theorem seqOf_ext {S S' : St} {n : Nat} {xs : List D} (h : Ext S S') (e : seqOf S n = some xs) : seqOf S' n = some xs := by
  unfold seqOf at e ⊢
  cases h0 : S[n]? with
  | none => rw [h0] at e; cases e
  | some m => rw [h0] at e; rw [h.get h0]; exact e
theorem itemsOf_ext {S S' : St} {d : D} {xs : List D} (h : Ext S S') (e : itemsOf S d = some xs) : itemsOf S' d = some xs := by
  cases d <;> first | exact e | exact seqOf_ext h e

/-! ### places in lists -/
theorem ixN_nat {n i : Nat} (h : i < n) : L2.ixN n (i : Int) = some i := by
  unfold L2.ixN; rw [if_pos (by omega), if_pos (by omega), Int.toNat_natCast]
theorem ixN_int {n : Nat} {i : Int} (h0 : 0 ≤ i) (h : i < n) : L2.ixN n i = some i.toNat := by
  unfold L2.ixN; rw [if_pos h0, if_pos h]
theorem ixN_neg {n : Nat} {i : Int} (h0 : i < 0) (h : -(n : Int) ≤ i) : L2.ixN n i = some (i + n).toNat := by
  unfold L2.ixN; rw [if_neg (by omega), if_pos h]
theorem atI_nat {α : Type} {xs : List α} {i : Nat} {d : α} (h : xs[i]? = some d) : L2.atI xs (i : Int) = some d := by
  have : i < xs.length := by
    rcases Nat.lt_or_ge i xs.length with g | g
    · exact g
    · rw [List.getElem?_eq_none g] at h; cases h
  unfold L2.atI; rw [ixN_nat this]; exact h
theorem atI_int {α : Type} {xs : List α} {i : Int} {d : α} (h0 : 0 ≤ i) (h : xs[i.toNat]? = some d) : L2.atI xs i = some d := by
  have := atI_nat h; rw [Int.toNat_of_nonneg h0] at this; exact this
/-- Python's place among n: from the end where it is below 0 -/
def pyI (n : Nat) (i : Int) : Nat := if 0 ≤ i then i.toNat else (i + n).toNat
theorem ixN_py {n : Nat} {i : Int} (h0 : -(n : Int) ≤ i) (h : i < n) : L2.ixN n i = some (pyI n i) := by
  unfold pyI
  by_cases g : 0 ≤ i
  · rw [if_pos g, ixN_int g h]
  · rw [if_neg g, ixN_neg (by omega) h0]
theorem pyI_lt {n : Nat} {i : Int} (h0 : -(n : Int) ≤ i) (h : i < n) : pyI n i < n := by
  unfold pyI; split <;> omega
theorem atI_py {α : Type} {xs : List α} {i : Int} (h0 : -(xs.length : Int) ≤ i) (h : i < xs.length) : L2.atI xs i = some (xs[pyI xs.length i]'(pyI_lt h0 h)) := by
  unfold L2.atI; rw [ixN_py h0 h]; exact List.getElem?_eq_getElem _
theorem atI_map {α β : Type} {f : α → β} {xs : List α} {i : Int} {d : α} (h : L2.atI xs i = some d) : L2.atI (xs.map f) i = some (f d) := by
  unfold L2.atI at h ⊢
  rw [List.length_map]
  cases e : L2.ixN xs.length i with
  | none => rw [e] at h; cases h
  | some j =>
    rw [e] at h
    show (xs.map f)[j]? = some (f d)
    rw [List.getElem?_map]
    rw [show xs[j]? = some d from h]; rfl

/-! ### expressions -/
section
variable {C : Nat → List D → St → QD → Prop} {σ : Sg} {S : St} {Q : QD}
theorem e_var {i : Nat} {d : D} (h : σ[i]? = some (some d)) (q : Q d S) : wE C (.var i) σ S Q := by rw [wE]; exact ⟨d, h, q⟩
theorem e_cint {i : Int} (q : Q (.int i) S) : wE C (.cint i) σ S Q := by rw [wE]; exact q
theorem e_cstr {i : Str} (q : Q (.str i) S) : wE C (.cstr i) σ S Q := by rw [wE]; exact q
theorem e_cbl {i : Bool} (q : Q (.bl i) S) : wE C (.cbl i) σ S Q := by rw [wE]; exact q
theorem e_cnon (q : Q .non S) : wE C .cnon σ S Q := by rw [wE]; exact q
theorem e_bin {op : BOp} {a b : Ex} (q : wE C a σ S fun x S1 => wE C b σ S1 fun y S2 => binW op x y S2 Q) : wE C (.bin op a b) σ S Q := by rw [wE]; exact q
theorem e_neg {a : Ex} (q : wE C a σ S fun x S1 => ∃ i, x = .int i ∧ Q (.int (-i)) S1) : wE C (.neg a) σ S Q := by rw [wE]; exact q
theorem e_cmp {op : COp} {a b : Ex} (q : wE C a σ S fun x S1 => wE C b σ S1 fun y S2 => cmpW op x y S2 fun k S3 => Q (.bl k) S3) : wE C (.cmp op a b) σ S Q := by rw [wE]; exact q
theorem e_cmp2 {op op' : COp} {a b c : Ex} (q : wE C a σ S fun x S1 => wE C b σ S1 fun y S2 => cmpW op x y S2 fun k S3 => if k = true then wE C c σ S3 fun z S4 => cmpW op' y z S4 fun k' S5 => Q (.bl k') S5 else Q (.bl false) S3) : wE C (.cmp2 op op' a b c) σ S Q := by rw [wE]; exact q
theorem e_cmp3 {op op' op2 : COp} {a b c d : Ex} (q : wE C a σ S fun x S1 => wE C b σ S1 fun y S2 => cmpW op x y S2 fun k S3 => if k = true then wE C c σ S3 fun z S4 => cmpW op' y z S4 fun k' S5 => if k' = true then wE C d σ S5 fun u S6 => cmpW op2 z u S6 fun k2 S7 => Q (.bl k2) S7 else Q (.bl false) S5 else Q (.bl false) S3) : wE C (.cmp3 op op' op2 a b c d) σ S Q := by rw [wE]; exact q
theorem e_smt {m : SMth} {o e : Ex} (q : wE C o σ S fun x S1 => (∃ a, x = .str a) ∧ wE C e σ S1 fun y S2 => smtW m x y S2 Q) : wE C (.smt m o e) σ S Q := by rw [wE]; exact q
theorem e_and {a b : Ex} (q : wE C a σ S fun x S1 => ∃ k, truD S1 x = some k ∧ if k = true then wE C b σ S1 Q else Q x S1) : wE C (.and a b) σ S Q := by rw [wE]; exact q
theorem e_or {a b : Ex} (q : wE C a σ S fun x S1 => ∃ k, truD S1 x = some k ∧ if k = true then Q x S1 else wE C b σ S1 Q) : wE C (.or a b) σ S Q := by rw [wE]; exact q
theorem e_not {a : Ex} (q : wE C a σ S fun x S1 => ∃ k, truD S1 x = some k ∧ Q (.bl (!k)) S1) : wE C (.not a) σ S Q := by rw [wE]; exact q
theorem e_ite {c a b : Ex} (q : wE C c σ S fun x S1 => ∃ k, truD S1 x = some k ∧ if k = true then wE C a σ S1 Q else wE C b σ S1 Q) : wE C (.ite c a b) σ S Q := by rw [wE]; exact q
theorem e_tup {es : Exs} (q : wEs C es σ S fun xs S1 => xs.length ≤ sizeLine ∧ Q (.tup xs) S1) : wE C (.tup es) σ S Q := by rw [wE]; exact q
theorem e_lst {es : Exs} (q : wEs C es σ S fun xs S1 => xs.length ≤ sizeLine ∧ Q (.ref S1.length) (S1 ++ [.lst xs])) : wE C (.lst es) σ S Q := by rw [wE]; exact q
theorem e_ix {a b : Ex} (q : wE C a σ S fun x S1 => wE C b σ S1 fun y S2 => ixW x y S2 Q) : wE C (.ix a b) σ S Q := by rw [wE]; exact q
theorem e_sl {a : Ex} {lo hi : ExO} (q : wE C a σ S fun x S1 => wO C lo σ S1 fun l S2 => wO C hi σ S2 fun h S3 => slW x l h S3 Q) : wE C (.sl a lo hi) σ S Q := by rw [wE]; exact q
theorem e_call {f : Nat} {es : Exs} (q : wEs C es σ S fun xs S1 => C f xs S1 Q) : wE C (.call f es) σ S Q := by rw [wE]; exact q
theorem e_blt {f : Blt} {es : Exs} (q : wEs C es σ S fun xs S1 => bltW f xs S1 Q) : wE C (.blt f es) σ S Q := by rw [wE]; exact q
theorem e_isi {a : Ex} {t : Ty} (q : wE C a σ S fun x S1 => ∃ b, isTy t x = some b ∧ Q (.bl b) S1) : wE C (.isi a t) σ S Q := by rw [wE]; exact q
theorem e_mth {m : Mth} {o : Ex} {es : Exs} (q : wE C o σ S fun x S1 => lstD S1 x ∧ wEs C es σ S1 fun xs S2 => mthW m x xs S2 Q) : wE C (.mth m o es) σ S Q := by rw [wE]; exact q
theorem e_lrg {es : Exs} (q : wEs C es σ S fun xs S1 => rngW xs fun a b => (b - a).toNat ≤ 2 ^ 24 ∧ Q (.ref S1.length) (S1 ++ [.lst (rgD a b)])) : wE C (.lrg es) σ S Q := by rw [wE]; exact q
/-- a comprehension's turns -/
def LcL (C : Nat → List D → St → QD → Prop) (G : St → Prop) (elt : Ex) (tg : Tg) (ifs : Exs) (σ : Sg) (xs : List D) (S : St) (Q : List D → St → Prop) : Prop :=
  lcW G tg (fun σ' S' Q' => wC C ifs σ' S' Q') (fun σ' S' Q' => wE C elt σ' S' Q') σ xs [] S Q
theorem e_lc {elt : Ex} {tg : Tg} {it : It} {ifs : Exs} {own : List Nat} (q : wI C it σ S fun G xs S1 => xs.length < sizeLine ∧ LcL C G elt tg ifs (wipeD σ own) xs S1 fun acc S2 => Q (.ref S2.length) (S2 ++ [.lst acc])) : wE C (.lc elt tg it ifs own) σ S Q := by rw [wE]; exact q
end
section
variable {C : Nat → List D → St → QD → Prop} {σ : Sg} {S : St}
theorem es_nil {Q : List D → St → Prop} (q : Q [] S) : wEs C .nil σ S Q := by rw [wEs]; exact q
theorem es_cons {e : Ex} {es : Exs} {Q : List D → St → Prop} (q : wE C e σ S fun x S1 => wEs C es σ S1 fun xs S2 => Q (x :: xs) S2) : wEs C (.cons e es) σ S Q := by rw [wEs]; exact q
theorem o_none {Q : Option Int → St → Prop} (q : Q none S) : wO C .none σ S Q := by rw [wO]; exact q
theorem o_some {e : Ex} {Q : Option Int → St → Prop} (q : wE C e σ S fun x S1 => ∃ i, x = .int i ∧ Q (some i) S1) : wO C (.some e) σ S Q := by rw [wO]; exact q
theorem wc_nil {Q : Bool → St → Prop} (q : Q true S) : wC C .nil σ S Q := by rw [wC]; exact q
theorem wc_one {e : Ex} {Q : Bool → St → Prop} (q : wE C e σ S fun x S1 => ∃ k, truD S1 x = some k ∧ Q k S1) : wC C (.cons e .nil) σ S Q := by rw [wC]; exact q
theorem w_test {e : Ex} {Q : Bool → St → Prop} (q : wE C e σ S fun x S1 => ∃ k, truD S1 x = some k ∧ Q k S1) : wT C e σ S Q := q
theorem i_seq {e : Ex} {R : (St → Prop) → List D → St → Prop} (q : wE C e σ S fun x S1 => ∃ xs, itemsOf S1 x = some xs ∧ R (still x xs) xs S1) : wI C (.seq e) σ S R := by rw [wI]; exact q
theorem i_rng {es : Exs} {R : (St → Prop) → List D → St → Prop} (q : wEs C es σ S fun xs S1 => rngW xs fun a b => R noG (rgD a b) S1) : wI C (.rng es) σ S R := by rw [wI]; exact q
theorem i_rgd {a b : Ex} {R : (St → Prop) → List D → St → Prop} (q : wE C a σ S fun x S1 => wE C b σ S1 fun y S2 => ∃ i j, x = .int i ∧ y = .int j ∧ (-(2 ^ 62) ≤ i ∧ i < 2 ^ 62 ∧ -(2 ^ 62) ≤ j ∧ j < 2 ^ 62) ∧ R noG (rgdD i j) S2) : wI C (.rgd a b) σ S R := by rw [wI]; exact q
theorem i_enm {e : Ex} {R : (St → Prop) → List D → St → Prop} (q : wE C e σ S fun x S1 => ∃ xs, itemsOf S1 x = some xs ∧ R (still x xs) ((List.range xs.length).zipWith (fun i d => .tup [.int (i : Nat), d]) xs) S1) : wI C (.enm e) σ S R := by rw [wI]; exact q
theorem i_zip {a b : Ex} {R : (St → Prop) → List D → St → Prop} (q : wE C a σ S fun x S1 => wE C b σ S1 fun y S2 => ∃ xs ys, itemsOf S2 x = some xs ∧ itemsOf S2 y = some ys ∧ R (fun S' => still x xs S' ∧ still y ys S') (List.zipWith (fun d e => .tup [d, e]) xs ys) S2) : wI C (.zip a b) σ S R := by rw [wI]; exact q
theorem i_rev {e : Ex} {R : (St → Prop) → List D → St → Prop} (q : wE C e σ S fun x S1 => ∃ xs, itemsOf S1 x = some xs ∧ R (still x xs) xs.reverse S1) : wI C (.rev e) σ S R := by rw [wI]; exact q
end

/-! ### statements -/
/-- a for's turns, its body kept whole -/
def ForL (C : Nat → List D → St → QD → Prop) (G : St → Prop) (tg : Tg) (b : Sms) (xs : List D) : TSt := forW G tg (fun E' σ' S' => wSs C b E' σ' S') xs
def WhlL (C : Nat → List D → St → QD → Prop) (c : Ex) (b : Sms) : TSt := fun E σ S => ∃ n, whlW (fun σ' S' Q' => wT C c σ' S' Q') (fun E' σ' S' => wSs C b E' σ' S') n E σ S
section
variable {C : Nat → List D → St → QD → Prop} {σ : Sg} {S : St} {E : En}
theorem ss_nil (q : E.nx σ S) : wSs C .nil E σ S := by rw [wSs]; exact q
theorem ss_cons {s : Sm} {ss : Sms} (q : wS C s { nx := wSs C ss E, rt := E.rt, bk := E.bk, ct := E.ct } σ S) : wSs C (.cons s ss) E σ S := by rw [wSs]; exact q
theorem ss_set {i : Nat} {e : Ex} {ss : Sms} (q : wS C (.set i e) { nx := wSs C ss E, rt := E.rt, bk := E.bk, ct := E.ct } σ S) : wSs C (.cons (.set i e) ss) E σ S := ss_cons q
theorem ss_setT {ts : Tgs} {e : Ex} {ss : Sms} (q : wS C (.setT ts e) { nx := wSs C ss E, rt := E.rt, bk := E.bk, ct := E.ct } σ S) : wSs C (.cons (.setT ts e) ss) E σ S := ss_cons q
theorem ss_par {is : List Nat} {es : Exs} {ss : Sms} (q : wS C (.par is es) { nx := wSs C ss E, rt := E.rt, bk := E.bk, ct := E.ct } σ S) : wSs C (.cons (.par is es) ss) E σ S := ss_cons q
theorem ss_setIx {o i e : Ex} {ss : Sms} (q : wS C (.setIx o i e) { nx := wSs C ss E, rt := E.rt, bk := E.bk, ct := E.ct } σ S) : wSs C (.cons (.setIx o i e) ss) E σ S := ss_cons q
theorem ss_ex {e : Ex} {ss : Sms} (q : wS C (.ex e) { nx := wSs C ss E, rt := E.rt, bk := E.bk, ct := E.ct } σ S) : wSs C (.cons (.ex e) ss) E σ S := ss_cons q
theorem ss_for {tg : Tg} {it : It} {b : Sms} {ss : Sms} (q : wS C (.for tg it b) { nx := wSs C ss E, rt := E.rt, bk := E.bk, ct := E.ct } σ S) : wSs C (.cons (.for tg it b) ss) E σ S := ss_cons q
theorem ss_whl {c : Ex} {b : Sms} {ss : Sms} (q : wS C (.whl c b) { nx := wSs C ss E, rt := E.rt, bk := E.bk, ct := E.ct } σ S) : wSs C (.cons (.whl c b) ss) E σ S := ss_cons q
theorem ss_ret {e : Ex} {ss : Sms} (q : wS C (.ret e) { nx := wSs C ss E, rt := E.rt, bk := E.bk, ct := E.ct } σ S) : wSs C (.cons (.ret e) ss) E σ S := ss_cons q
theorem ss_retN  {ss : Sms} (q : wS C .retN { nx := wSs C ss E, rt := E.rt, bk := E.bk, ct := E.ct } σ S) : wSs C (.cons .retN ss) E σ S := ss_cons q
theorem ss_brk  {ss : Sms} (q : wS C .brk { nx := wSs C ss E, rt := E.rt, bk := E.bk, ct := E.ct } σ S) : wSs C (.cons .brk ss) E σ S := ss_cons q
theorem ss_cnt  {ss : Sms} (q : wS C .cnt { nx := wSs C ss E, rt := E.rt, bk := E.bk, ct := E.ct } σ S) : wSs C (.cons .cnt ss) E σ S := ss_cons q
theorem ss_pas  {ss : Sms} (q : wS C .pas { nx := wSs C ss E, rt := E.rt, bk := E.bk, ct := E.ct } σ S) : wSs C (.cons .pas ss) E σ S := ss_cons q
theorem ss_iteR {c e : Ex} {ss : Sms} (q : wS C (.ite c (.cons (.ret e) .nil) .nil) { nx := wSs C ss E, rt := E.rt, bk := E.bk, ct := E.ct } σ S) : wSs C (.cons (.ite c (.cons (.ret e) .nil) .nil) ss) E σ S := ss_cons q
theorem ss_iteC {c : Ex} {ss : Sms} (q : wS C (.ite c (.cons .cnt .nil) .nil) { nx := wSs C ss E, rt := E.rt, bk := E.bk, ct := E.ct } σ S) : wSs C (.cons (.ite c (.cons .cnt .nil) .nil) ss) E σ S := ss_cons q
theorem ss_iteB {c : Ex} {ss : Sms} (q : wS C (.ite c (.cons .brk .nil) .nil) { nx := wSs C ss E, rt := E.rt, bk := E.bk, ct := E.ct } σ S) : wSs C (.cons (.ite c (.cons .brk .nil) .nil) ss) E σ S := ss_cons q
theorem ss_last {s : Sm} (q : wS C s { nx := E.nx, rt := E.rt, bk := E.bk, ct := E.ct } σ S) : wSs C (.cons s .nil) E σ S := by
  refine ss_cons ?_
  have e : (wSs C .nil E : Sg → St → Prop) = E.nx := by funext σ S; rw [wSs]
  rw [e]; exact q
theorem s_set {i : Nat} {e : Ex} (q : wE C e σ S fun x S1 => E.nx (σ.set i (some x)) S1) : wS C (.set i e) E σ S := by rw [wS]; exact q
theorem s_setT {ts : Tgs} {e : Ex} (q : wE C e σ S fun x S1 => ∃ σ', gA (.tp ts) x σ = some σ' ∧ E.nx σ' S1) : wS C (.setT ts e) E σ S := by rw [wS]; exact q
theorem s_par {is : List Nat} {es : Exs} (q : wEs C es σ S fun xs S1 => parW is xs σ fun σ' => E.nx σ' S1) : wS C (.par is es) E σ S := by rw [wS]; exact q
theorem par_nil {k : Sg → Prop} (q : k σ) : parW [] [] σ k := q
theorem par_cons {i : Nat} {is : List Nat} {x : D} {xs : List D} {k : Sg → Prop} (q : parW is xs (σ.set i (some x)) k) : parW (i :: is) (x :: xs) σ k := q
theorem s_setIx {o i e : Ex} (q : wE C e σ S fun v S1 => wE C o σ S1 fun x S2 => wE C i σ S2 fun y S3 => setIxW x y v S3 fun S4 => E.nx σ S4) : wS C (.setIx o i e) E σ S := by rw [wS]; exact q
theorem s_ex {e : Ex} (q : wE C e σ S fun _ S1 => E.nx σ S1) : wS C (.ex e) E σ S := by rw [wS]; exact q
theorem s_ite {c : Ex} {a b : Sms} (q : wE C c σ S fun x S1 => ∃ k, truD S1 x = some k ∧ if k = true then wSs C a E σ S1 else wSs C b E σ S1) : wS C (.ite c a b) E σ S := by rw [wS]; exact q
theorem s_for {tg : Tg} {it : It} {b : Sms} (q : wI C it σ S fun G xs S1 => ForL C G tg b xs E σ S1) : wS C (.for tg it b) E σ S := by rw [wS]; exact q
theorem s_whl {c : Ex} {b : Sms} (q : WhlL C c b E σ S) : wS C (.whl c b) E σ S := by rw [wS]; exact q
theorem s_ret {e : Ex} (q : wE C e σ S E.rt) : wS C (.ret e) E σ S := by rw [wS]; exact q
theorem s_retN (q : E.rt .non S) : wS C .retN E σ S := by rw [wS]; exact q
theorem s_brk (q : E.bk σ S) : wS C .brk E σ S := by rw [wS]; exact q
theorem s_cnt (q : E.ct σ S) : wS C .cnt E σ S := by rw [wS]; exact q
theorem s_pas (q : E.nx σ S) : wS C .pas E σ S := by rw [wS]; exact q
/-- a cut behind a statement -/
theorem ss_cut (mC : MonoC C) {s : Sm} {ss : Sms} (M : Sg → St → Prop) (h1 : wS C s { nx := M, rt := E.rt, bk := E.bk, ct := E.ct } σ S) (h2 : ∀ σ' S', M σ' S' → wSs C ss E σ' S') : wSs C (.cons s ss) E σ S := by
  rw [wSs]
  refine wS_mono mC s { nx := M, rt := E.rt, bk := E.bk, ct := E.ct } _ _ _ ⟨?_, fun _ _ q => q, fun _ _ q => q, fun _ _ q => q⟩ h1
  exact fun σ S q => h2 _ _ q
/-- a test cut off from its arms -/
theorem ss_if (mC : MonoC C) {c : Ex} {a b ss : Sms} (M : Bool → St → Prop) (h1 : wT C c σ S M)
    (hT : ∀ S', M true S' → wSs C a { nx := wSs C ss E, rt := E.rt, bk := E.bk, ct := E.ct } σ S')
    (hF : ∀ S', M false S' → wSs C b { nx := wSs C ss E, rt := E.rt, bk := E.bk, ct := E.ct } σ S') : wSs C (.cons (.ite c a b) ss) E σ S := by
  refine ss_cons ?_
  rw [wS]
  refine wT_mono mC c σ S _ _ (fun k S' h => ?_) h1
  cases k with
  | true => exact hT S' h
  | false => exact hF S' h
theorem for_inv (mC : MonoC C) {G : St → Prop} {tg : Tg} {b : Sms} {xs : List D} (I : Nat → Sg → St → Prop) (h0 : I 0 σ S)
    (hG : ∀ i σ S, I i σ S → G S)
    (step : ∀ i x σ S, xs[i]? = some x → I i σ S → ∃ σ', gA tg x σ = some σ' ∧ wSs C b { nx := I (i + 1), ct := I (i + 1), bk := E.nx, rt := E.rt } σ' S)
    (fin : ∀ σ S, I xs.length σ S → E.nx σ S) : ForL C G tg b xs E σ S := by
  unfold ForL
  have key : ∀ (ys : List D) (i : Nat) (σ : Sg) (S : St), (∀ j, ys[j]? = xs[i + j]?) → i + ys.length = xs.length → I i σ S → forW G tg (fun E' σ' S' => wSs C b E' σ' S') ys E σ S := by
    intro ys
    induction ys with
    | nil =>
      intro i σ S hy hl hi
      refine ⟨hG _ _ _ hi, fin _ _ ?_⟩
      simp only [List.length_nil, Nat.add_zero] at hl
      rw [← hl]; exact hi
    | cons y ys ih =>
      intro i σ S hy hl hi
      have hx : xs[i]? = some y := by have := hy 0; rw [List.getElem?_cons_zero, Nat.add_zero] at this; exact this.symm
      obtain ⟨σ', hg, hb⟩ := step i y σ S hx hi
      refine ⟨hG _ _ _ hi, σ', hg, ?_⟩
      have go : ∀ σ2 S2, I (i + 1) σ2 S2 → forW G tg (fun E' σ' S' => wSs C b E' σ' S') ys E σ2 S2 := fun σ2 S2 h2 =>
        ih (i + 1) σ2 S2 (fun j => by have := hy (j + 1); rw [List.getElem?_cons_succ] at this; rw [this]; congr 1; omega) (by rw [List.length_cons] at hl; omega) h2
      refine wSs_mono mC b { nx := I (i + 1), ct := I (i + 1), bk := E.nx, rt := E.rt } _ _ _ ⟨go, fun _ _ q => q, fun _ _ q => q, go⟩ hb
  exact key xs 0 σ S (fun j => by rw [Nat.zero_add]) (by omega) h0
end

/-- a comprehension by an invariant -/
theorem lc_inv {C : Nat → List D → St → QD → Prop} (mC : MonoC C) {G : St → Prop} {tg : Tg} {elt : Ex} {ifs : Exs} {xs : List D} {σ : Sg} {S : St} {Q : List D → St → Prop}
    (I : Nat → List D → St → Prop) (h0 : I 0 [] S) (hG : ∀ i acc S, I i acc S → G S)
    (step : ∀ i x acc S, xs[i]? = some x → I i acc S → ∃ σ', gA tg x σ = some σ' ∧ wC C ifs σ' S fun b S1 => if b = true then wE C elt σ' S1 (fun y S2 => I (i + 1) (acc ++ [y]) S2) else I (i + 1) acc S1)
    (fin : ∀ acc S, I xs.length acc S → Q acc S) : LcL C G elt tg ifs σ xs S Q := by
  unfold LcL
  have key : ∀ (ys : List D) (i : Nat) (acc : List D) (S : St), (∀ j, ys[j]? = xs[i + j]?) → i + ys.length = xs.length → I i acc S → lcW G tg (fun σ' S' Q' => wC C ifs σ' S' Q') (fun σ' S' Q' => wE C elt σ' S' Q') σ ys acc S Q := by
    intro ys
    induction ys with
    | nil =>
      intro i acc S hy hl hi
      refine ⟨hG _ _ _ hi, fin _ _ ?_⟩
      simp only [List.length_nil, Nat.add_zero] at hl
      rw [← hl]; exact hi
    | cons y ys ih =>
      intro i acc S hy hl hi
      have hx : xs[i]? = some y := by have := hy 0; rw [List.getElem?_cons_zero, Nat.add_zero] at this; exact this.symm
      obtain ⟨σ', hg, hb⟩ := step i y acc S hx hi
      have go : ∀ acc2 S2, I (i + 1) acc2 S2 → lcW G tg (fun σ' S' Q' => wC C ifs σ' S' Q') (fun σ' S' Q' => wE C elt σ' S' Q') σ ys acc2 S2 Q := fun acc2 S2 h2 =>
        ih (i + 1) acc2 S2 (fun j => by have := hy (j + 1); rw [List.getElem?_cons_succ] at this; rw [this]; congr 1; omega) (by rw [List.length_cons] at hl; omega) h2
      refine ⟨hG _ _ _ hi, σ', hg, wC_mono mC ifs _ _ _ _ (fun b S1 h1 => ?_) hb⟩
      cases b with
      | true => exact wE_mono mC elt _ _ _ _ (fun y S2 h2 => go _ _ h2) h1
      | false => exact go _ _ h1
  exact key xs 0 [] S (fun j => by rw [Nat.zero_add]) (by omega) h0
/-- a comprehension without a test -/
theorem lc_all {C : Nat → List D → St → QD → Prop} (mC : MonoC C) {G : St → Prop} {tg : Tg} {elt : Ex} {xs : List D} {σ : Sg} {S : St} {Q : List D → St → Prop}
    (I : Nat → List D → St → Prop) (h0 : I 0 [] S) (hG : ∀ i acc S, I i acc S → G S)
    (step : ∀ i x acc S, xs[i]? = some x → I i acc S → ∃ σ', gA tg x σ = some σ' ∧ wE C elt σ' S (fun y S2 => I (i + 1) (acc ++ [y]) S2))
    (fin : ∀ acc S, I xs.length acc S → Q acc S) : LcL C G elt tg .nil σ xs S Q :=
  lc_inv mC I h0 hG (fun i x acc S hx hi => by
    obtain ⟨σ', hg, h⟩ := step i x acc S hx hi
    exact ⟨σ', hg, wc_nil (by rw [if_pos rfl]; exact h)⟩) fin

/-! ### operations -/
section
variable {S : St} {Q : QD}
theorem b_add {i j : Int} (q : Q (.int (i + j)) S) : binW .add (.int i) (.int j) S Q := q
theorem b_addT {a b : List D} (h : a.length + b.length ≤ sizeLine) (q : Q (.tup (a ++ b)) S) : binW .add (.tup a) (.tup b) S Q := ⟨h, q⟩
theorem b_addL {a b : Nat} {xs ys : List D} (h1 : S[a]? = some (.lst xs)) (h2 : S[b]? = some (.lst ys)) (h : xs.length + ys.length ≤ sizeLine) (q : Q (.ref S.length) (S ++ [.lst (xs ++ ys)])) : binW .add (.ref a) (.ref b) S Q := ⟨xs, ys, h1, h2, h, q⟩
theorem b_sub {i j : Int} (q : Q (.int (i - j)) S) : binW .sub (.int i) (.int j) S Q := q
theorem b_mul {i j : Int} (h : L2.CMul i j) (q : Q (.int (i * j)) S) : binW .mul (.int i) (.int j) S Q := ⟨h, q⟩
theorem b_mulL {a : Nat} {k : Int} {xs : List D} (h1 : S[a]? = some (.lst xs)) (h2 : -(2 ^ 63) ≤ k ∧ k < 2 ^ 63) (h : xs.length * k.toNat ≤ sizeLine) (q : Q (.ref S.length) (S ++ [.lst (List.replicate k.toNat xs).flatten])) : binW .mul (.ref a) (.int k) S Q := ⟨xs, h1, h2.1, h2.2, h, q⟩
theorem b_mulR {i j : Int} (h : (decide (-(2 ^ 64) < j) && decide (j < 2 ^ 64)) = true) (q : Q (.int (i * j)) S) : binW .mul (.int i) (.int j) S Q := by
  rw [Bool.and_eq_true, decide_eq_true_iff, decide_eq_true_iff] at h
  exact ⟨Or.inr h, q⟩
theorem b_mulF {i j : Int} (h : (decide (-(2 ^ 64) < i) && decide (i < 2 ^ 64)) = true) (q : Q (.int (i * j)) S) : binW .mul (.int i) (.int j) S Q := by
  rw [Bool.and_eq_true, decide_eq_true_iff, decide_eq_true_iff] at h
  exact ⟨Or.inl h, q⟩
theorem b_fdiv {i j : Int} (h : j ≠ 0 ∧ j.natAbs < 1073741824) (q : Q (.int (i.fdiv j)) S) : binW .fdiv (.int i) (.int j) S Q := ⟨h, q⟩
theorem b_mod {i j : Int} (h : j ≠ 0) (q : Q (.int (i.fmod j)) S) : binW .mod (.int i) (.int j) S Q := ⟨h, q⟩
theorem b_pow {i j : Int} (h : L2.CPow i j) (q : Q (.int (i ^ j.toNat)) S) : binW .pow (.int i) (.int j) S Q := ⟨h, q⟩
theorem c_lt {i j : Int} {Q : Bool → St → Prop} (q : Q (decide (i < j)) S) : cmpW .lt (.int i) (.int j) S Q := q
theorem c_le {i j : Int} {Q : Bool → St → Prop} (q : Q (decide (i ≤ j)) S) : cmpW .le (.int i) (.int j) S Q := q
theorem c_gt {i j : Int} {Q : Bool → St → Prop} (q : Q (decide (j < i)) S) : cmpW .gt (.int i) (.int j) S Q := q
theorem c_ge {i j : Int} {Q : Bool → St → Prop} (q : Q (decide (j ≤ i)) S) : cmpW .ge (.int i) (.int j) S Q := q
theorem eqB_int (i j : Int) : eqB S (.int i) (.int j) = some (decide (i = j)) := by
  unfold eqB
  rw [show toPS S (.int i) = some (.int i) from rfl, show toPS S (.int j) = some (.int j) from rfl]
  show (if SeqAt.shaped (.int i) = true ∧ SeqAt.shaped (.int j) = true then some (PyData.eqv (.int i) (.int j)) else none) = _
  rw [if_pos ⟨rfl, rfl⟩]
  congr 1
theorem c_eqI {i j : Int} {Q : Bool → St → Prop} (q : Q (decide (i = j)) S) : cmpW .eq (.int i) (.int j) S Q := ⟨_, eqB_int i j, q⟩
theorem c_neI {i j : Int} {Q : Bool → St → Prop} (q : Q (!decide (i = j)) S) : cmpW .ne (.int i) (.int j) S Q := ⟨_, eqB_int i j, q⟩
theorem eqB_bl (i j : Bool) : eqB S (.bl i) (.bl j) = some (i == j) := by
  unfold eqB
  rw [show toPS S (.bl i) = some (.bool i) from rfl, show toPS S (.bl j) = some (.bool j) from rfl]
  show (if SeqAt.shaped (.bool i) = true ∧ SeqAt.shaped (.bool j) = true then some (PyData.eqv (.bool i) (.bool j)) else none) = _
  rw [if_pos ⟨rfl, rfl⟩]
  cases i <;> cases j <;> rfl
theorem c_eqB {i j : Bool} {Q : Bool → St → Prop} (q : Q (i == j) S) : cmpW .eq (.bl i) (.bl j) S Q := ⟨_, eqB_bl i j, q⟩
theorem c_neB {i j : Bool} {Q : Bool → St → Prop} (q : Q (!(i == j)) S) : cmpW .ne (.bl i) (.bl j) S Q := ⟨_, eqB_bl i j, q⟩
theorem c_eq {x y : D} {b : Bool} {Q : Bool → St → Prop} (h : eqB S x y = some b) (q : Q b S) : cmpW .eq x y S Q := ⟨_, h, q⟩
theorem c_ne {x y : D} {b : Bool} {Q : Bool → St → Prop} (h : eqB S x y = some b) (q : Q (!b) S) : cmpW .ne x y S Q := ⟨_, h, q⟩
theorem c_is {x : D} {Q : Bool → St → Prop} (q : Q (isNon x) S) : cmpW .is x .non S Q := ⟨rfl, q⟩
theorem c_isnot {x : D} {Q : Bool → St → Prop} (q : Q (!isNon x) S) : cmpW .isnot x .non S Q := ⟨rfl, q⟩
theorem ix_tup {xs : List D} {i : Int} {d : D} (h : L2.atI xs i = some d) (q : Q d S) : ixW (.tup xs) (.int i) S Q := ⟨d, h, q⟩
theorem ix_ref {n : Nat} {xs : List D} {i : Int} {d : D} (h1 : S[n]? = some (.lst xs)) (h : L2.atI xs i = some d) (q : Q d S) : ixW (.ref n) (.int i) S Q := ⟨xs, d, seqOf_lst h1, h, q⟩
theorem ix_seq {n : Nat} {xs : List D} {i : Int} {d : D} (h1 : seqOf S n = some xs) (h : L2.atI xs i = some d) (q : Q d S) : ixW (.ref n) (.int i) S Q := ⟨xs, d, h1, h, q⟩
theorem sl_tup {xs : List D} {l h : Option Int} (q : Q (.tup (cutD xs l h)) S) : slW (.tup xs) l h S Q := q
theorem sl_ref {n : Nat} {xs : List D} {l h : Option Int} (h1 : S[n]? = some (.lst xs)) (q : Q (.ref S.length) (S ++ [.lst (cutD xs l h)])) : slW (.ref n) l h S Q := ⟨xs, seqOf_lst h1, q⟩
theorem l_lenT {ds : List D} (q : Q (.int ds.length) S) : bltW .len [.tup ds] S Q := q
theorem l_lenR {n : Nat} {ds : List D} (h : S[n]? = some (.lst ds)) (q : Q (.int ds.length) S) : bltW .len [.ref n] S Q := ⟨ds, seqOf_lst h, q⟩
theorem l_lenQ {n : Nat} {ds : List D} (h : seqOf S n = some ds) (q : Q (.int ds.length) S) : bltW .len [.ref n] S Q := ⟨ds, h, q⟩
theorem l_abs {i : Int} (q : Q (.int (if i < 0 then -i else i)) S) : bltW .abs [.int i] S Q := q
theorem l_int {i : Int} (q : Q (.int i) S) : bltW .int [.int i] S Q := q
theorem l_intB {b : Bool} (q : Q (.int (if b then 1 else 0)) S) : bltW .int [.bl b] S Q := q
theorem l_max2 {i j : Int} (q : Q (.int (if j > i then j else i)) S) : bltW .max [.int i, .int j] S Q := q
theorem l_min2 {i j : Int} (q : Q (.int (if j < i then j else i)) S) : bltW .min [.int i, .int j] S Q := q
theorem l_max3 {i j k : Int} (q : Q (.int (max (max i j) k)) S) : bltW .max [.int i, .int j, .int k] S Q := q
theorem l_min3 {i j k : Int} (q : Q (.int (min (min i j) k)) S) : bltW .min [.int i, .int j, .int k] S Q := q
theorem l_max4 {i j k l : Int} (q : Q (.int (max (max (max i j) k) l)) S) : bltW .max [.int i, .int j, .int k, .int l] S Q := q
theorem l_min4 {i j k l : Int} (q : Q (.int (min (min (min i j) k) l)) S) : bltW .min [.int i, .int j, .int k, .int l] S Q := q
theorem l_tupT {ds : List D} (q : Q (.tup ds) S) : bltW .tuple [.tup ds] S Q := q
theorem l_tupR {n : Nat} {ds : List D} (h : S[n]? = some (.lst ds)) (q : Q (.tup ds) S) : bltW .tuple [.ref n] S Q := ⟨ds, seqOf_lst h, q⟩
theorem l_lstT {ds : List D} (q : Q (.ref S.length) (S ++ [.lst ds])) : bltW .list [.tup ds] S Q := q
theorem l_lstR {n : Nat} {ds : List D} (h : S[n]? = some (.lst ds)) (q : Q (.ref S.length) (S ++ [.lst ds])) : bltW .list [.ref n] S Q := ⟨ds, seqOf_lst h, q⟩
theorem lstD_lst {n : Nat} {ds : List D} (h : S[n]? = some (.lst ds)) : lstD S (.ref n) := ⟨n, ds, rfl, seqOf_lst h⟩
theorem m_append {n : Nat} {y : D} {ds : List D} (h : S[n]? = some (.lst ds)) (hl : ds.length < sizeLine) (q : Q .non (S.set n (.lst (ds ++ [y])))) : mthW .append (.ref n) [y] S Q := ⟨ds, h, hl, q⟩
theorem m_insert {n : Nat} {i : Int} {y : D} {ds : List D} (h : S[n]? = some (.lst ds)) (hl : ds.length < sizeLine) (h0 : 0 ≤ i ∧ i ≤ ds.length) (q : Q .non (S.set n (.lst (ds.take i.toNat ++ y :: ds.drop i.toNat)))) : mthW .insert (.ref n) [.int i, y] S Q := ⟨ds, h, hl, h0.1, h0.2, q⟩
theorem m_popI {n k : Nat} {i : Int} {y : D} {ds : List D} (h : S[n]? = some (.lst ds)) (h0 : -(2 ^ 63) ≤ i ∧ i < 2 ^ 63) (hk : seqIndex? i ds.length = some k) (hy : ds[k]? = some y) (q : Q y (S.set n (.lst (ds.eraseIdx k)))) : mthW .pop (.ref n) [.int i] S Q := ⟨ds, k, y, h, h0.1, h0.2, hk, hy, q⟩
theorem seqIndex_ok {i : Int} {n : Nat} (h0 : 0 ≤ i) (h : i < n) : seqIndex? i n = some i.toNat := by
  unfold seqIndex?
  simp only [show ¬ i < 0 by omega, if_false]
  simp [h0, h]
theorem st_ix {n j : Nat} {k : Int} {v : D} {xs : List D} {Q : St → Prop} (h : S[n]? = some (.lst xs)) (hj : L2.ixN xs.length k = some j) (q : Q (S.set n (.lst (xs.set j v)))) : setIxW (.ref n) (.int k) v S Q := ⟨xs, j, h, hj, q⟩
theorem r_one {j : Int} {Q : Int → Int → Prop} (h : -(2 ^ 62) ≤ j ∧ j < 2 ^ 62) (q : Q 0 j) : rngW [.int j] Q := ⟨h.1, h.2, q⟩
theorem r_two {i j : Int} {Q : Int → Int → Prop} (h : -(2 ^ 62) ≤ i ∧ i < 2 ^ 62 ∧ -(2 ^ 62) ≤ j ∧ j < 2 ^ 62) (q : Q i j) : rngW [.int i, .int j] Q := ⟨h, q⟩
theorem ex_int {i : Int} {P : Int → Prop} (h : P i) : ∃ k, D.int i = .int k ∧ P k := ⟨i, rfl, h⟩
theorem ex_truB {b : Bool} {P : Bool → Prop} (h : P b) : ∃ k, truD S (.bl b) = some k ∧ P k := ⟨b, rfl, h⟩
theorem ex_truI {i : Int} {P : Bool → Prop} (h : P (i != 0)) : ∃ k, truD S (.int i) = some k ∧ P k := ⟨_, rfl, h⟩
theorem ex_truT {xs : List D} {P : Bool → Prop} (h : P (!xs.isEmpty)) : ∃ k, truD S (.tup xs) = some k ∧ P k := ⟨_, rfl, h⟩
theorem ex_isi {t : Ty} {x : D} {b : Bool} {P : Bool → Prop} (h : isTy t x = some b) (q : P b) : ∃ y, isTy t x = some y ∧ P y := ⟨b, h, q⟩
theorem and_step {p : Prop} {n : Nat} (h : n ≤ sizeLine) (q : p) : n ≤ sizeLine ∧ p := ⟨h, q⟩
theorem ex_some {α : Type} {x : α} {P : α → Prop} (h : P x) : ∃ y, some x = some y ∧ P y := ⟨x, rfl, h⟩
theorem if_dT {p : Prop} [Decidable p] {A B : Prop} (hp : p) (h : A) : if decide p = true then A else B := by rw [if_pos (decide_eq_true hp)]; exact h
theorem if_dF {p : Prop} [Decidable p] {A B : Prop} (hp : ¬ p) (h : B) : if decide p = true then A else B := by rw [if_neg (by simp [hp])]; exact h
theorem if_d {p : Prop} [Decidable p] {A B : Prop} (h1 : p → A) (h2 : ¬ p → B) : if decide p = true then A else B := by
  by_cases hp : p
  · exact if_dT hp (h1 hp)
  · exact if_dF hp (h2 hp)
theorem if_n {p : Prop} [Decidable p] {A B : Prop} (h1 : ¬ p → A) (h2 : p → B) : if (!decide p) = true then A else B := by
  by_cases hp : p
  · rw [if_neg (by simp [hp])]; exact h2 hp
  · rw [if_pos (by simp [hp])]; exact h1 hp
theorem if_b {b : Bool} {A B : Prop} (h1 : b = true → A) (h2 : b = false → B) : if b = true then A else B := by
  cases b with
  | true => rw [if_pos rfl]; exact h1 rfl
  | false => rw [if_neg (by decide)]; exact h2 rfl
theorem if_nb {b : Bool} {A B : Prop} (h1 : b = false → A) (h2 : b = true → B) : if (!b) = true then A else B := by
  cases b with
  | true => rw [if_neg (by decide)]; exact h2 rfl
  | false => rw [if_pos (by decide)]; exact h1 rfl
theorem if_bT {b : Bool} {A B : Prop} (hb : b = true) (h : A) : if b = true then A else B := by rw [if_pos hb]; exact h
theorem if_bF {b : Bool} {A B : Prop} (hb : b = false) (h : B) : if b = true then A else B := by subst hb; rw [if_neg (by decide)]; exact h
theorem if_nT {b : Bool} {A B : Prop} (hb : b = false) (h : A) : if (!b) = true then A else B := by subst hb; rw [if_pos (by decide)]; exact h
theorem if_nF {b : Bool} {A B : Prop} (hb : b = true) (h : B) : if (!b) = true then A else B := by subst hb; rw [if_neg (by decide)]; exact h
theorem if_ndT {p : Prop} [Decidable p] {A B : Prop} (hp : ¬ p) (h : A) : if (!decide p) = true then A else B := if_nT (decide_eq_false hp) h
theorem if_ndF {p : Prop} [Decidable p] {A B : Prop} (hp : p) (h : B) : if (!decide p) = true then A else B := if_nF (decide_eq_true hp) h
theorem if_tt {A B : Prop} (h : A) : if true = true then A else B := by rw [if_pos rfl]; exact h
theorem if_ff {A B : Prop} (h : B) : if false = true then A else B := by rw [if_neg (by decide)]; exact h
end
/-- a slice's items are the list's own -/
theorem mem_cut {xs : List D} {l h : Option Int} {d : D} (hd : d ∈ cutD xs l h) : d ∈ xs := by
  unfold cutD at hd
  exact List.mem_of_mem_drop (List.mem_of_mem_take hd)
theorem cut_len (xs : List D) (l h : Option Int) : (cutD xs l h).length ≤ xs.length := by
  unfold cutD
  rw [List.length_take, List.length_drop]; omega
theorem rgD_len (a b : Int) : (rgD a b).length = (b - a).toNat := by unfold rgD; rw [List.length_map, List.length_range]
theorem rgD_get {a b : Int} {i : Nat} {x : D} (h : (rgD a b)[i]? = some x) : i < (b - a).toNat ∧ x = .int (a + i) := by
  unfold rgD at h
  rw [List.getElem?_map] at h
  cases e : (List.range (b - a).toNat)[i]? with
  | none => rw [e] at h; cases h
  | some j =>
    rw [e] at h
    have hl : i < (List.range (b - a).toNat).length := by
      rcases Nat.lt_or_ge i (List.range (b - a).toNat).length with g | g
      · exact g
      · rw [List.getElem?_eq_none g] at e; cases e
    rw [List.length_range] at hl
    rw [List.getElem?_range hl] at e
    cases e
    exact ⟨hl, (Option.some.inj h).symm⟩
theorem rgdD_len (a b : Int) : (rgdD a b).length = (a - b).toNat := by unfold rgdD; rw [List.length_map, List.length_range]
theorem rgdD_get {a b : Int} {i : Nat} {x : D} (h : (rgdD a b)[i]? = some x) : i < (a - b).toNat ∧ x = .int (a - i) := by
  have hi : i < (a - b).toNat := by rw [← rgdD_len]; exact (List.getElem?_eq_some_iff.mp h).1
  unfold rgdD at h
  rw [List.getElem?_map, List.getElem?_range hi] at h
  exact ⟨hi, (Option.some.inj h).symm⟩
theorem call_of {T : List FDef} {f : Nat} {fd : FDef} {k : Nat} {ds : List D} {S : St} {Q : QD} (h : T[f]? = some fd) (hl : ds.length = fd.np)
    (q : wSs (callW T k) fd.body { nx := fun _ S' => Q .non S', rt := Q } (startD fd.nn ds) S) : callW T (k + 1) f ds S Q := ⟨fd, h, hl, q⟩
/-- both arms of an if, then that which follows once -/
theorem if_join {C : Nat → List D → St → QD → Prop} (mC : MonoC C) {p : Prop} [Decidable p] {A B : Sms} {N : Sg → St → Prop} {rt : QD} {bk ct : Sg → St → Prop} {σ : Sg} {S : St}
    (M : Sg → St → Prop)
    (h1 : if p then wSs C A { nx := M, rt := rt, bk := bk, ct := ct } σ S else wSs C B { nx := M, rt := rt, bk := bk, ct := ct } σ S)
    (h2 : ∀ σ' S', M σ' S' → N σ' S') : if p then wSs C A { nx := N, rt := rt, bk := bk, ct := ct } σ S else wSs C B { nx := N, rt := rt, bk := bk, ct := ct } σ S := by
  by_cases hp : p
  · rw [if_pos hp] at h1 ⊢
    exact wSs_mono mC A { nx := M, rt := rt, bk := bk, ct := ct } { nx := N, rt := rt, bk := bk, ct := ct } _ _ ⟨h2, fun _ _ q => q, fun _ _ q => q, fun _ _ q => q⟩ h1
  · rw [if_neg hp] at h1 ⊢
    exact wSs_mono mC B { nx := M, rt := rt, bk := bk, ct := ct } { nx := N, rt := rt, bk := bk, ct := ct } _ _ ⟨h2, fun _ _ q => q, fun _ _ q => q, fun _ _ q => q⟩ h1
end Flx

end
section
set_option Elab.async false
set_option linter.all false
set_option autoImplicit false
set_option maxRecDepth 100000
/-! FlxData: plain data, compared; arcs. -/
namespace Flx
open PySem PySem.Spec PyProof.Rows
/-- plain data, k deep -/
def plD : Nat → D → Prop
  | _, .non => True
  | _, .bl _ => True
  | _, .int _ => True
  | _, .str s => SeqAt.shaped (.str s) = true
  | 0, .tup _ => False
  | k + 1, .tup xs => xs.length < 2 ^ 30 ∧ ∀ d ∈ xs, plD k d
  | _, .ref _ => False
theorem toPs_of {k : Nat} (ih : ∀ d, plD k d → ∃ p, toP d = some p ∧ p.canLay0 = true ∧ p.depth ≤ k) : ∀ ds : List D, (∀ d ∈ ds, plD k d) →
    ∃ ps, toPs ds = some ps ∧ PyData.canLayAll0 ps = true ∧ PyData.depthAll ps ≤ k ∧ ps.length = ds.length
  | [], _ => ⟨[], by rw [toPs], by rw [PyData.canLayAll0], by rw [PyData.depthAll]; exact Nat.zero_le _, rfl⟩
  | d :: ds, h => by
    obtain ⟨p, e1, c1, d1⟩ := ih d (h d (List.mem_cons_self ..))
    obtain ⟨ps, e2, c2, d2, l2⟩ := toPs_of ih ds (fun x hx => h x (List.mem_cons_of_mem _ hx))
    refine ⟨p :: ps, by rw [toPs, e1, e2]; rfl, ?_, ?_, ?_⟩
    · rw [PyData.canLayAll0, c1, c2]; rfl
    · rw [PyData.depthAll]; exact Nat.max_le.2 ⟨d1, d2⟩
    · rw [List.length_cons, List.length_cons, l2]
theorem toP_pl : ∀ (k : Nat) (d : D), plD k d → ∃ p, toP d = some p ∧ p.canLay0 = true ∧ p.depth ≤ k
  | k, .non, _ => ⟨.none, by rw [toP], by rw [PyData.canLay0], by rw [PyData.depth]; exact Nat.zero_le _⟩
  | k, .bl b, _ => ⟨.bool b, by rw [toP], by rw [PyData.canLay0], by rw [PyData.depth]; exact Nat.zero_le _⟩
  | k, .int b, _ => ⟨.int b, by rw [toP], by rw [PyData.canLay0], by rw [PyData.depth]; exact Nat.zero_le _⟩
  | k, .str b, h => ⟨.str b, by rw [toP], SeqAt.canLay_of_shaped (by cases k <;> exact h), by rw [PyData.depth]; exact Nat.zero_le _⟩
  | 0, .tup xs, h => h.elim
  | k + 1, .tup xs, h => by
    obtain ⟨ps, e2, c2, d2, l2⟩ := toPs_of (toP_pl k) xs h.2
    refine ⟨.tuple ps, by rw [toP, e2]; rfl, by rw [PyData.canLay0]; exact c2, by rw [PyData.depth]; omega⟩
  | k, .ref n, h => by cases k <;> exact h.elim
theorem toPs_pl {k : Nat} {ds : List D} (h : ∀ d ∈ ds, plD k d) : ∃ ps, toPs ds = some ps ∧ PyData.canLayAll0 ps = true ∧ PyData.depthAll ps ≤ k ∧ ps.length = ds.length := toPs_of (toP_pl k) ds h
theorem shaped_of {p : PyData} (h1 : p.canLay0 = true) (h2 : p.depth ≤ 64) : SeqAt.shaped p = true := by
  unfold SeqAt.shaped; rw [h1, decide_eq_true h2]; rfl
mutual
theorem toPR_of {S : St} : ∀ {d : D} {p : PyData}, toP d = some p → toPR S d = some p
  | .non, p, h => by simpa [toP, toPR] using h
  | .bl _, p, h => by simpa [toP, toPR] using h
  | .int _, p, h => by simpa [toP, toPR] using h
  | .str _, p, h => by simpa [toP, toPR] using h
  | .tup xs, p, h => by
    cases q : toPs xs with
    | none => simp [toP, q] at h
    | some ps =>
      have h' : PyData.tuple ps = p := by simpa [toP, q] using h
      rw [toPR, toPRs_of q, ← h']; rfl
  | .ref _, p, h => by simp [toP] at h
theorem toPRs_of {S : St} : ∀ {ds : List D} {ps : List PyData}, toPs ds = some ps → toPRs S ds = some ps
  | [], ps, h => by simpa [toPs, toPRs] using h
  | d :: ds, ps, h => by
    cases q : toP d with
    | none => simp [toPs, q] at h
    | some p =>
      cases q2 : toPs ds with
      | none => simp [toPs, q, q2] at h
      | some ps' =>
        have h' : p :: ps' = ps := by simpa [toPs, q, q2] using h
        rw [toPRs, toPR_of q, toPRs_of q2, ← h']; rfl
end
theorem toPS_of {S : St} {d : D} {p : PyData} (h : toP d = some p) : toPS S d = some p := by
  cases d <;> first | exact toPR_of h | simp [toP] at h
theorem eqB_some {S : St} {x y : D} {p q : PyData} (h1 : toPS S x = some p) (h2 : toPS S y = some q) (g1 : SeqAt.shaped p = true) (g2 : SeqAt.shaped q = true) : eqB S x y = some (PyData.eqv p q) := by
  unfold eqB; rw [h1, h2]
  show (if SeqAt.shaped p = true ∧ SeqAt.shaped q = true then some (PyData.eqv p q) else none) = _
  rw [if_pos ⟨g1, g2⟩]
theorem eqvAll_nil (ps : List PyData) : PyData.eqvAll ps [] = ps.isEmpty := by cases ps <;> simp [PyData.eqvAll]
theorem eqB_nilT {S : St} {xs : List D} (h : ∀ d ∈ xs, plD 60 d) : eqB S (.tup xs) (.tup []) = some xs.isEmpty := by
  obtain ⟨ps, e, c, d, l⟩ := toPs_pl h
  rw [eqB_some (p := .tuple ps) (q := .tuple []) (toPS_of (by rw [toP, e]; rfl)) (toPS_of (by rw [toP, toPs]; rfl))
    (shaped_of (by rw [PyData.canLay0]; exact c) (by rw [PyData.depth]; omega)) (by decide)]
  rw [PyData.eqv, eqvAll_nil]
  cases ps <;> cases xs <;> first | rfl | cases l
theorem toPS_lst {S : St} {a : Nat} {xs : List D} {ps : List PyData} (h : S[a]? = some (.lst xs)) (e : toPs xs = some ps) : toPS S (.ref a) = some (.list ps) := by
  show ((seqOf S a).bind fun xs => (toPRs S xs).map PyData.list) = _
  rw [seqOf_lst h]
  show (toPRs S xs).map _ = _
  rw [toPRs_of e]; rfl
theorem eqB_nilL {S : St} {a b : Nat} {xs : List D} (h1 : S[a]? = some (.lst xs)) (h2 : S[b]? = some (.lst [])) (h : ∀ d ∈ xs, plD 60 d) : eqB S (.ref a) (.ref b) = some xs.isEmpty := by
  obtain ⟨ps, e, c, d, l⟩ := toPs_pl h
  rw [eqB_some (p := .list ps) (q := .list []) (toPS_lst h1 e) (toPS_lst h2 (by rw [toPs]))
    (shaped_of (by rw [PyData.canLay0]; exact c) (by rw [PyData.depth]; omega)) (by decide)]
  rw [PyData.eqv, eqvAll_nil]
  cases ps <;> cases xs <;> first | rfl | cases l
theorem atI_lit {xs : List D} {r : Int} (is : List Int) (e : xs = is.map .int) (h0 : 0 ≤ r) (h1 : r < is.length) : ∃ j, j ∈ is ∧ L2.atI xs r = some (.int j) := by
  subst e
  have hr : r.toNat < is.length := by omega
  exact ⟨is[r.toNat], List.getElem_mem hr, atI_map (atI_int h0 (List.getElem?_eq_getElem hr))⟩
theorem atI_ints {is : List Int} {r : Int} (h0 : -(is.length : Int) ≤ r) (h1 : r < is.length) : ∃ j, j ∈ is ∧ L2.atI (is.map D.int) r = some (.int j) :=
  ⟨_, List.getElem_mem (pyI_lt h0 h1), atI_map (atI_py h0 h1)⟩
/-- an arc among m nodes -/
def arcOk (m : Int) (d : D) : Prop := ∃ i j w : Int, d = .tup [.int i, .int j, .int w] ∧ -1 ≤ i ∧ i < m ∧ -1 ≤ j ∧ j < m
theorem arcOk_pl {m : Int} {d : D} (h : arcOk m d) : plD 60 d := by
  obtain ⟨i, j, w, rfl, _⟩ := h
  refine ⟨by simp only [List.length_cons, List.length_nil]; decide, fun d hd => ?_⟩
  simp only [List.mem_cons, List.not_mem_nil, or_false] at hd
  rcases hd with rfl | rfl | rfl <;> exact trivial
end Flx

end
section
set_option Elab.async false
set_option linter.all false
set_option autoImplicit false
/-! FlxNet: longest ways: Floyd and Warshall's table, in place and row by row. -/
namespace FNet
abbrev F := Nat → Nat → Option Int
/-- the greater one; none is below all -/
def omax : Option Int → Option Int → Option Int
  | none, y => y
  | x, none => x
  | some a, some b => some (if a < b then b else a)
def oadd : Option Int → Option Int → Option Int
  | some a, some b => some (a + b)
  | _, _ => none
def ole : Option Int → Option Int → Prop
  | none, _ => True
  | some _, none => False
  | some a, some b => a ≤ b
theorem ole_refl (x : Option Int) : ole x x := by cases x <;> simp [ole]
theorem ole_trans {x y z : Option Int} (h : ole x y) (h' : ole y z) : ole x z := by
  cases x <;> cases y <;> cases z <;> simp_all [ole] <;> omega
theorem ole_maxL (x y : Option Int) : ole x (omax x y) := by
  cases x <;> cases y <;> simp [ole, omax] <;> split <;> omega
theorem ole_maxR (x y : Option Int) : ole y (omax x y) := by
  cases x <;> cases y <;> simp [ole, omax] <;> split <;> omega
theorem omax_le {x y z : Option Int} (h : ole x z) (h' : ole y z) : ole (omax x y) z := by
  cases x <;> cases y <;> cases z <;> simp_all [ole, omax]
  split <;> omega
theorem ole_antisymm {x y : Option Int} (h : ole x y) (h' : ole y x) : x = y := by
  cases x <;> cases y <;> simp_all [ole]; omega
theorem oadd_mono {x x' y y' : Option Int} (h : ole x x') (h' : ole y y') : ole (oadd x y) (oadd x' y') := by
  cases x <;> cases x' <;> cases y <;> cases y' <;> simp_all [ole, oadd] <;> omega
theorem oadd_assoc (x y z : Option Int) : oadd (oadd x y) z = oadd x (oadd y z) := by
  cases x <;> cases y <;> cases z <;> simp [oadd]; omega
theorem omax_comm (x y : Option Int) : omax x y = omax y x := ole_antisymm (omax_le (ole_maxR _ _) (ole_maxL _ _)) (omax_le (ole_maxR _ _) (ole_maxL _ _))
theorem omax_assoc (x y z : Option Int) : omax (omax x y) z = omax x (omax y z) :=
  ole_antisymm (omax_le (omax_le (ole_maxL _ _) (ole_trans (ole_maxL _ _) (ole_maxR _ _))) (ole_trans (ole_maxR _ _) (ole_maxR _ _)))
    (omax_le (ole_trans (ole_maxL _ _) (ole_maxL _ _)) (omax_le (ole_trans (ole_maxR _ _) (ole_maxL _ _)) (ole_maxR _ _)))
theorem omax_absorb {x y : Option Int} (h : ole y x) : omax x y = x := ole_antisymm (omax_le (ole_refl _) h) (ole_maxL _ _)
def upd (f : F) (i j : Nat) (v : Option Int) : F := fun i' j' => if i' = i ∧ j' = j then v else f i' j'
theorem upd_self (f : F) (i j : Nat) (v : Option Int) : upd f i j v i j = v := by unfold upd; rw [if_pos ⟨rfl, rfl⟩]
theorem upd_ne (f : F) {i j i' j' : Nat} (v : Option Int) (h : ¬ (i' = i ∧ j' = j)) : upd f i j v i' j' = f i' j' := by unfold upd; rw [if_neg h]
/-- one step in place -/
def stp (k i j : Nat) (f : F) : F := upd f i j (omax (f i j) (oadd (f i k) (f k j)))
def lj (k i : Nat) : Nat → F → F
  | 0, f => f
  | j + 1, f => stp k i j (lj k i j f)
def li (n k : Nat) : Nat → F → F
  | 0, f => f
  | i + 1, f => lj k i n (li n k i f)
def lk (n : Nat) : Nat → F → F
  | 0, f => f
  | k + 1, f => li n k n (lk n k f)
/-- all rows at once -/
def sim (k : Nat) (f : F) : F := fun i j => omax (f i j) (oadd (f i k) (f k j))
def sims : Nat → F → F
  | 0, f => f
  | k + 1, f => sim k (sims k f)
def fle (f g : F) : Prop := ∀ i j, ole (f i j) (g i j)
theorem fle_refl (f : F) : fle f f := fun _ _ => ole_refl _
theorem fle_trans {f g h : F} (a : fle f g) (b : fle g h) : fle f h := fun i j => ole_trans (a i j) (b i j)
theorem stp_le (k i j : Nat) (f : F) : fle f (stp k i j f) := fun i' j' => by
  unfold stp upd
  split
  · rename_i h; obtain ⟨rfl, rfl⟩ := h; exact ole_maxL _ _
  · exact ole_refl _
theorem lj_le (k i : Nat) : ∀ (j : Nat) (f : F), fle f (lj k i j f)
  | 0, f => fle_refl f
  | j + 1, f => fle_trans (lj_le k i j f) (stp_le k i j _)
theorem li_le (n k : Nat) : ∀ (i : Nat) (f : F), fle f (li n k i f)
  | 0, f => fle_refl f
  | i + 1, f => fle_trans (li_le n k i f) (lj_le k i n _)
theorem lk_le (n : Nat) : ∀ (k : Nat) (f : F), fle f (lk n k f)
  | 0, f => fle_refl f
  | k + 1, f => fle_trans (lk_le n k f) (li_le n k n _)
theorem lk_le_lk (n : Nat) (f : F) : ∀ (d k : Nat), fle (lk n k f) (lk n (k + d) f)
  | 0, k => fle_refl _
  | d + 1, k => fle_trans (lk_le_lk n f d k) (li_le n (k + d) n _)
theorem lj_none {k i : Nat} {f : F} (h : f i k = none) : ∀ j, lj k i j f = f
  | 0 => rfl
  | j + 1 => by
    show stp k i j (lj k i j f) = f
    rw [lj_none h j]
    unfold stp
    rw [h]
    funext i' j'
    unfold upd
    split
    · rename_i e; rw [e.1, e.2]; cases f i j <;> rfl
    · rfl
/-- with 0 at k k nothing at k moves -/
theorem lj_eq {k i : Nat} {f : F} (h0 : f k k = some 0) : ∀ (j : Nat) (i' j' : Nat), lj k i j f i' j' = if i' = i ∧ j' < j then sim k f i' j' else f i' j'
  | 0, i', j' => by rw [if_neg (by omega)]; rfl
  | j + 1, i', j' => by
    have ih := lj_eq (i := i) h0 j
    show upd (lj k i j f) i j (omax (lj k i j f i j) (oadd (lj k i j f i k) (lj k i j f k j))) i' j' = _
    have e1 : lj k i j f i j = f i j := by rw [ih, if_neg (by omega)]
    have e2 : lj k i j f i k = f i k := by
      rw [ih]
      split
      · unfold sim; rw [h0]; cases f i k with
        | none => rfl
        | some a => show some (if a < a + 0 then a + 0 else a) = some a; rw [if_neg (by omega)]
      · rfl
    have e3 : lj k i j f k j = f k j := by
      rw [ih, if_neg (by omega)]
    rw [e1, e2, e3]
    by_cases h : i' = i ∧ j' = j
    · obtain ⟨rfl, rfl⟩ := h
      rw [upd_self, if_pos ⟨rfl, by omega⟩]; rfl
    · rw [upd_ne _ _ h, ih]
      by_cases h' : i' = i ∧ j' < j
      · rw [if_pos h', if_pos ⟨h'.1, by omega⟩]
      · rw [if_neg h', if_neg (by omega)]
theorem sim_at {k : Nat} {f : F} (h0 : f k k = some 0) (j : Nat) : sim k f k j = f k j := by
  unfold sim; rw [h0]
  cases f k j with
  | none => rfl
  | some a => show some (if a < 0 + a then 0 + a else a) = some a; rw [if_neg (by omega)]
theorem sim_at' {k : Nat} {f : F} (h0 : f k k = some 0) (i : Nat) : sim k f i k = f i k := by
  unfold sim; rw [h0]
  cases f i k with
  | none => rfl
  | some a => show some (if a < a + 0 then a + 0 else a) = some a; rw [if_neg (by omega)]
theorem li_eq {n k : Nat} {f : F} (hk : k < n) (h0 : f k k = some 0) : ∀ (i : Nat) (i' j' : Nat), li n k i f i' j' = if i' < i ∧ j' < n then sim k f i' j' else f i' j'
  | 0, i', j' => by rw [if_neg (by omega)]; rfl
  | i + 1, i', j' => by
    have ih := li_eq (n := n) hk h0 i
    have hk0 : li n k i f k k = some 0 := by
      rw [ih]; split
      · rw [sim_at h0]; exact h0
      · exact h0
    show lj k i n (li n k i f) i' j' = _
    rw [lj_eq hk0]
    by_cases h : i' = i ∧ j' < n
    · obtain ⟨rfl, hj⟩ := h
      rw [if_pos ⟨rfl, hj⟩, if_pos ⟨by omega, hj⟩]
      unfold sim
      have e1 : li n k i' f i' j' = f i' j' := by rw [ih, if_neg (by omega)]
      have e2 : li n k i' f i' k = f i' k := by rw [ih, if_neg (by omega)]
      have e3 : li n k i' f k j' = f k j' := by
        rw [ih]; split
        · exact sim_at h0 j'
        · rfl
      rw [e1, e2, e3]
    · rw [if_neg h, ih]
      by_cases h' : i' < i ∧ j' < n
      · rw [if_pos h', if_pos (by omega)]
      · rw [if_neg h', if_neg (by omega)]
/-- alike among the first n -/
def agr (n : Nat) (f g : F) : Prop := ∀ i j, i < n → j < n → f i j = g i j
theorem sim_agr {n k : Nat} {f g : F} (hk : k < n) (h : agr n f g) : agr n (sim k f) (sim k g) := fun i j hi hj => by
  unfold sim; rw [h i j hi hj, h i k hi hk, h k j hk hj]
theorem lj_agr {n k i : Nat} {f g : F} (hk : k < n) (hi : i < n) (h : agr n f g) : ∀ j, j ≤ n → agr n (lj k i j f) (lj k i j g)
  | 0, _ => h
  | j + 1, hj => fun i' j' hi' hj' => by
    have ih := lj_agr hk hi h j (by omega)
    show stp k i j _ i' j' = stp k i j _ i' j'
    unfold stp upd
    split
    · rw [ih i j hi (by omega), ih i k hi hk, ih k j hk (by omega)]
    · exact ih i' j' hi' hj'
theorem li_agr {n k : Nat} {f g : F} (hk : k < n) (h : agr n f g) : ∀ i, i ≤ n → agr n (li n k i f) (li n k i g)
  | 0, _ => h
  | i + 1, hi => lj_agr hk (by omega) (li_agr hk h i (by omega)) n (Nat.le_refl _)
theorem lk_agr {n : Nat} {f g : F} (h : agr n f g) : ∀ k, k ≤ n → agr n (lk n k f) (lk n k g)
  | 0, _ => h
  | k + 1, hk => li_agr (by omega) (lk_agr h k (by omega)) n (Nat.le_refl _)
/-- the table without a positive round on the way -/
structure Good (n k : Nat) (f : F) : Prop where
  diag : ∀ i, i < n → ∃ a, f i i = some a ∧ 0 ≤ a
  low : ∀ i, i < k → f i i = some 0
  clo : ∀ m u v, m < k → u < n → v < n → ole (oadd (f u m) (f m v)) (f u v)
theorem good_sim {n k : Nat} {f : F} (hk : k < n) (h : Good n k f) (h0 : f k k = some 0) : Good n (k + 1) (sim k f) := by
  have hL : ∀ u v, ole (f u v) (sim k f u v) := fun u v => ole_maxL _ _
  have hR : ∀ u v, ole (oadd (f u k) (f k v)) (sim k f u v) := fun u v => ole_maxR _ _
  have low' : ∀ i, i < k + 1 → sim k f i i = some 0 := fun i hi => by
    by_cases e : i = k
    · subst e; rw [sim_at h0]; exact h0
    · have hi' : i < k := by omega
      have := h.clo i k k hi' hk hk
      unfold sim
      rw [h.low i hi']
      rw [h0] at this
      cases e1 : f i k with
      | none => rfl
      | some a =>
        cases e2 : f k i with
        | none => rfl
        | some b =>
          rw [e1, e2] at this
          have : b + a ≤ 0 := this
          show some (if 0 < a + b then a + b else 0) = some 0
          rw [if_neg (by omega)]
  refine ⟨fun i hi => ?_, low', ?_⟩
  · obtain ⟨a, ea, ha⟩ := h.diag i hi
    have := hL i i
    rw [ea] at this
    cases e : sim k f i i with
    | none => rw [e] at this; exact this.elim
    | some b => rw [e] at this; exact ⟨b, rfl, Int.le_trans ha this⟩
  · intro m u v hm hu hv
    by_cases e : m = k
    · subst e
      rw [sim_at' h0, sim_at h0]; exact hR u v
    · have hm' : m < k := by omega
      have base : ∀ x y : Option Int, ole x (omax (f u m) (oadd (f u k) (f k m))) → ole y (omax (f m v) (oadd (f m k) (f k v))) → True := fun _ _ _ _ => trivial
      -- four ways
      have w1 : ole (oadd (f u m) (f m v)) (sim k f u v) := ole_trans (h.clo m u v hm' hu hv) (hL u v)
      have w2 : ole (oadd (oadd (f u k) (f k m)) (f m v)) (sim k f u v) := by
        rw [oadd_assoc]; exact ole_trans (oadd_mono (ole_refl _) (h.clo m k v hm' hk hv)) (hR u v)
      have w3 : ole (oadd (f u m) (oadd (f m k) (f k v))) (sim k f u v) := by
        rw [← oadd_assoc]; exact ole_trans (oadd_mono (h.clo m u k hm' hu hk) (ole_refl _)) (hR u v)
      have w4 : ole (oadd (oadd (f u k) (f k m)) (oadd (f m k) (f k v))) (sim k f u v) := by
        rw [oadd_assoc, ← oadd_assoc (f k m)]
        have c := h.clo m k k hm' hk hk
        rw [h0] at c
        refine ole_trans (oadd_mono (ole_refl (f u k)) (oadd_mono c (ole_refl (f k v)))) (ole_trans ?_ (hR u v))
        refine oadd_mono (ole_refl _) ?_
        cases f k v with
        | none => trivial
        | some a => show 0 + a ≤ a; omega
      unfold sim at *
      generalize f u m = a at *
      generalize oadd (f u k) (f k m) = b at *
      generalize f m v = c at *
      generalize oadd (f m k) (f k v) = d at *
      generalize omax (f u v) (oadd (f u k) (f k v)) = z at *
      cases a <;> cases b <;> cases c <;> cases d <;> simp only [omax, oadd] at * <;> try assumption
      all_goals (cases z <;> simp only [ole] at * <;> (repeat' split) <;> omega)
/-- the program's way: stop at the first positive middle -/
def prog (n : Nat) : Nat → F → Option F
  | 0, f => some f
  | k + 1, f => (prog n k f).bind fun g => if 0 < (g k k).getD 0 then none else some (sim k g)
theorem prog_law {n : Nat} {f : F} (hd : ∀ i, i < n → ∃ a, f i i = some a ∧ 0 ≤ a) : ∀ k, k ≤ n →
    (∀ g, prog n k f = some g → Good n k g ∧ agr n (lk n k f) g) ∧
    (prog n k f = none → ∃ i, i < n ∧ 0 < (lk n k f i i).getD 0)
  | 0, _ => ⟨fun g e => by cases e; exact ⟨⟨hd, (fun i h => by omega), (fun m u v h => by omega)⟩, fun _ _ _ _ => rfl⟩, fun e => by cases e⟩
  | k + 1, hk => by
    obtain ⟨ih1, ih2⟩ := prog_law hd k (by omega)
    constructor
    · intro g e
      cases e0 : prog n k f with
      | none => rw [prog, e0] at e; cases e
      | some g0 =>
        rw [prog, e0] at e
        simp only [Option.bind_some] at e
        split at e
        · cases e
        · rename_i hp
          cases e
          obtain ⟨G, A⟩ := ih1 g0 e0
          obtain ⟨a, ea, ha⟩ := G.diag k (by omega)
          have h0 : g0 k k = some 0 := by rw [ea] at hp ⊢; simp at hp; congr 1; omega
          refine ⟨good_sim (by omega) G h0, ?_⟩
          have h0' : lk n k f k k = some 0 := by rw [A k k (by omega) (by omega)]; exact h0
          intro i j hi hj
          show li n k n (lk n k f) i j = _
          rw [li_eq (by omega) h0', if_pos ⟨hi, hj⟩]
          exact sim_agr (by omega) A i j hi hj
    · intro e
      cases e0 : prog n k f with
      | none =>
        obtain ⟨i, hi, h⟩ := ih2 e0
        refine ⟨i, hi, ?_⟩
        have := li_le n k n (lk n k f) i i
        show 0 < (li n k n (lk n k f) i i).getD 0
        cases e1 : lk n k f i i with
        | none => rw [e1] at h; simp at h
        | some a =>
          rw [e1] at this h
          cases e2 : li n k n (lk n k f) i i with
          | none => rw [e2] at this; exact this.elim
          | some b => rw [e2] at this; exact Int.lt_of_lt_of_le (show 0 < a from h) this
      | some g0 =>
        rw [prog, e0] at e
        simp only [Option.bind_some] at e
        split at e
        · rename_i hp
          obtain ⟨G, A⟩ := ih1 g0 e0
          refine ⟨k, by omega, ?_⟩
          rw [← A k k (by omega) (by omega)] at hp
          have := li_le n k n (lk n k f) k k
          show 0 < (li n k n (lk n k f) k k).getD 0
          cases e1 : lk n k f k k with
          | none => rw [e1] at hp; simp at hp
          | some a =>
            rw [e1] at this hp
            cases e2 : li n k n (lk n k f) k k with
            | none => rw [e2] at this; exact this.elim
            | some b => rw [e2] at this; exact Int.lt_of_lt_of_le (show 0 < a from hp) this
        · cases e
theorem prog_good {n : Nat} {f g : F} (hd : ∀ i, i < n → ∃ a, f i i = some a ∧ 0 ≤ a) (e : prog n n f = some g) : agr n (lk n n f) g ∧ ∀ i, i < n → lk n n f i i = some 0 := by
  obtain ⟨G, A⟩ := (prog_law hd n (Nat.le_refl _)).1 g e
  exact ⟨A, fun i hi => by rw [A i i hi hi]; exact G.low i hi⟩
theorem prog_stop {n k : Nat} {f : F} (h : prog n k f = none) : ∀ d, prog n (k + d) f = none
  | 0 => h
  | d + 1 => by show (prog n (k + d) f).bind _ = none; rw [prog_stop h d]; rfl
/-- an arc more -/
def arc (f : F) (i j : Nat) (w : Int) : F := upd f i j (omax (f i j) (some w))
def arcs : List (Nat × Nat × Int) → F → F
  | [], f => f
  | (i, j, w) :: r, f => arcs r (arc f i j w)
theorem arcs_max : ∀ (as : List (Nat × Nat × Int)) (f g : F) (h : F), (∀ i j, f i j = omax (g i j) (h i j)) → ∀ i j, arcs as f i j = omax (arcs as g i j) (h i j)
  | [], f, g, h, e => e
  | (i, j, w) :: r, f, g, h, e => arcs_max r _ _ h fun i' j' => by
    unfold arc upd
    split
    · rw [e, omax_assoc, omax_assoc, omax_comm (h i j)]
      rename_i hh; obtain ⟨rfl, rfl⟩ := hh; rfl
    · exact e i' j'
/-- closed under going on -/
def closed (n : Nat) (H : F) : Prop := ∀ m u v, m < n → u < n → v < n → ole (oadd (H u m) (H m v)) (H u v)
def below (n : Nat) (f g : F) : Prop := ∀ u v, u < n → v < n → ole (f u v) (g u v)
theorem below_trans {n : Nat} {f g h : F} (a : below n f g) (b : below n g h) : below n f h := fun u v hu hv => ole_trans (a u v hu hv) (b u v hu hv)
theorem lj_below {n k i : Nat} {f H : F} (hk : k < n) (hi : i < n) (c : closed n H) (h : below n f H) : ∀ j, j ≤ n → below n (lj k i j f) H
  | 0, _ => h
  | j + 1, hj => fun u v hu hv => by
    have ih := lj_below hk hi c h j (by omega)
    show ole (upd (lj k i j f) i j (omax (lj k i j f i j) (oadd (lj k i j f i k) (lj k i j f k j))) u v) (H u v)
    unfold upd
    split
    · rename_i e
      rw [e.1, e.2]
      exact omax_le (ih i j hi (by omega)) (ole_trans (oadd_mono (ih i k hi hk) (ih k j hk (by omega))) (c k i j hk hi (by omega)))
    · exact ih u v hu hv
theorem li_below {n k : Nat} {f H : F} (hk : k < n) (c : closed n H) (h : below n f H) : ∀ i, i ≤ n → below n (li n k i f) H
  | 0, _ => h
  | i + 1, hi => lj_below hk (by omega) c (li_below hk c h i (by omega)) n (Nat.le_refl _)
theorem lk_below {n : Nat} {f H : F} (c : closed n H) (h : below n f H) : ∀ k, k ≤ n → below n (lk n k f) H
  | 0, _ => h
  | k + 1, hk => li_below (by omega) c (lk_below c h k (by omega)) n (Nat.le_refl _)
/-- no round is positive -/
def calm (n : Nat) (G : F) : Prop := ∀ i, i < n → ¬ 0 < (G i i).getD 0
def dgood (n : Nat) (f : F) : Prop := ∀ i, i < n → ∃ a, f i i = some a ∧ 0 ≤ a
theorem calm_closed {n : Nat} {f : F} (hd : dgood n f) (hc : calm n (lk n n f)) : closed n (lk n n f) ∧ ∀ i, i < n → lk n n f i i = some 0 := by
  cases e : prog n n f with
  | none =>
    obtain ⟨i, hi, h⟩ := (prog_law hd n (Nat.le_refl _)).2 e
    exact (hc i hi h).elim
  | some g =>
    obtain ⟨G, A⟩ := (prog_law hd n (Nat.le_refl _)).1 g e
    refine ⟨fun m u v hm hu hv => ?_, fun i hi => by rw [A i i hi hi]; exact G.low i hi⟩
    rw [A u m hu hm, A m v hm hv, A u v hu hv]
    exact G.clo m u v hm hu hv
theorem below_lk (n : Nat) (f : F) : below n f (lk n n f) := fun u v _ _ => lk_le n n f u v
/-- a table with an arc more -/
def tight (i j : Nat) (w : Int) (G : F) : F := fun u v => omax (G u v) (oadd (oadd (G u i) (some w)) (G j v))
theorem arc_le (f : F) (i j : Nat) (w : Int) : fle f (arc f i j w) := fun u v => by
  unfold arc upd
  split
  · rename_i e; rw [e.1, e.2]; exact ole_maxL _ _
  · exact ole_refl _
theorem arc_at (f : F) (i j : Nat) (w : Int) : ole (some w) (arc f i j w i j) := by
  unfold arc; rw [upd_self]; exact ole_maxR _ _
theorem dgood_le {n : Nat} {f g : F} (h : dgood n f) (e : fle f g) : dgood n g := fun i hi => by
  obtain ⟨a, ea, ha⟩ := h i hi
  have := e i i
  rw [ea] at this
  cases e1 : g i i with
  | none => rw [e1] at this; exact this.elim
  | some b => rw [e1] at this; exact ⟨b, rfl, Int.le_trans ha this⟩
theorem pos_of {x : Option Int} (h : 0 < x.getD 0) : ole (some 1) x := by
  cases x with
  | none => simp at h
  | some a => exact h
theorem of_pos {x : Option Int} (h : ole (some 1) x) : 0 < x.getD 0 := by
  cases x with
  | none => exact h.elim
  | some a => exact h
theorem tight_pos {n i j : Nat} {w : Int} {f : F} (hi : i < n) (hj : j < n) (hd : dgood n f) (hp : 0 < (oadd (lk n n f j i) (some w)).getD 0) : ¬ calm n (lk n n (arc f i j w)) := by
  intro hc
  obtain ⟨cl, _⟩ := calm_closed (dgood_le hd (arc_le f i j w)) hc
  have hb : below n (lk n n f) (lk n n (arc f i j w)) := lk_below cl (below_trans (fun u v _ _ => arc_le f i j w u v) (below_lk n _)) n (Nat.le_refl _)
  refine hc j hj (of_pos ?_)
  refine ole_trans (pos_of hp) (ole_trans (oadd_mono (hb j i hj hi) ?_) (cl i j j hi hj hj))
  exact ole_trans (arc_at f i j w) (below_lk n _ i j hi hj)
theorem tight_ok {n i j : Nat} {w : Int} {f : F} (hi : i < n) (hj : j < n) (hd : dgood n f) (hc : calm n (lk n n f)) (hp : ¬ 0 < (oadd (lk n n f j i) (some w)).getD 0) :
    calm n (lk n n (arc f i j w)) ∧ agr n (lk n n (arc f i j w)) (tight i j w (lk n n f)) := by
  obtain ⟨cl, z⟩ := calm_closed hd hc
  have hfG := below_lk n f
  generalize hG : lk n n f = G at *
  have hb : ole (oadd (G j i) (some w)) (some 0) := by
    cases e : G j i with
    | none => trivial
    | some a => rw [e] at hp; show a + w ≤ 0; have : ¬ 0 < a + w := hp; omega
  have cT : closed n (tight i j w G) := by
    intro m u v hm hu hv
    have w1 : ole (oadd (G u m) (G m v)) (tight i j w G u v) := ole_trans (cl m u v hm hu hv) (ole_maxL _ _)
    have w2 : ole (oadd (oadd (oadd (G u i) (some w)) (G j m)) (G m v)) (tight i j w G u v) := by
      rw [oadd_assoc]; exact ole_trans (oadd_mono (ole_refl _) (cl m j v hm hj hv)) (ole_maxR _ _)
    have w3 : ole (oadd (G u m) (oadd (oadd (G m i) (some w)) (G j v))) (tight i j w G u v) := by
      rw [← oadd_assoc, ← oadd_assoc]; exact ole_trans (oadd_mono (oadd_mono (cl m u i hm hu hi) (ole_refl _)) (ole_refl _)) (ole_maxR _ _)
    have w4 : ole (oadd (oadd (oadd (G u i) (some w)) (G j m)) (oadd (oadd (G m i) (some w)) (G j v))) (tight i j w G u v) := by
      have e : oadd (oadd (oadd (G u i) (some w)) (G j m)) (oadd (oadd (G m i) (some w)) (G j v)) = oadd (oadd (G u i) (some w)) (oadd (oadd (oadd (G j m) (G m i)) (some w)) (G j v)) := by
        simp only [oadd_assoc]
      rw [e]
      refine ole_trans (oadd_mono (ole_refl _) ?_) (ole_maxR _ _)
      refine ole_trans (oadd_mono (ole_trans (oadd_mono (cl m j i hm hj hi) (ole_refl _)) hb) (ole_refl _)) ?_
      cases G j v with
      | none => trivial
      | some a => show 0 + a ≤ a; omega
    unfold tight at *
    generalize G u m = a at *
    generalize oadd (oadd (G u i) (some w)) (G j m) = b at *
    generalize G m v = c at *
    generalize oadd (oadd (G m i) (some w)) (G j v) = d at *
    generalize omax (G u v) (oadd (oadd (G u i) (some w)) (G j v)) = z at *
    cases a <;> cases b <;> cases c <;> cases d <;> simp only [omax, oadd] at * <;> try assumption
    all_goals (cases z <;> simp only [ole] at * <;> (repeat' split) <;> omega)
  have fT : below n (arc f i j w) (tight i j w G) := by
    intro u v hu hv
    unfold arc upd
    split
    · rename_i e
      rw [e.1, e.2]
      refine omax_le (ole_trans (hfG i j hi hj) (ole_maxL _ _)) (ole_trans ?_ (ole_maxR _ _))
      rw [z i hi, z j hj]
      show w ≤ 0 + w + 0
      omega
    · exact ole_trans (hfG u v hu hv) (ole_maxL _ _)
  have hle := lk_below cT fT n (Nat.le_refl _)
  have hcalm : calm n (lk n n (arc f i j w)) := by
    intro u hu hp1
    have h1 := ole_trans (pos_of hp1) (hle u u hu hu)
    unfold tight at h1
    rw [z u hu] at h1
    have h2 : ole (oadd (oadd (G u i) (some w)) (G j u)) (some 0) := by
      have c := cl u j i hu hj hi
      cases e1 : G u i with
      | none => trivial
      | some a =>
        cases e2 : G j u with
        | none => trivial
        | some b =>
          rw [e1, e2] at c
          have := ole_trans (oadd_mono c (ole_refl (some w))) hb
          have h3 : b + a + w ≤ 0 := this
          show a + w + b ≤ 0
          omega
    have := ole_trans h1 (omax_le (ole_refl (some 0)) h2)
    exact absurd (show (1 : Int) ≤ 0 from this) (by decide)
  refine ⟨hcalm, fun u v hu hv => ole_antisymm (hle u v hu hv) ?_⟩
  obtain ⟨cl', _⟩ := calm_closed (dgood_le hd (arc_le f i j w)) hcalm
  have hGf : below n G (lk n n (arc f i j w)) := by
    rw [← hG]; exact lk_below cl' (below_trans (fun u v _ _ => arc_le f i j w u v) (below_lk n _)) n (Nat.le_refl _)
  refine omax_le (hGf u v hu hv) ?_
  refine ole_trans (oadd_mono (oadd_mono (hGf u i hu hi) (ole_trans (arc_at f i j w) (below_lk n _ i j hi hj))) (hGf j v hj hv)) ?_
  exact ole_trans (oadd_mono (cl' i u j hi hu hj) (ole_refl _)) (cl' j u v hj hu hv)
/-- kept by times: no round is positive -/
theorem calm_of_times {n : Nat} {f : F} (p : Nat → Int) (h : ∀ u v, u < n → v < n → ole (f u v) (some (p v - p u))) : calm n (lk n n f) := by
  intro u hu hp
  have := ole_trans (pos_of hp) (lk_below (H := fun u v => some (p v - p u)) (fun m u v _ _ _ => by show (p m - p u) + (p v - p m) ≤ p v - p u; omega) h n (Nat.le_refl _) u u hu hu)
  have : (1 : Int) ≤ p u - p u := this
  omega
theorem arcs_below {n : Nat} {H : F} : ∀ (as : List (Nat × Nat × Int)) (f : F), below n f H → (∀ a ∈ as, ole (some a.2.2) (H a.1 a.2.1)) → below n (arcs as f) H
  | [], f, h, _ => h
  | (i, j, w) :: r, f, h, ha => arcs_below r _ (fun u v hu hv => by
    unfold arc upd
    split
    · rename_i e
      rw [e.1, e.2]
      by_cases hi : i < n ∧ j < n
      · exact omax_le (h i j hi.1 hi.2) (ha _ (List.mem_cons_self ..))
      · exact absurd ⟨e.1 ▸ hu, e.2 ▸ hv⟩ hi
    · exact h u v hu hv) fun a hm => ha a (List.mem_cons_of_mem _ hm)
theorem arcs_append : ∀ (f : F) (as bs : List (Nat × Nat × Int)), arcs (as ++ bs) f = arcs bs (arcs as f)
  | _, [], _ => rfl
  | f, (i, j, w) :: r, bs => arcs_append (arc f i j w) r bs
theorem arcs_le : ∀ (as : List (Nat × Nat × Int)) (f : F), fle f (arcs as f)
  | [], f => fle_refl f
  | (i, j, w) :: r, f => fle_trans (arc_le f i j w) (arcs_le r _)
end FNet

end
section
set_option Elab.async false
set_option linter.all false
set_option autoImplicit false
set_option maxRecDepth 100000
/-! FlxRows: tables as lists of lists. -/
namespace Flx
open PySem PySem.Spec PyProof.Rows FNet
def oD : Option Int → D
  | none => .non
  | some i => .int i
def rowD (n : Nat) (g : Nat → Option Int) : List D := (List.range n).map fun j => oD (g j)
theorem rowD_len (n : Nat) (g : Nat → Option Int) : (rowD n g).length = n := by unfold rowD; rw [List.length_map, List.length_range]
theorem rowD_get {n j : Nat} {g : Nat → Option Int} (h : j < n) : (rowD n g)[j]? = some (oD (g j)) := by
  unfold rowD; rw [List.getElem?_map, List.getElem?_range h]; rfl
theorem rowD_at {n : Nat} {j : Int} {g : Nat → Option Int} (h0 : 0 ≤ j) (h : j < n) : L2.atI (rowD n g) j = some (oD (g j.toNat)) := atI_int h0 (rowD_get (by omega))
theorem rowD_py {n : Nat} {j : Int} {g : Nat → Option Int} (h0 : -(n : Int) ≤ j) (h : j < n) : L2.atI (rowD n g) j = some (oD (g (pyI n j))) := by
  unfold L2.atI
  rw [rowD_len, ixN_py h0 h]
  exact rowD_get (pyI_lt h0 h)
theorem rowD_set {n j : Nat} {g : Nat → Option Int} {v : Option Int} (h : j < n) : (rowD n g).set j (oD v) = rowD n (fun j' => if j' = j then v else g j') := by
  apply List.ext_getElem?
  intro i
  by_cases hi : i < n
  · rw [rowD_get hi]
    by_cases e : i = j
    · subst e
      rw [List.getElem?_set_self (by rw [rowD_len]; exact hi), if_pos rfl]
    · rw [List.getElem?_set_ne (Ne.symm e), rowD_get hi, if_neg e]
  · rw [List.getElem?_eq_none (by rw [List.length_set, rowD_len]; omega), List.getElem?_eq_none (by rw [rowD_len]; omega)]
theorem rowD_congr {n : Nat} {g g' : Nat → Option Int} (h : ∀ j, j < n → g j = g' j) : rowD n g = rowD n g' := by
  unfold rowD
  apply List.map_congr_left
  intro j hj
  rw [List.mem_range] at hj
  rw [h j hj]
theorem rowD_none (n : Nat) : (List.replicate n [D.non]).flatten = rowD n (fun _ => none) := by
  unfold rowD
  apply List.ext_getElem?
  intro i
  have e : (List.replicate n [D.non]).flatten = List.replicate n D.non := by
    induction n with
    | zero => rfl
    | succ n ih => rw [List.replicate_succ, List.flatten_cons, ih]; rfl
  rw [e, List.getElem?_map, List.getElem?_replicate]
  by_cases h : i < n
  · rw [List.getElem?_range h, if_pos h]; rfl
  · rw [if_neg h, List.getElem?_eq_none (by rw [List.length_range]; omega)]; rfl
def refsD (b n : Nat) : List D := (List.range n).map fun i => D.ref (b + 2 * i)
theorem refsD_len (b n : Nat) : (refsD b n).length = n := by unfold refsD; rw [List.length_map, List.length_range]
theorem refsD_at {b n : Nat} {j : Int} (h0 : -(n : Int) ≤ j) (h : j < n) : L2.atI (refsD b n) j = some (.ref (b + 2 * pyI n j)) := by
  unfold L2.atI
  rw [refsD_len, ixN_py h0 h]
  show (refsD b n)[pyI n j]? = _
  unfold refsD
  rw [List.getElem?_map, List.getElem?_range (pyI_lt h0 h)]; rfl
theorem pyI_nat {n : Nat} {j : Int} (h : 0 ≤ j) : pyI n j = j.toNat := by unfold pyI; rw [if_pos h]
/-- a table: rows at b, b+2, ..; their list at r -/
structure Rws (S : St) (r b n : Nat) (f : F) : Prop where
  top : S[r]? = some (.lst (refsD b n))
  row : ∀ i, i < n → S[b + 2 * i]? = some (.lst (rowD n (f i)))
  sep : ∀ i, i < n → r ≠ b + 2 * i
theorem Rws.ext {S S' : St} {r b n : Nat} {f : F} (h : Rws S r b n f) (e : Ext S S') : Rws S' r b n f := ⟨e.get h.top, fun i hi => e.get (h.row i hi), h.sep⟩
theorem Rws.fr {S S' : St} {r b n : Nat} {f : F} (h : Rws S r b n f) (hr : 3 ≤ r) (hb : 3 ≤ b) (e : Fr S S') : Rws S' r b n f := ⟨e.get (by omega) h.top, fun i hi => e.get (by omega) (h.row i hi), h.sep⟩
theorem Rws.upd {S : St} {r b n : Nat} {f : F} (h : Rws S r b n f) {i j : Nat} {v : Option Int} (hi : i < n) (hj : j < n) : Rws (S.set (b + 2 * i) (.lst ((rowD n (f i)).set j (oD v)))) r b n (FNet.upd f i j v) := by
  refine ⟨get_set (h.sep i hi) h.top, fun i' hi' => ?_, h.sep⟩
  by_cases e : i' = i
  · subst e
    rw [get_set_self (h.row i' hi'), rowD_set hj]
    congr 2
    apply rowD_congr
    intro j' _
    unfold FNet.upd
    by_cases e : j' = j
    · rw [if_pos e, if_pos ⟨rfl, e⟩]
    · rw [if_neg e, if_neg (fun h => e h.2)]
  · rw [get_set (by omega) (h.row i' hi')]
    congr 2
    apply rowD_congr
    intro j' _
    unfold FNet.upd
    rw [if_neg (fun h => e h.1)]
theorem Rws.same {S : St} {r b n : Nat} {f g : F} (h : Rws S r b n f) (e : ∀ i j, i < n → j < n → f i j = g i j) : Rws S r b n g :=
  ⟨h.top, fun i hi => by rw [h.row i hi, rowD_congr (e i · hi)], h.sep⟩
def arcD (a : Int × Int × Int) : D := .tup [.int a.1, .int a.2.1, .int a.2.2]
def okA (m : Int) (a : Int × Int × Int) : Prop := (-1 ≤ a.1 ∧ a.1 < m) ∧ -1 ≤ a.2.1 ∧ a.2.1 < m
theorem arcs_of {m : Int} : ∀ {xs : List D}, (∀ d ∈ xs, arcOk m d) → ∃ as : List (Int × Int × Int), xs = as.map arcD ∧ ∀ a ∈ as, okA m a
  | [], _ => ⟨[], rfl, fun _ h => by cases h⟩
  | x :: xs, h => by
    obtain ⟨as, e, ha⟩ := arcs_of (xs := xs) fun d hd => h d (List.mem_cons_of_mem _ hd)
    obtain ⟨i, j, w, e1, h1, h2, h3, h4⟩ := h x (List.mem_cons_self ..)
    refine ⟨(i, j, w) :: as, by rw [e1, e]; rfl, fun a hm => ?_⟩
    rcases List.mem_cons.1 hm with rfl | hm
    · exact ⟨⟨h1, h2⟩, h3, h4⟩
    · exact ha a hm
def natA (n : Nat) (a : Int × Int × Int) : Nat × Nat × Int := (pyI n a.1, pyI n a.2.1, a.2.2)
theorem get_of_map {α β : Type} {f : α → β} {xs : List α} {i : Nat} {y : β} (h : (xs.map f)[i]? = some y) : ∃ x, xs[i]? = some x ∧ y = f x := by
  rw [List.getElem?_map] at h
  cases e : xs[i]? with
  | none => rw [e] at h; cases h
  | some x => rw [e] at h; exact ⟨x, rfl, (Option.some.inj h).symm⟩
theorem arcs_take (f : F) : ∀ (as : List (Nat × Nat × Int)) (i : Nat) (a : Nat × Nat × Int), as[i]? = some a → arcs (as.take (i + 1)) f = arc (arcs (as.take i) f) a.1 a.2.1 a.2.2
  | [], i, a, h => by cases h
  | x :: xs, 0, a, h => by cases h; rfl
  | x :: xs, i + 1, a, h => by
    obtain ⟨p, q, w⟩ := x
    exact arcs_take (arc f p q w) xs i a h
theorem oD_some {x : Option Int} {a : Int} (h : x = some a) : oD x = .int a := by rw [h]; rfl
/-- at first: 0 at the diagonal and in the last row -/
def ini (m : Nat) : Nat → F
  | 0 => fun _ _ => none
  | i + 1 => FNet.upd (FNet.upd (ini m i) i i (some 0)) m i (some 0)
theorem ini_at (m : Nat) : ∀ (i u v : Nat), ini m i u v = if v < i ∧ (u = v ∨ u = m) then some 0 else none
  | 0, u, v => by rw [if_neg (by omega)]; rfl
  | i + 1, u, v => by
    show FNet.upd (FNet.upd (ini m i) i i (some 0)) m i (some 0) u v = _
    unfold FNet.upd
    by_cases h : u = m ∧ v = i
    · rw [if_pos h, if_pos (by omega)]
    · rw [if_neg h]
      by_cases h2 : u = i ∧ v = i
      · rw [if_pos h2, if_pos (by omega)]
      · rw [if_neg h2, ini_at m i]
        by_cases h3 : v < i ∧ (u = v ∨ u = m)
        · rw [if_pos h3, if_pos (by omega)]
        · rw [if_neg h3, if_neg (by omega)]
/-- a row, a list or a tuple -/
def RowIs (S : St) (d : D) (n : Nat) (g : Nat → Option Int) : Prop := itemsOf S d = some (rowD n g)
theorem RowIs.ext {S S' : St} {d : D} {n : Nat} {g : Nat → Option Int} (h : RowIs S d n g) (e : Ext S S') : RowIs S' d n g := itemsOf_ext e h
theorem ix_row {S : St} {d : D} {n : Nat} {g : Nat → Option Int} {j : Int} {Q : QD} (h : RowIs S d n g) (h0 : 0 ≤ j) (h1 : j < n) (q : Q (oD (g j.toNat)) S) : ixW d (.int j) S Q := by
  cases d <;> first
    | (cases h; done)
    | (cases h; exact ⟨_, rowD_at h0 h1, q⟩)
    | exact ⟨_, _, h, rowD_at h0 h1, q⟩
theorem ix_rowp {S : St} {d : D} {n : Nat} {g : Nat → Option Int} {j : Int} {Q : QD} (h : RowIs S d n g) (h0 : -(n : Int) ≤ j) (h1 : j < n) (q : Q (oD (g (pyI n j))) S) : ixW d (.int j) S Q := by
  cases d <;> first
    | (cases h; done)
    | (cases h; exact ⟨_, rowD_py h0 h1, q⟩)
    | exact ⟨_, _, h, rowD_py h0 h1, q⟩
theorem list_row {S : St} {d : D} {n : Nat} {g : Nat → Option Int} {Q : QD} (h : RowIs S d n g) (q : Q (.ref S.length) (S ++ [.lst (rowD n g)])) : bltW .list [d] S Q := by
  cases d <;> first
    | (cases h; done)
    | (cases h; exact q)
    | exact ⟨_, h, q⟩
theorem tup_row {S : St} {d : D} {n : Nat} {g : Nat → Option Int} {Q : QD} (h : RowIs S d n g) (q : Q (.tup (rowD n g)) S) : bltW .tuple [d] S Q := by
  cases d <;> first
    | (cases h; done)
    | (cases h; exact q)
    | exact ⟨_, h, q⟩
def tabD (n : Nat) (f : F) : D := .tup ((List.range n).map fun i => .tup (rowD n (f i)))
theorem tabD_congr {n : Nat} {f g : F} (h : agr n f g) : tabD n f = tabD n g := by
  unfold tabD
  congr 1
  apply List.map_congr_left
  intro i hi
  rw [List.mem_range] at hi
  rw [rowD_congr fun j hj => h i j hi hj]
theorem oD_pl (k : Nat) (x : Option Int) : plD k (oD x) := by cases x <;> cases k <;> exact trivial
theorem tabD_pl {n k : Nat} (hn : n < 2 ^ 30) (f : F) : plD (k + 2) (tabD n f) := by
  refine ⟨by rw [List.length_map, List.length_range]; exact hn, fun d hd => ?_⟩
  obtain ⟨i, _, rfl⟩ := List.mem_map.1 hd
  refine ⟨by rw [rowD_len]; exact hn, fun d hd => ?_⟩
  obtain ⟨j, _, rfl⟩ := List.mem_map.1 hd
  exact oD_pl _ _
/-- the program's own start -/
def iniP (m i : Nat) : F := fun u v => if u = m ∧ v < i then some 0 else none
def dgP (i : Nat) (f : F) : F := fun u v => if u = v ∧ u < i then omax (f u v) (some 0) else f u v
theorem iniP_succ (m i u v : Nat) : iniP m (i + 1) u v = FNet.upd (iniP m i) m i (some 0) u v := by
  show (if u = m ∧ v < i + 1 then some 0 else none) = if u = m ∧ v = i then some 0 else if u = m ∧ v < i then some 0 else none
  by_cases h : u = m ∧ v = i
  · rw [if_pos h, if_pos (by omega)]
  · rw [if_neg h]
    by_cases h2 : u = m ∧ v < i
    · rw [if_pos h2, if_pos (by omega)]
    · rw [if_neg h2, if_neg (by omega)]
theorem dgP_succ (i : Nat) (f : F) (u v : Nat) : dgP (i + 1) f u v = FNet.upd (dgP i f) i i (omax (dgP i f i i) (some 0)) u v := by
  show (if u = v ∧ u < i + 1 then omax (f u v) (some 0) else f u v) = if u = i ∧ v = i then omax (if i = i ∧ i < i then omax (f i i) (some 0) else f i i) (some 0) else if u = v ∧ u < i then omax (f u v) (some 0) else f u v
  by_cases h : u = i ∧ v = i
  · rw [if_pos h, if_neg (show ¬ (i = i ∧ i < i) by omega), if_pos (by omega), h.1, h.2]
  · rw [if_neg h]
    by_cases h2 : u = v ∧ u < i
    · rw [if_pos h2, if_pos (by omega)]
    · rw [if_neg h2, if_neg (by omega)]
/-- both starts, with the arcs, are alike -/
theorem starts_agr (m : Nat) (as : List (Nat × Nat × Int)) : agr (m + 1) (arcs as (ini m (m + 1))) (dgP (m + 1) (arcs as (iniP m m))) := by
  intro u v hu hv
  have e1 := arcs_max as (ini m (m + 1)) (fun _ _ => none) (ini m (m + 1)) (fun i j => by cases ini m (m + 1) i j <;> rfl) u v
  have e2 := arcs_max as (iniP m m) (fun _ _ => none) (iniP m m) (fun i j => by cases iniP m m i j <;> rfl) u v
  have e3 : dgP (m + 1) (arcs as (iniP m m)) u v = if u = v then omax (arcs as (iniP m m) u v) (some 0) else arcs as (iniP m m) u v := by
    show (if u = v ∧ u < m + 1 then _ else _) = _
    by_cases h : u = v
    · rw [if_pos ⟨h, hu⟩, if_pos h]
    · rw [if_neg (fun g => h g.1), if_neg h]
  have e4 : iniP m m u v = if u = m ∧ v < m then some 0 else none := rfl
  rw [e1, e3, e2, e4, ini_at]
  generalize arcs as (fun _ _ => none) u v = A
  by_cases h1 : u = v
  · subst h1
    rw [if_pos rfl, if_pos ⟨hv, Or.inl rfl⟩, if_neg (show ¬ (u = m ∧ u < m) by omega)]
    rw [show omax A none = A by cases A <;> rfl]
  · rw [if_neg h1]
    by_cases h2 : u = m
    · rw [if_pos ⟨hv, Or.inr h2⟩, if_pos ⟨h2, by omega⟩]
    · rw [if_neg (show ¬ (v < m + 1 ∧ (u = v ∨ u = m)) by omega), if_neg (show ¬ (u = m ∧ v < m) by omega)]
/-- a table whose rows lie anywhere -/
structure Tab (S : St) (r n : Nat) (f : F) : Prop where
  get : ∃ ds, S[r]? = some (.lst ds) ∧ ds.length = n ∧ ∀ i (h : i < ds.length), RowIs S ds[i] n (f i)
theorem Tab.ext {S S' : St} {r n : Nat} {f : F} (h : Tab S r n f) (e : Ext S S') : Tab S' r n f := by
  obtain ⟨ds, h1, h2, h3⟩ := h.get
  exact ⟨ds, e.get h1, h2, fun i hi => (h3 i hi).ext e⟩
theorem Rws.tab {S : St} {r b n : Nat} {f : F} (h : Rws S r b n f) : Tab S r n f := ⟨refsD b n, h.top, refsD_len b n, fun i hi => by
  rw [refsD_len] at hi
  have : (refsD b n)[i]'(by rw [refsD_len]; exact hi) = .ref (b + 2 * i) := by unfold refsD; rw [List.getElem_map, List.getElem_range]
  unfold RowIs
  rw [this]
  exact seqOf_lst (h.row i hi)⟩
theorem tabD_at {n : Nat} {f : F} {j : Int} {S : St} {Q : QD} (h0 : -(n : Int) ≤ j) (h1 : j < n) (q : Q (.tup (rowD n (f (pyI n j)))) S) : ixW (tabD n f) (.int j) S Q := by
  refine ix_tup (d := .tup (rowD n (f (pyI n j)))) ?_ q
  unfold L2.atI
  rw [List.length_map, List.length_range, ixN_py h0 h1]
  show ((List.range n).map _)[pyI n j]? = _
  rw [List.getElem?_map, List.getElem?_range (pyI_lt h0 h1)]; rfl
theorem tight_step (n : Nat) (G : F) (i j : Nat) (w : Int) (u : Nat) : rowD n (fun v => omax (G u v) (oadd (oadd (G u i) (some w)) (G j v))) = rowD n (tight i j w G u) := rfl
end Flx

end
section
set_option Elab.async false
set_option linter.all false
set_option autoImplicit false
set_option maxRecDepth 100000
/-! FlxGen: plain lemmas for the laws. -/
namespace Flx
open PySem PySem.Spec PyProof.Rows FNet
theorem fmod_rng (x m : Int) (hm : 0 < m) : 0 ≤ x.fmod m ∧ x.fmod m < m := ⟨Int.fmod_nonneg_of_pos x hm, Int.fmod_lt_of_pos x hm⟩
theorem eqB_self {S : St} {d : D} {p : PyData} (h : toPS S d = some p) (hs : SeqAt.shaped p = true) (he : PyData.eqv p p = true) : eqB S d d = some true := by
  unfold eqB; rw [h]
  show (if SeqAt.shaped p = true ∧ SeqAt.shaped p = true then some (PyData.eqv p p) else none) = _
  rw [if_pos ⟨hs, hs⟩, he]
theorem int_mem {is : List Int} {d : D} (h : d ∈ is.map D.int) : ∃ i, i ∈ is ∧ d = .int i := by
  obtain ⟨i, h1, h2⟩ := List.mem_map.1 h
  exact ⟨i, h1, h2.symm⟩
/-- times from 0 to 98 -/
def smallT (ts : List Int) : Prop := ∀ x ∈ ts, 0 ≤ x ∧ x ≤ 98
/-- the times keep the arc -/
def keepsD (ts : List Int) (d : D) : Prop := ∃ i j w x y : Int, d = .tup [.int i, .int j, .int w] ∧ L2.atI ts i = some x ∧ L2.atI ts j = some y ∧ w ≤ y - x
/-- what a drawn network is -/
structure Net (m : Int) (t a : Nat) (c : Nat) (S : St) : Prop where
  m0 : 0 ≤ m
  m8 : m ≤ 8
  all : ∃ (ts : List Int) (xs : List D), S[t]? = some (.lst (ts.map D.int)) ∧ (ts.length : Int) = m + 1 ∧ smallT ts ∧ L2.atI ts (-1) = some 0 ∧ S[a]? = some (.lst xs) ∧ xs.length ≤ c ∧ (∀ d ∈ xs, arcOk m d) ∧ ∀ d ∈ xs, keepsD ts d
  t3 : 3 ≤ t
  a3 : 3 ≤ a
theorem atI_mem {α : Type} {xs : List α} {i : Int} {x : α} (h : L2.atI xs i = some x) : x ∈ xs := by
  unfold L2.atI at h
  cases e : L2.ixN xs.length i with
  | none => rw [e] at h; cases h
  | some j => rw [e] at h; exact List.mem_of_getElem? h
theorem atI_last (is : List Int) (x : Int) : L2.atI (is ++ [x]) (-1) = some x := by
  have e : L2.ixN (is ++ [x]).length (-1) = some is.length := by
    rw [ixN_neg (by decide) (by rw [List.length_append, List.length_singleton]; omega)]
    rw [List.length_append, List.length_singleton]
    congr 1
    omega
  unfold L2.atI
  rw [e]
  show (is ++ [x])[is.length]? = some x
  simp
theorem atI_unmap {is : List Int} {i j : Int} (h : L2.atI (is.map D.int) i = some (.int j)) : L2.atI is i = some j := by
  unfold L2.atI at h ⊢
  rw [List.length_map] at h
  cases e : L2.ixN is.length i with
  | none => rw [e] at h; cases h
  | some k =>
    rw [e] at h
    have h' : (is.map D.int)[k]? = some (.int j) := h
    rw [List.getElem?_map] at h'
    show is[k]? = some j
    cases e2 : is[k]? with
    | none => rw [e2] at h'; cases h'
    | some y => rw [e2] at h'; cases h'; rfl
theorem oD_le {x : Option Int} {w : Int} : (∃ a, x = some a ∧ w ≤ a) ∨ (omax x (some w) = some w) := by
  cases x with
  | none => exact Or.inr rfl
  | some a =>
    by_cases h : a < w
    · exact Or.inr (by show some _ = _; rw [if_pos h])
    · exact Or.inl ⟨a, rfl, by omega⟩
theorem upd_same (f : F) (i j : Nat) (v : Option Int) (h : f i j = v) (i' j' : Nat) : f i' j' = FNet.upd f i j v i' j' := by
  unfold FNet.upd
  split
  · rename_i e; rw [e.1, e.2]; exact h
  · rfl
/-- the law's own table, behind the arcs -/
def netF (m : Nat) (as : List (Int × Int × Int)) : F := arcs (as.map (natA (m + 1))) (ini m (m + 1))
theorem cut_row {m : Nat} {g : Nat → Option Int} : cutD (rowD (m + 1) g) none (some (-1)) = rowD m g := by
  unfold cutD
  rw [rowD_len]
  show ((rowD (m + 1) g).drop 0).take (((-1 + ((m + 1 : Nat) : Int)).toNat) - 0) = _
  rw [List.drop_zero, show (-1 + ((m + 1 : Nat) : Int)).toNat - 0 = m by omega]
  unfold rowD
  rw [List.range_succ, List.map_append, List.take_left' (by rw [List.length_map, List.length_range])]
theorem cut_ints {m : Nat} {ts : List Int} (h : (ts.length : Int) = m + 1) : ∃ us : List Int, us.length = m ∧ cutD (ts.map D.int) none (some (-1)) = us.map D.int := by
  refine ⟨ts.take m, by rw [List.length_take]; omega, ?_⟩
  unfold cutD
  rw [List.length_map]
  show ((ts.map D.int).drop 0).take (((-1 + ((ts.length : Nat) : Int)).toNat) - 0) = _
  rw [List.drop_zero, show (-1 + ((ts.length : Nat) : Int)).toNat - 0 = m by omega, List.map_take]
/-- the tuples that keep -/
def Kept (gs : List Int) (as : List (Int × Int × Int)) : Prop := (∀ g ∈ gs, 0 ≤ g) ∧ ∀ a ∈ as, ∀ x y, L2.atI (gs ++ [0]) a.1 = some x → L2.atI (gs ++ [0]) a.2.1 = some y → x + a.2.2 ≤ y
theorem min_neg : ∀ (gs : List Int) (x : Int), (gs.foldl min x < 0) ↔ (x < 0 ∨ ∃ g ∈ gs, g < 0)
  | [], x => by simp
  | g :: gs, x => by
    rw [List.foldl_cons, min_neg gs]
    constructor
    · rintro (h | ⟨y, hy, h⟩)
      · rcases Int.lt_or_le x 0 with h' | h'
        · exact Or.inl h'
        · exact Or.inr ⟨g, List.mem_cons_self .., by omega⟩
      · exact Or.inr ⟨y, List.mem_cons_of_mem _ hy, h⟩
    · rintro (h | ⟨y, hy, h⟩)
      · exact Or.inl (by omega)
      · rcases List.mem_cons.1 hy with rfl | hy
        · exact Or.inl (by omega)
        · exact Or.inr ⟨y, hy, h⟩
theorem intsOf_map : ∀ is : List Int, intsOf (is.map D.int) = some is
  | [] => rfl
  | i :: is => by show (intsOf (is.map D.int)).map _ = _; rw [intsOf_map is]; rfl
theorem atI_len {α : Type} {xs : List α} {i : Int} (h0 : -(xs.length : Int) ≤ i) (h1 : i < xs.length) : ∃ x, L2.atI xs i = some x := ⟨_, atI_py h0 h1⟩
/-- the law's own rows, or None -/
def RowsV (S : St) (m : Nat) (F : F) (v : D) : Prop :=
  (v = .non ∧ ∃ i, i < m + 1 ∧ 0 < (F i i).getD 0) ∨ (∃ r b, v = .ref r ∧ 3 ≤ r ∧ 3 ≤ b ∧ Rws S r b (m + 1) F ∧ ∀ i, i < m + 1 → ¬ 0 < (F i i).getD 0)
theorem RowsV.fr {S S' : St} {m : Nat} {F : F} {v : D} (h : RowsV S m F v) (e : Fr S S') : RowsV S' m F v := by
  rcases h with h | ⟨r, b, h1, h2, h3, h4, h5⟩
  · exact Or.inl h
  · exact Or.inr ⟨r, b, h1, h2, h3, h4.fr h2 h3 e, h5⟩
theorem row_ints {n : Nat} {g : Nat → Option Int} (h : ∀ j, j < n → ∃ x, g j = some x) : ∃ us : List Int, us.length = n ∧ rowD n g = us.map D.int := by
  refine ⟨(List.range n).map fun j => (g j).getD 0, by rw [List.length_map, List.length_range], ?_⟩
  unfold rowD
  rw [List.map_map]
  apply List.map_congr_left
  intro j hj
  rw [List.mem_range] at hj
  obtain ⟨x, e⟩ := h j hj
  show oD (g j) = D.int ((g j).getD 0)
  rw [e]; rfl
theorem netF_last {m : Nat} (as : List (Int × Int × Int)) {j : Nat} (hj : j < m) : ∃ x, lk (m + 1) (m + 1) (netF m as) m j = some x := by
  have h1 : ole (some 0) (netF m as m j) := by
    have := arcs_max (as.map (natA (m + 1))) (ini m (m + 1)) (fun _ _ => none) (ini m (m + 1)) (fun i j => by cases ini m (m + 1) i j <;> rfl) m j
    unfold netF
    rw [this, ini_at, if_pos ⟨by omega, Or.inr rfl⟩]
    exact ole_maxR _ _
  have h2 := ole_trans h1 (lk_le (m + 1) (m + 1) (netF m as) m j)
  cases e1 : lk (m + 1) (m + 1) (netF m as) m j with
  | none => rw [e1] at h2; exact h2.elim
  | some u => exact ⟨u, rfl⟩
theorem bool_iff {b b' : Bool} {P : Prop} (h : b = true ↔ P) (h' : b' = true ↔ P) : b = b' := by
  cases b <;> cases b' <;> simp_all
theorem netF_dgood (m : Nat) (as : List (Int × Int × Int)) : dgood (m + 1) (netF m as) := by
  refine dgood_le (f := ini m (m + 1)) (fun i hi => ⟨0, by rw [ini_at, if_pos ⟨hi, Or.inl rfl⟩], by decide⟩) ?_
  exact arcs_le _ _
theorem netF_snoc (m : Nat) (as : List (Int × Int × Int)) (a : Int × Int × Int) : netF m (as ++ [a]) = arc (netF m as) (pyI (m + 1) a.1) (pyI (m + 1) a.2.1) a.2.2 := by
  unfold netF
  rw [List.map_append, arcs_append]; rfl
theorem atI_pyI {α : Type} {xs : List α} {i : Int} {x : α} (h : L2.atI xs i = some x) : xs[pyI xs.length i]? = some x := by
  unfold L2.atI at h
  unfold pyI
  cases e : L2.ixN xs.length i with
  | none => rw [e] at h; cases h
  | some j =>
    rw [e] at h
    have h' : xs[j]? = some x := h
    unfold L2.ixN at e
    split at e
    · rename_i h0
      rw [if_pos h0]
      split at e
      · cases e; exact h'
      · cases e
    · rename_i h0
      rw [if_neg h0]
      split at e
      · cases e; exact h'
      · cases e
theorem calm_net {m : Nat} {ts : List Int} {as : List (Int × Int × Int)} (hl : ts.length = m + 1) (hs : smallT ts) (hz : L2.atI ts (-1) = some 0) (ak : ∀ d ∈ as.map arcD, keepsD ts d) : calm (m + 1) (lk (m + 1) (m + 1) (netF m as)) := by
  refine calm_of_times (fun v => (ts[v]?).getD 0) ?_
  refine arcs_below _ _ (fun u v hu hv => ?_) fun a ha => ?_
  · rw [ini_at]
    split
    · rename_i h
      rcases h.2 with rfl | rfl
      · show (0 : Int) ≤ _ - _; omega
      · have e : ts[u]? = some 0 := by
          have := atI_pyI hz
          rw [hl] at this
          rwa [show pyI (u + 1) (-1) = u by unfold pyI; rw [if_neg (by omega)]; omega] at this
        show (0 : Int) ≤ (ts[v]?).getD 0 - (ts[u]?).getD 0
        rw [e, List.getElem?_eq_getElem (show v < ts.length by omega)]
        have := (hs _ (List.getElem_mem (show v < ts.length by omega))).1
        show (0 : Int) ≤ ts[v] - 0
        omega
    · trivial
  · obtain ⟨⟨p, q, w⟩, hm, rfl⟩ := List.mem_map.1 ha
    obtain ⟨i, j, w', x, y, e, hx, hy, hw⟩ := ak _ (List.mem_map_of_mem hm)
    unfold arcD at e
    injection e with e
    injection e with e1 e
    injection e with e2 e
    injection e with e3 e
    injection e1 with e1
    injection e2 with e2
    injection e3 with e3
    dsimp only at e1 e2 e3
    subst e1; subst e2; subst e3
    have h1 := atI_pyI hx
    have h2 := atI_pyI hy
    rw [hl] at h1 h2
    show w ≤ (ts[pyI (m + 1) q]?).getD 0 - (ts[pyI (m + 1) p]?).getD 0
    rw [h1, h2]
    exact hw
end Flx

end
section
set_option Elab.async false
set_option linter.all false
set_option autoImplicit false
set_option maxRecDepth 100000
/-! FlxMore: further loop rules. -/
namespace Flx
open PySem PySem.Spec PyProof.Rows
theorem take_next {α : Type} {xs : List α} {i : Nat} {x : α} (h : xs[i]? = some x) : xs.take (i + 1) = xs.take i ++ [x] := by
  rw [List.take_add_one, h]; rfl
/-- [x for x in xs if p x] -/
theorem lc_filter {C : Nat → List D → St → QD → Prop} (mC : MonoC C) {G : St → Prop} {tg : Tg} {elt : Ex} {ifs : Exs} {xs : List D} {σ : Sg} {S : St} {Q : List D → St → Prop} (p : D → Bool)
    (hG : G S) (each : ∀ x ∈ xs, ∃ σ', gA tg x σ = some σ' ∧ wC C ifs σ' S (fun b S1 => b = p x ∧ S1 = S) ∧ wE C elt σ' S (fun y S1 => y = x ∧ S1 = S))
    (q : Q (xs.filter p) S) : LcL C G elt tg ifs σ xs S Q := by
  refine lc_inv mC (fun i acc S' => S' = S ∧ acc = (xs.take i).filter p) ⟨rfl, rfl⟩ (fun i acc S' h => by rw [h.1]; exact hG) ?_ ?_
  · rintro i x acc S' hx ⟨rfl, rfl⟩
    obtain ⟨σ', h1, h2, h3⟩ := each x (List.mem_of_getElem? hx)
    refine ⟨σ', h1, wC_mono mC ifs _ _ _ _ (fun b S1 h => ?_) h2⟩
    obtain ⟨rfl, rfl⟩ := h
    rw [take_next hx, List.filter_append]
    cases hp : p x with
    | true =>
      rw [if_pos rfl]
      refine wE_mono mC elt _ _ _ _ (fun y S2 h => ?_) h3
      obtain ⟨rfl, rfl⟩ := h
      refine ⟨rfl, ?_⟩
      congr 1
      simp [hp]
    | false =>
      rw [if_neg (by decide)]
      refine ⟨rfl, ?_⟩
      simp [hp]
  · rintro acc S' ⟨rfl, rfl⟩
    rw [List.take_of_length_le (Nat.le_refl _)]
    exact q
/-- [f x for x in xs], nothing else moves -/
theorem lc_map {C : Nat → List D → St → QD → Prop} (mC : MonoC C) {G : St → Prop} {tg : Tg} {elt : Ex} {xs : List D} {σ : Sg} {S : St} {Q : List D → St → Prop} (f : D → D)
    (hG : G S) (each : ∀ x ∈ xs, ∃ σ', gA tg x σ = some σ' ∧ wE C elt σ' S (fun y S1 => y = f x ∧ S1 = S))
    (q : Q (xs.map f) S) : LcL C G elt tg .nil σ xs S Q := by
  refine lc_all mC (fun i acc S' => S' = S ∧ acc = (xs.take i).map f) ⟨rfl, rfl⟩ (fun i acc S' h => by rw [h.1]; exact hG) ?_ ?_
  · rintro i x acc S' hx ⟨rfl, rfl⟩
    obtain ⟨σ', h1, h3⟩ := each x (List.mem_of_getElem? hx)
    refine ⟨σ', h1, wE_mono mC elt _ _ _ _ (fun y S2 h => ?_) h3⟩
    obtain ⟨rfl, rfl⟩ := h
    refine ⟨rfl, ?_⟩
    rw [take_next hx, List.map_append]; rfl
  · rintro acc S' ⟨rfl, rfl⟩
    rw [List.take_of_length_le (Nat.le_refl _)]
    exact q
/-- [h a for a in as if p a], the store may grow -/
theorem lc_filtE {C : Nat → List D → St → QD → Prop} (mC : MonoC C) {G : St → Prop} {tg : Tg} {elt : Ex} {ifs : Exs} {α : Type} {as : List α} {σ : Sg} {S : St} {Q : List D → St → Prop} (g h : α → D) (p : α → Bool)
    (hG : ∀ S', Ext S S' → G S') (each : ∀ a ∈ as, ∀ S1, Ext S S1 → ∃ σ', gA tg (g a) σ = some σ' ∧ wC C ifs σ' S1 (fun b S2 => b = p a ∧ Ext S1 S2) ∧ (p a = true → ∀ S2, Ext S S2 → wE C elt σ' S2 (fun y S3 => y = h a ∧ Ext S2 S3)))
    (q : ∀ S', Ext S S' → Q ((as.filter p).map h) S') : LcL C G elt tg ifs σ (as.map g) S Q := by
  refine lc_inv mC (fun i acc S' => Ext S S' ∧ acc = ((as.take i).filter p).map h) ⟨Ext.refl _, rfl⟩ (fun i acc S' h => hG _ h.1) ?_ ?_
  · rintro i x acc S1 hx ⟨e1, rfl⟩
    have hi : ∃ a, as[i]? = some a ∧ x = g a := by
      rw [List.getElem?_map] at hx
      cases e : as[i]? with
      | none => rw [e] at hx; cases hx
      | some a => rw [e] at hx; exact ⟨a, rfl, (Option.some.inj hx).symm⟩
    obtain ⟨a, ha, rfl⟩ := hi
    obtain ⟨σ', h1, h2, h3⟩ := each a (List.mem_of_getElem? ha) S1 e1
    refine ⟨σ', h1, wC_mono mC ifs _ _ _ _ (fun b S2 h => ?_) h2⟩
    obtain ⟨rfl, e2⟩ := h
    rw [take_next ha, List.filter_append, List.map_append]
    cases hp : p a with
    | true =>
      rw [if_pos rfl]
      refine wE_mono mC elt _ _ _ _ (fun y S3 h => ?_) (h3 hp S2 (e1.trans e2))
      obtain ⟨rfl, e3⟩ := h
      refine ⟨(e1.trans e2).trans e3, ?_⟩
      congr 1
      simp [hp]
    | false =>
      rw [if_neg (by decide)]
      refine ⟨e1.trans e2, ?_⟩
      simp [hp]
  · rintro acc S' ⟨e1, rfl⟩
    rw [List.length_map, List.take_of_length_le (Nat.le_refl _)]
    exact q _ e1
/-- [h a for a in as], the store may grow -/
theorem lc_mapE {C : Nat → List D → St → QD → Prop} (mC : MonoC C) {G : St → Prop} {tg : Tg} {elt : Ex} {α : Type} {as : List α} {σ : Sg} {S : St} {Q : List D → St → Prop} (g h : α → D)
    (hG : ∀ S', Ext S S' → G S') (each : ∀ a ∈ as, ∀ S1, Ext S S1 → ∃ σ', gA tg (g a) σ = some σ' ∧ wE C elt σ' S1 (fun y S3 => y = h a ∧ Ext S1 S3))
    (q : ∀ S', Ext S S' → Q (as.map h) S') : LcL C G elt tg .nil σ (as.map g) S Q := by
  refine lc_all mC (fun i acc S' => Ext S S' ∧ acc = (as.take i).map h) ⟨Ext.refl _, rfl⟩ (fun i acc S' h => hG _ h.1) ?_ ?_
  · rintro i x acc S1 hx ⟨e1, rfl⟩
    have hi : ∃ a, as[i]? = some a ∧ x = g a := by
      rw [List.getElem?_map] at hx
      cases e : as[i]? with
      | none => rw [e] at hx; cases hx
      | some a => rw [e] at hx; exact ⟨a, rfl, (Option.some.inj hx).symm⟩
    obtain ⟨a, ha, rfl⟩ := hi
    obtain ⟨σ', h1, h3⟩ := each a (List.mem_of_getElem? ha) S1 e1
    refine ⟨σ', h1, wE_mono mC elt _ _ _ _ (fun y S3 h => ?_) h3⟩
    obtain ⟨rfl, e3⟩ := h
    refine ⟨e1.trans e3, ?_⟩
    rw [take_next ha, List.map_append]; rfl
  · rintro acc S' ⟨e1, rfl⟩
    rw [List.length_map, List.take_of_length_le (Nat.le_refl _)]
    exact q _ e1
end Flx

end
section
set_option Elab.async false
set_option linter.all false
set_option autoImplicit false
set_option maxRecDepth 100000
/-! FlxPow: greatest weights of walks with so many arcs; a positive round is there within n arcs. -/
namespace FNet
/-- the greatest of g 0 .. g (n - 1) -/
def oM (g : Nat → Option Int) : Nat → Option Int
  | 0 => none
  | k + 1 => omax (oM g k) (g k)
theorem oM_ub (g : Nat → Option Int) : ∀ {n k : Nat}, k < n → ole (g k) (oM g n)
  | n + 1, k, h => by
    rcases Nat.lt_or_ge k n with h1 | h1
    · exact ole_trans (oM_ub g h1) (ole_maxL _ _)
    · have : k = n := by omega
      subst this
      exact ole_maxR _ _
theorem oM_lub {g : Nat → Option Int} {y : Option Int} : ∀ {n : Nat}, (∀ k, k < n → ole (g k) y) → ole (oM g n) y
  | 0, _ => by cases y <;> exact trivial
  | n + 1, h => omax_le (oM_lub fun k hk => h k (by omega)) (h n (by omega))
theorem oM_at {g : Nat → Option Int} {x : Int} : ∀ {n : Nat}, oM g n = some x → ∃ k, k < n ∧ g k = some x
  | 0, h => by cases h
  | n + 1, h => by
    have h : omax (oM g n) (g n) = some x := h
    cases e1 : oM g n with
    | none =>
      rw [e1] at h
      exact ⟨n, by omega, by cases e2 : g n <;> rw [e2] at h <;> exact h⟩
    | some a =>
      cases e2 : g n with
      | none =>
        rw [e1, e2] at h
        obtain ⟨k, hk, e⟩ := oM_at e1
        exact ⟨k, by omega, e.trans h⟩
      | some b =>
        rw [e1, e2] at h
        have h : some (if a < b then b else a) = some x := h
        split at h
        · exact ⟨n, by omega, e2.trans h⟩
        · obtain ⟨k, hk, e⟩ := oM_at e1
          exact ⟨k, by omega, e.trans h⟩
theorem oM_congr {g g' : Nat → Option Int} : ∀ {n : Nat}, (∀ k, k < n → g k = g' k) → oM g n = oM g' n
  | 0, _ => rfl
  | n + 1, h => by
    show omax (oM g n) (g n) = omax (oM g' n) (g' n)
    rw [oM_congr fun k hk => h k (by omega), h n (by omega)]
def mul (n : Nat) (B W : F) : F := fun i j => oM (fun k => oadd (B i k) (W k j)) n
def idF : F := fun i j => if i = j then some 0 else none
def pw (n : Nat) (B : F) : Nat → F
  | 0 => idF
  | k + 1 => mul n B (pw n B k)
theorem mul_id {n : Nat} {B : F} {i j : Nat} (hj : j < n) : mul n B idF i j = B i j := by
  refine ole_antisymm (oM_lub fun k hk => ?_) ?_
  · unfold idF
    split
    · rename_i e
      subst e
      cases B i k with
      | none => exact trivial
      | some a => show a + 0 ≤ a; omega
    · cases B i k <;> cases B i j <;> exact trivial
  · refine ole_trans ?_ (oM_ub _ hj)
    unfold idF
    rw [if_pos rfl]
    cases B i j with
    | none => exact trivial
    | some a => show a ≤ a + 0; omega
theorem mul_agr {n : Nat} {B B' W W' : F} (h : agr n B B') (h' : agr n W W') : agr n (mul n B W) (mul n B' W') := fun i j hi hj => by
  unfold mul
  exact oM_congr fun k hk => by rw [h i k hi hk, h' k j hk hj]
theorem pw_agr {n : Nat} {B B' : F} (h : agr n B B') : ∀ k, agr n (pw n B k) (pw n B' k)
  | 0 => fun _ _ _ _ => rfl
  | k + 1 => mul_agr h (pw_agr h k)
/-- walks: so many arcs, from, to, the weight -/
inductive Wk (n : Nat) (B : F) : Nat → Nat → Nat → Int → Prop
  | nil {u : Nat} : u < n → Wk n B 0 u u 0
  | cons {l u k v : Nat} {a w : Int} : u < n → B u k = some a → Wk n B l k v w → Wk n B (l + 1) u v (a + w)
theorem Wk.lt {n : Nat} {B : F} {l u v : Nat} {w : Int} (h : Wk n B l u v w) : u < n ∧ v < n := by
  induction h with
  | nil h => exact ⟨h, h⟩
  | cons h _ _ ih => exact ⟨h, ih.2⟩
theorem pw_wk {n : Nat} {B : F} : ∀ {l u v : Nat} {x : Int}, u < n → v < n → pw n B l u v = some x → Wk n B l u v x
  | 0, u, v, x, hu, hv, h => by
    have h : (if u = v then some (0 : Int) else none) = some x := h
    by_cases e : u = v
    · rw [if_pos e] at h
      have := Option.some.inj h
      subst this; subst e
      exact .nil hu
    · rw [if_neg e] at h; cases h
  | l + 1, u, v, x, hu, hv, h => by
    obtain ⟨k, hk, e⟩ := oM_at (show oM (fun k => oadd (B u k) (pw n B l k v)) n = some x from h)
    cases e1 : B u k with
    | none => rw [e1] at e; cases e
    | some a =>
      cases e2 : pw n B l k v with
      | none => rw [e1, e2] at e; cases e
      | some b =>
        rw [e1, e2] at e
        cases e
        exact .cons hu e1 (pw_wk hk hv e2)
theorem wk_pw {n : Nat} {B : F} {l u v : Nat} {w : Int} (h : Wk n B l u v w) : ole (some w) (pw n B l u v) := by
  induction h with
  | nil h => show ole (some 0) (if _ then _ else _); rw [if_pos rfl]; exact Int.le_refl _
  | @cons l u k v a w h e t ih =>
    refine ole_trans ?_ (oM_ub (fun k => oadd (B u k) (pw n B l k v)) t.lt.1)
    rw [e]
    exact oadd_mono (x := some a) (ole_refl _) ih
theorem Wk.app {n : Nat} {B : F} {l l' u k v : Nat} {w w' : Int} (h : Wk n B l u k w) (h' : Wk n B l' k v w') : Wk n B (l + l') u v (w + w') := by
  induction h with
  | nil h => rw [Nat.zero_add, Int.zero_add]; exact h'
  | cons h e t ih =>
    have := Wk.cons h e (ih h')
    rw [Nat.add_right_comm, Int.add_assoc]
    exact this
/-- a walk by its places -/
theorem Wk.path {n : Nat} {B : F} {l u v : Nat} {w : Int} (h : Wk n B l u v w) : ∃ (p : Nat → Nat) (s : Nat → Int), p 0 = u ∧ s 0 = 0 ∧ p l = v ∧ s l = w ∧ (∀ i, i ≤ l → p i < n) ∧ ∀ i, i < l → B (p i) (p (i + 1)) = some (s (i + 1) - s i) := by
  induction h with
  | @nil u h => exact ⟨fun _ => u, fun _ => 0, rfl, rfl, rfl, rfl, (fun _ _ => h), fun i hi => by omega⟩
  | @cons l u k v a w h e t ih =>
    obtain ⟨p, s, h1, h2, h3, h4, h5, h6⟩ := ih
    refine ⟨fun i => match i with | 0 => u | i + 1 => p i, fun i => match i with | 0 => 0 | i + 1 => a + s i, rfl, rfl, h3, by show a + s l = a + w; rw [h4], fun i hi => ?_, fun i hi => ?_⟩
    · cases i with
      | zero => exact h
      | succ i => exact h5 i (by omega)
    · cases i with
      | zero =>
        show B u (p 0) = some (a + s 0 - 0)
        rw [h1, h2, e]; congr 1; omega
      | succ i =>
        show B (p i) (p (i + 1)) = some (a + s (i + 1) - (a + s i))
        rw [h6 i (by omega)]; congr 1; omega
theorem seg {n : Nat} {B : F} {l : Nat} {p : Nat → Nat} {s : Nat → Int} (h5 : ∀ i, i ≤ l → p i < n) (h6 : ∀ i, i < l → B (p i) (p (i + 1)) = some (s (i + 1) - s i)) :
    ∀ (d i : Nat), i + d ≤ l → Wk n B d (p i) (p (i + d)) (s (i + d) - s i)
  | 0, i, h => by
    have : s (i + 0) - s i = 0 := by show s i - s i = 0; omega
    rw [this]
    exact .nil (h5 i (by omega))
  | d + 1, i, h => by
    have ih := seg h5 h6 d (i + 1) (by omega)
    have := Wk.cons (h5 i (by omega)) (h6 i (by omega)) ih
    rw [show i + (d + 1) = i + 1 + d by omega]
    have e : s (i + 1) - s i + (s (i + 1 + d) - s (i + 1)) = s (i + 1 + d) - s i := by omega
    rw [e] at this
    exact this
theorem pigeon : ∀ (n : Nat) (p : Nat → Nat), (∀ i, i ≤ n → p i < n) → ∃ i j, i < j ∧ j ≤ n ∧ p i = p j
  | 0, p, h => absurd (h 0 (Nat.le_refl _)) (by omega)
  | n + 1, p, h => by
    by_cases hx : ∃ i, i ≤ n ∧ p i = p (n + 1)
    · obtain ⟨i, hi, e⟩ := hx
      exact ⟨i, n + 1, by omega, Nat.le_refl _, e⟩
    · have hne : ∀ i, i ≤ n → p i ≠ p (n + 1) := fun i hi e => hx ⟨i, hi, e⟩
      have hl := h (n + 1) (Nat.le_refl _)
      obtain ⟨i, j, hij, hj, e⟩ := pigeon n (fun i => if p i > p (n + 1) then p i - 1 else p i) (fun i hi => by
        have h1 := hne i hi
        have h2 := h i (by omega)
        show (if p i > p (n + 1) then p i - 1 else p i) < n
        split <;> omega)
      have h1 := hne i (by omega)
      have h2 := hne j hj
      refine ⟨i, j, hij, by omega, ?_⟩
      have e : (if p i > p (n + 1) then p i - 1 else p i) = (if p j > p (n + 1) then p j - 1 else p j) := e
      split at e <;> split at e <;> omega
/-- a positive round, told with few arcs -/
theorem short_round {n : Nat} {B : F} : ∀ (l : Nat) {u : Nat} {w : Int}, Wk n B l u u w → 0 < w → ∃ (l' u' : Nat) (w' : Int), l' ≤ n ∧ Wk n B l' u' u' w' ∧ 0 < w' := by
  intro l
  induction l using Nat.strongRecOn with
  | ind l ih =>
    intro u w h hw
    rcases Nat.lt_or_ge n l with hl | hl
    · obtain ⟨p, s, h1, h2, h3, h4, h5, h6⟩ := h.path
      obtain ⟨i, j, hij, hj, e⟩ := pigeon n p (fun i hi => h5 i (by omega))
      have c1 := seg h5 h6 (j - i) i (by omega)
      rw [show i + (j - i) = j by omega, ← e] at c1
      have c2 := (seg h5 h6 i 0 (by omega))
      rw [Nat.zero_add] at c2
      have c3 := seg h5 h6 (l - j) j (by omega)
      rw [show j + (l - j) = l by omega, ← e] at c3
      have c4 := c2.app c3
      rw [h1, h3] at c4
      by_cases hp : 0 < s j - s i
      · exact ih (j - i) (by omega) c1 hp
      · exact ih (i + (l - j)) (by omega) c4 (by omega)
    · exact ⟨l, u, w, hl, h, hw⟩
/-- each entry of the table is a walk's weight -/
def Ach (n : Nat) (B f : F) : Prop := ∀ u v x, u < n → v < n → f u v = some x → ∃ l, Wk n B l u v x
theorem ach_stp {n : Nat} {B f : F} {k i j : Nat} (hk : k < n) (hi : i < n) (hj : j < n) (h : Ach n B f) : Ach n B (stp k i j f) := fun u v x hu hv e => by
  unfold stp upd at e
  split at e
  · rename_i g
    obtain ⟨rfl, rfl⟩ := g
    cases e1 : f u v with
    | none =>
      cases e2 : f u k with
      | none => rw [e1, e2] at e; cases e
      | some a =>
        cases e3 : f k v with
        | none => rw [e1, e2, e3] at e; cases e
        | some b =>
          rw [e1, e2, e3] at e
          cases e
          obtain ⟨l1, w1⟩ := h _ _ _ hu hk e2
          obtain ⟨l2, w2⟩ := h _ _ _ hk hv e3
          exact ⟨_, w1.app w2⟩
    | some c =>
      cases e2 : f u k with
      | none => rw [e1, e2] at e; exact h u v x hu hv (e1.trans e)
      | some a =>
        cases e3 : f k v with
        | none => rw [e1, e2, e3] at e; exact h u v x hu hv (e1.trans e)
        | some b =>
          rw [e1, e2, e3] at e
          have e : some (if c < a + b then a + b else c) = some x := e
          split at e
          · cases e
            obtain ⟨l1, w1⟩ := h _ _ _ hu hk e2
            obtain ⟨l2, w2⟩ := h _ _ _ hk hv e3
            exact ⟨_, w1.app w2⟩
          · exact h u v x hu hv (e1.trans e)
  · exact h u v x hu hv e
theorem ach_lj {n : Nat} {B : F} {k i : Nat} (hk : k < n) (hi : i < n) {f : F} (h : Ach n B f) : ∀ j, j ≤ n → Ach n B (lj k i j f)
  | 0, _ => h
  | j + 1, hj => ach_stp hk hi (by omega) (ach_lj hk hi h j (by omega))
theorem ach_li {n : Nat} {B : F} {k : Nat} (hk : k < n) {f : F} (h : Ach n B f) : ∀ i, i ≤ n → Ach n B (li n k i f)
  | 0, _ => h
  | i + 1, hi => ach_lj hk (by omega) (ach_li hk h i (by omega)) n (Nat.le_refl _)
theorem ach_lk {n : Nat} {B : F} {f : F} (h : Ach n B f) : ∀ k, k ≤ n → Ach n B (lk n k f)
  | 0, _ => h
  | k + 1, hk => ach_li (by omega) (ach_lk h k (by omega)) n (Nat.le_refl _)
/-- where the table has a positive entry on its diagonal, so has some power up to n -/
theorem pos_pw {n : Nat} {B f : F} (h : Ach n B f) {i : Nat} (hi : i < n) (hp : 0 < (lk n n f i i).getD 0) : ∃ l u, 1 ≤ l ∧ l ≤ n ∧ u < n ∧ 0 < (pw n B l u u).getD 0 := by
  cases e : lk n n f i i with
  | none => rw [e] at hp; exact absurd hp (by decide)
  | some x =>
    rw [e] at hp
    have hp : 0 < x := hp
    obtain ⟨l, w⟩ := ach_lk h n (Nat.le_refl _) i i x hi hi e
    obtain ⟨l', u', w', h1, h2, h3⟩ := short_round l w hp
    refine ⟨l', u', ?_, h1, h2.lt.1, ?_⟩
    · cases l' with
      | zero => cases h2; omega
      | succ l' => omega
    · have := wk_pw h2
      cases e2 : pw n B l' u' u' with
      | none => rw [e2] at this; exact this.elim
      | some y =>
        rw [e2] at this
        have this : w' ≤ y := this
        show 0 < y
        omega
end FNet
namespace Flx
open PySem PySem.Spec PyProof.Rows FNet
/-- a while by a measure -/
theorem whl_inv {C : Nat → List D → St → QD → Prop} (mC : MonoC C) {c : Ex} {b : Sms} {σ : Sg} {S : St} {E : En} (n : Nat) (I : Nat → Sg → St → Prop) (h0 : I n σ S)
    (step : ∀ k σ S, I k σ S → wT C c σ S fun t S1 => if t = true then ∃ k', k = k' + 1 ∧ wSs C b { nx := I k', ct := I k', bk := E.nx, rt := E.rt } σ S1 else E.nx σ S1) : WhlL C c b E σ S := by
  refine ⟨n + 1, ?_⟩
  have key : ∀ (k : Nat) (σ : Sg) (S : St), I k σ S → whlW (fun σ' S' Q' => wT C c σ' S' Q') (fun E' σ' S' => wSs C b E' σ' S') (k + 1) E σ S := by
    intro k
    induction k with
    | zero =>
      intro σ S h
      refine wT_mono mC c σ S _ _ (fun t S1 h1 => ?_) (step 0 σ S h)
      cases t with
      | true =>
        rw [if_pos rfl] at h1
        obtain ⟨k', e, _⟩ := h1
        exact absurd e (by omega)
      | false => exact h1
    | succ k ih =>
      intro σ S h
      refine wT_mono mC c σ S _ _ (fun t S1 h1 => ?_) (step (k + 1) σ S h)
      cases t with
      | true =>
        rw [if_pos rfl] at h1 ⊢
        obtain ⟨k', e, h1⟩ := h1
        have : k' = k := by omega
        subst this
        exact wSs_mono mC b { nx := I k', ct := I k', bk := E.nx, rt := E.rt } _ _ _ ⟨fun σ2 S2 h2 => ih σ2 S2 h2, fun _ _ q => q, fun _ _ q => q, fun σ2 S2 h2 => ih σ2 S2 h2⟩ h1
      | false => exact h1
  exact key n σ S h0
/-- a test cut off from its arms, nothing behind -/
theorem s_if {C : Nat → List D → St → QD → Prop} (mC : MonoC C) {c : Ex} {a b : Sms} {σ : Sg} {S : St} {E : En} (M : Bool → St → Prop) (h1 : wT C c σ S M)
    (hT : ∀ S', M true S' → wSs C a E σ S') (hF : ∀ S', M false S' → wSs C b E σ S') : wS C (.ite c a b) E σ S := by
  rw [wS]
  refine wT_mono mC c σ S _ _ (fun k S' h => ?_) h1
  cases k with
  | true => exact hT S' h
  | false => exact hF S' h
/-- the first c rows of a table under way, n long -/
structure Rwk (S : St) (r b c n : Nat) (f : F) : Prop where
  top : S[r]? = some (.lst (refsD b c))
  row : ∀ i, i < c → S[b + 2 * i]? = some (.lst (rowD n (f i)))
  sep : ∀ i, i < c → r ≠ b + 2 * i
theorem Rwk.rws {S : St} {r b n : Nat} {f : F} (h : Rwk S r b n n f) : Rws S r b n f := ⟨h.top, h.row, h.sep⟩
theorem Rws.rwk {S : St} {r b n : Nat} {f : F} (h : Rws S r b n f) : Rwk S r b n n f := ⟨h.top, h.row, h.sep⟩
theorem Rwk.same {S : St} {r b c n : Nat} {f g : F} (h : Rwk S r b c n f) (e : ∀ i j, i < c → j < n → f i j = g i j) : Rwk S r b c n g :=
  ⟨h.top, fun i hi => by rw [h.row i hi, rowD_congr (e i · hi)], h.sep⟩
theorem Rwk.upd {S : St} {r b c n : Nat} {f : F} (h : Rwk S r b c n f) {i j : Nat} {v : Option Int} (hi : i < c) (hj : j < n) : Rwk (S.set (b + 2 * i) (.lst ((rowD n (f i)).set j (oD v)))) r b c n (FNet.upd f i j v) := by
  refine ⟨get_set (h.sep i hi) h.top, fun i' hi' => ?_, h.sep⟩
  by_cases e : i' = i
  · subst e
    rw [get_set_self (h.row i' hi'), rowD_set hj]
    congr 2
    apply rowD_congr
    intro j' _
    unfold FNet.upd
    by_cases e : j' = j
    · rw [if_pos e, if_pos ⟨rfl, e⟩]
    · rw [if_neg e, if_neg (fun h => e h.2)]
  · rw [get_set (by omega) (h.row i' hi')]
    congr 2
    apply rowD_congr
    intro j' _
    unfold FNet.upd
    rw [if_neg (fun h => e h.1)]
/-- t[i][j] = w where that is greater -/
theorem cell_max {C : Nat → List D → St → QD → Prop} {σ : Sg} {S : St} {E : En} {r b c n : Nat} {f : F} {sr si sj sw : Nat} {p q w : Int} (R : Rwk S r b c n f)
    (h1 : σ[sr]? = some (some (.ref r))) (h2 : σ[si]? = some (some (.int p))) (h3 : σ[sj]? = some (some (.int q))) (h4 : σ[sw]? = some (some (.int w)))
    (p0 : -(c : Int) ≤ p) (p1 : p < c) (q0 : -(n : Int) ≤ q) (q1 : q < n)
    (qq : ∀ S', Rwk S' r b c n (FNet.upd f (pyI c p) (pyI n q) (omax (f (pyI c p) (pyI n q)) (some w))) → (∀ S0, Ext S0 S → S0.length ≤ b → Ext S0 S') → S'.length = S.length → (∀ i mo, (∀ j, j < c → i ≠ b + 2 * j) → S[i]? = some mo → S'[i]? = some mo) → E.nx σ S') :
    wS C (.ite (.or (.cmp .is (.ix (.ix (.var sr) (.var si)) (.var sj)) .cnon) (.cmp .lt (.ix (.ix (.var sr) (.var si)) (.var sj)) (.var sw))) (.cons (.setIx (.ix (.var sr) (.var si)) (.var sj) (.var sw)) .nil) .nil) E σ S := by
  have hP : pyI c p < c := pyI_lt p0 p1
  have hQ : pyI n q < n := pyI_lt q0 q1
  have done : f (pyI c p) (pyI n q) = omax (f (pyI c p) (pyI n q)) (some w) → E.nx σ S := fun h => qq S (R.same fun i' j' _ _ => upd_same f _ _ _ h i' j') (fun _ e _ => e) rfl (fun _ _ _ h => h)
  have setit : omax (f (pyI c p) (pyI n q)) (some w) = some w → wSs C (.cons (.setIx (.ix (.var sr) (.var si)) (.var sj) (.var sw)) .nil) E σ S := fun h => by
    refine ss_last (s_setIx (e_var h4 (e_ix (e_var h1 (e_var h2 (ix_ref R.top (refsD_at p0 p1) (e_var h3 ?_)))))))
    refine st_ix (R.row _ hP) (by rw [rowD_len]; exact ixN_py q0 q1) ?_
    have := R.upd (v := some w) hP hQ
    rw [h] at qq
    exact qq _ this (fun S0 e hb => e.set _ (by omega)) (by rw [List.length_set]) (fun i mo hi h => get_set (hi _ hP) h)
  refine s_ite (e_or (e_cmp (e_ix (e_ix (e_var h1 (e_var h2 (ix_ref R.top (refsD_at p0 p1) (e_var h3 (ix_ref (R.row _ hP) (rowD_py q0 q1) (e_cnon (c_is ?_)))))))))))
  cases hv : f (pyI c p) (pyI n q) with
  | none =>
    rw [hv] at setit
    refine ex_truB (if_bT rfl (ex_truB (if_bT rfl ?_)))
    exact setit rfl
  | some v =>
    rw [hv] at setit done
    refine ex_truB (if_bF rfl ?_)
    refine e_cmp (e_ix (e_ix (e_var h1 (e_var h2 (ix_ref R.top (refsD_at p0 p1) (e_var h3 (ix_ref (R.row _ hP) (rowD_py q0 q1) (e_var h4 ?_))))))))
    rw [hv]
    refine c_lt (ex_truB (if_d (fun h => ?_) (fun h => ?_)))
    · exact setit (by show some _ = _; rw [if_pos h])
    · exact ss_nil (done (by show _ = some _; rw [if_neg h]))
/-- the first of -1, 0, .. below k - 1 -/
def firstN (P : Int → Bool) : Nat → Option Int
  | 0 => none
  | k + 1 => match firstN P k with
    | some x => some x
    | none => if P ((k : Int) - 1) = true then some ((k : Int) - 1) else none
theorem firstN_some {P : Int → Bool} {x : Int} : ∀ {k : Nat}, firstN P k = some x → P x = true ∧ -1 ≤ x ∧ x < (k : Int) - 1
  | 0, h => by cases h
  | k + 1, h => by
    unfold firstN at h
    cases e : firstN P k with
    | some y =>
      rw [e] at h
      cases h
      obtain ⟨h1, h2, h3⟩ := firstN_some e
      exact ⟨h1, h2, by omega⟩
    | none =>
      rw [e] at h
      dsimp only at h
      split at h
      · rename_i hp
        cases h
        exact ⟨hp, by omega, by omega⟩
      · cases h
theorem firstN_none {P : Int → Bool} : ∀ {k : Nat}, firstN P k = none → ∀ x, -1 ≤ x → x < (k : Int) - 1 → P x = false
  | 0, _, x, h1, h2 => by omega
  | k + 1, h, x, h1, h2 => by
    unfold firstN at h
    cases e : firstN P k with
    | some y => rw [e] at h; cases h
    | none =>
      rw [e] at h
      dsimp only at h
      split at h
      · cases h
      · rename_i hp
        by_cases hx : x = (k : Int) - 1
        · subst hx; simpa using hp
        · exact firstN_none e x h1 (by omega)
theorem firstN_ex {P : Int → Bool} {k : Nat} {x : Int} (h : P x = true) (h1 : -1 ≤ x) (h2 : x < (k : Int) - 1) : ∃ y, firstN P k = some y := by
  cases e : firstN P k with
  | some y => exact ⟨y, rfl⟩
  | none => rw [firstN_none e x h1 h2] at h; cases h
theorem firstN_stay {P : Int → Bool} {x : Int} : ∀ {k d : Nat}, firstN P k = some x → firstN P (k + d) = some x
  | k, 0, h => h
  | k, d + 1, h => by
    show firstN P (k + d + 1) = some x
    unfold firstN
    rw [firstN_stay h]
theorem firstN_hit {P : Int → Bool} {k n : Nat} (h : firstN P k = none) (hp : P ((k : Int) - 1) = true) (hk : k < n) : firstN P n = some ((k : Int) - 1) := by
  have : firstN P (k + 1) = some ((k : Int) - 1) := by unfold firstN; rw [h]; dsimp only; rw [if_pos hp]
  rw [show n = k + 1 + (n - (k + 1)) by omega]
  exact firstN_stay this
theorem firstN_step {P : Int → Bool} {k : Nat} (h : firstN P k = none) (hp : P ((k : Int) - 1) = false) : firstN P (k + 1) = none := by
  unfold firstN; rw [h]; dsimp only; rw [if_neg (by rw [hp]; decide)]
theorem firstN_succ (P : Int → Bool) (k : Nat) : firstN P (k + 1) = match firstN P k with
    | some x => some x
    | none => if P ((k : Int) - 1) = true then some ((k : Int) - 1) else none := rfl
theorem firstN_filter {P : Int → Bool} : ∀ n, (((List.range n).map fun i : Nat => (i : Int) - 1).filter P).head? = firstN P n
  | 0 => rfl
  | n + 1 => by
    rw [List.range_succ, List.map_append, List.filter_append, List.head?_append, firstN_filter n, firstN_succ]
    cases firstN P n with
    | some x => rfl
    | none =>
      dsimp only [Option.or]
      simp only [List.map_cons, List.map_nil, List.filter_cons, List.filter_nil]
      by_cases h : P ((n : Int) - 1) = true
      · rw [if_pos h, if_pos h]; rfl
      · rw [if_neg h, if_neg h]; rfl
/-- a positive node -/
def posB (n : Nat) (f : F) (s : Int) : Bool := decide (0 < (f (pyI n s) (pyI n s)).getD 0)
/-- a step on a round -/
def stepB (n : Nat) (g : Nat → Option Int) (R : F) (s tot v : Int) : Bool := match g (pyI n v), R (pyI n v) (pyI n s) with
  | some a, some b => decide (0 < tot + a + b)
  | _, _ => false
/-- the round, node by node: where, the weight so far -/
def rnd (n : Nat) (B : F) (K : Nat) (s : Int) : Nat → Int × Int
  | 0 => (s, 0)
  | i + 1 => let v := (firstN (stepB n (B (pyI n (rnd n B K s i).1)) (pw n B (K - 1 - i)) s (rnd n B K s i).2) n).getD 0
    (v, (rnd n B K s i).2 + (B (pyI n (rnd n B K s i).1) (pyI n v)).getD 0)
theorem pyI_nd {n k : Nat} (h : k < n) : ∃ x : Int, -1 ≤ x ∧ x < (n : Int) - 1 ∧ pyI n x = k := by
  by_cases e : k = n - 1
  · exact ⟨-1, by omega, by omega, by unfold pyI; rw [if_neg (by omega)]; omega⟩
  · exact ⟨k, by omega, by omega, by unfold pyI; rw [if_pos (by omega)]; omega⟩
theorem rnd_ok {n : Nat} {B : F} {K : Nat} {s : Int} (s0 : -1 ≤ s) (s1 : s < (n : Int) - 1) (hp : 0 < (pw n B K (pyI n s) (pyI n s)).getD 0) : ∀ i, i ≤ K →
    (-1 ≤ (rnd n B K s i).1 ∧ (rnd n B K s i).1 < (n : Int) - 1) ∧ ∃ x, pw n B (K - i) (pyI n (rnd n B K s i).1) (pyI n s) = some x ∧ 0 < (rnd n B K s i).2 + x
  | 0, _ => by
    refine ⟨⟨s0, s1⟩, ?_⟩
    show ∃ x, pw n B K (pyI n s) (pyI n s) = some x ∧ 0 < 0 + x
    cases e : pw n B K (pyI n s) (pyI n s) with
    | none => rw [e] at hp; exact absurd hp (by decide)
    | some x => rw [e] at hp; exact ⟨x, rfl, by rw [Int.zero_add]; exact hp⟩
  | i + 1, hi => by
    obtain ⟨⟨h1, h2⟩, x, ex, hx⟩ := rnd_ok s0 s1 hp i (by omega)
    rw [show K - i = (K - 1 - i) + 1 by omega] at ex
    obtain ⟨k, hk, e⟩ := oM_at (show oM (fun k => oadd (B (pyI n (rnd n B K s i).1) k) (pw n B (K - 1 - i) k (pyI n s))) n = some x from ex)
    cases e1 : B (pyI n (rnd n B K s i).1) k with
    | none => rw [e1] at e; cases e
    | some a =>
      cases e2 : pw n B (K - 1 - i) k (pyI n s) with
      | none => rw [e1, e2] at e; cases e
      | some b =>
        rw [e1, e2] at e
        have e : a + b = x := Option.some.inj e
        obtain ⟨v, v0, v1, vk⟩ := pyI_nd hk
        obtain ⟨y, hy⟩ := firstN_ex (P := stepB n (B (pyI n (rnd n B K s i).1)) (pw n B (K - 1 - i)) s (rnd n B K s i).2) (k := n) (x := v) (by unfold stepB; rw [vk, e1, e2]; exact decide_eq_true (by omega)) v0 v1
        obtain ⟨y1, y2, y3⟩ := firstN_some hy
        have er1 : (rnd n B K s (i + 1)).1 = y := by show (firstN _ n).getD 0 = y; rw [hy]; rfl
        have er2 : (rnd n B K s (i + 1)).2 = (rnd n B K s i).2 + (B (pyI n (rnd n B K s i).1) (pyI n y)).getD 0 := by
          show (rnd n B K s i).2 + (B (pyI n (rnd n B K s i).1) (pyI n ((firstN _ n).getD 0))).getD 0 = _
          rw [hy]; rfl
        rw [er1, er2, show K - (i + 1) = K - 1 - i by omega]
        refine ⟨⟨y2, y3⟩, ?_⟩
        unfold stepB at y1
        cases e3 : B (pyI n (rnd n B K s i).1) (pyI n y) with
        | none => rw [e3] at y1; cases y1
        | some a' =>
          cases e4 : pw n B (K - 1 - i) (pyI n y) (pyI n s) with
          | none => rw [e3, e4] at y1; cases y1
          | some b' =>
            rw [e3, e4] at y1
            exact ⟨b', rfl, of_decide_eq_true y1⟩
/-- the step is there -/
theorem rnd_step {n : Nat} {B : F} {K : Nat} {s : Int} (s0 : -1 ≤ s) (s1 : s < (n : Int) - 1) (hp : 0 < (pw n B K (pyI n s) (pyI n s)).getD 0) {i : Nat} (hi : i < K) :
    firstN (stepB n (B (pyI n (rnd n B K s i).1)) (pw n B (K - 1 - i)) s (rnd n B K s i).2) n = some (rnd n B K s (i + 1)).1 ∧
    ∃ a, B (pyI n (rnd n B K s i).1) (pyI n (rnd n B K s (i + 1)).1) = some a ∧ (rnd n B K s (i + 1)).2 = (rnd n B K s i).2 + a := by
  obtain ⟨⟨h1, h2⟩, x, ex, hx⟩ := rnd_ok s0 s1 hp i (by omega)
  rw [show K - i = (K - 1 - i) + 1 by omega] at ex
  obtain ⟨k, hk, e⟩ := oM_at (show oM (fun k => oadd (B (pyI n (rnd n B K s i).1) k) (pw n B (K - 1 - i) k (pyI n s))) n = some x from ex)
  cases e1 : B (pyI n (rnd n B K s i).1) k with
  | none => rw [e1] at e; cases e
  | some a =>
    cases e2 : pw n B (K - 1 - i) k (pyI n s) with
    | none => rw [e1, e2] at e; cases e
    | some b =>
      rw [e1, e2] at e
      have e : a + b = x := Option.some.inj e
      obtain ⟨v, v0, v1, vk⟩ := pyI_nd hk
      obtain ⟨y, hy⟩ := firstN_ex (P := stepB n (B (pyI n (rnd n B K s i).1)) (pw n B (K - 1 - i)) s (rnd n B K s i).2) (k := n) (x := v) (by unfold stepB; rw [vk, e1, e2]; exact decide_eq_true (by omega)) v0 v1
      obtain ⟨y1, y2, y3⟩ := firstN_some hy
      have er1 : (rnd n B K s (i + 1)).1 = y := by show (firstN _ n).getD 0 = y; rw [hy]; rfl
      have er2 : (rnd n B K s (i + 1)).2 = (rnd n B K s i).2 + (B (pyI n (rnd n B K s i).1) (pyI n y)).getD 0 := by
        show (rnd n B K s i).2 + (B (pyI n (rnd n B K s i).1) (pyI n ((firstN _ n).getD 0))).getD 0 = _
        rw [hy]; rfl
      rw [er1, er2]
      refine ⟨hy, ?_⟩
      unfold stepB at y1
      cases e3 : B (pyI n (rnd n B K s i).1) (pyI n y) with
      | none => rw [e3] at y1; cases y1
      | some a' => exact ⟨a', rfl, rfl⟩
theorem least {P : Nat → Prop} : ∀ (n : Nat), P n → ∃ k, k ≤ n ∧ P k ∧ ∀ j, j < k → ¬ P j := by
  intro n
  induction n using Nat.strongRecOn with
  | ind n ih =>
    intro h
    by_cases g : ∃ j, j < n ∧ P j
    · obtain ⟨j, hj, hp⟩ := g
      obtain ⟨k, h1, h2, h3⟩ := ih j hj hp
      exact ⟨k, by omega, h2, h3⟩
    · exact ⟨n, Nat.le_refl _, h, fun j hj hp => g ⟨j, hj, hp⟩⟩
theorem RowIs.set {S : St} {d : D} {n : Nat} {g : Nat → Option Int} (h : RowIs S d n g) {w : Nat} (m : MO) (hd : d ≠ .ref w) : RowIs (S.set w m) d n g := by
  cases d with
  | ref q =>
    have hq : q ≠ w := fun e => hd (by rw [e])
    have h : seqOf S q = some (rowD n g) := h
    show seqOf (S.set w m) q = some (rowD n g)
    unfold seqOf at h ⊢
    rw [List.getElem?_set_ne (Ne.symm hq)]
    exact h
  | _ => exact h
/-- a table that does not lean on w -/
structure TabN (S : St) (w r n : Nat) (f : F) : Prop where
  ne : r ≠ w
  get : ∃ ds, S[r]? = some (.lst ds) ∧ ds.length = n ∧ (∀ d ∈ ds, d ≠ .ref w) ∧ ∀ i (h : i < ds.length), RowIs S ds[i] n (f i)
theorem TabN.tab {S : St} {w r n : Nat} {f : F} (h : TabN S w r n f) : Tab S r n f := by
  obtain ⟨ds, h1, h2, h3, h4⟩ := h.get
  exact ⟨ds, h1, h2, h4⟩
theorem TabN.ext {S S' : St} {w r n : Nat} {f : F} (h : TabN S w r n f) (e : Ext S S') : TabN S' w r n f := by
  obtain ⟨ds, h1, h2, h3, h4⟩ := h.get
  exact ⟨h.ne, ds, e.get h1, h2, h3, fun i hi => (h4 i hi).ext e⟩
theorem TabN.set {S : St} {w r n : Nat} {f : F} (h : TabN S w r n f) (m : MO) : TabN (S.set w m) w r n f := by
  obtain ⟨ds, h1, h2, h3, h4⟩ := h.get
  exact ⟨h.ne, ds, get_set h.ne h1, h2, h3, fun i hi => (h4 i hi).set m (h3 _ (List.getElem_mem hi))⟩
theorem TabN.same {S : St} {w r n : Nat} {f g : F} (h : TabN S w r n f) (e : agr n f g) : TabN S w r n g := by
  obtain ⟨ds, h1, h2, h3, h4⟩ := h.get
  refine ⟨h.ne, ds, h1, h2, h3, fun i hi => ?_⟩
  have := h4 i hi
  unfold RowIs at this ⊢
  rw [this, rowD_congr fun j hj => e i j (by omega) hj]
theorem Tab.avoid {S : St} {w r n : Nat} {f : F} (h : Tab S r n f) (hw : S.length ≤ w) : TabN S w r n f := by
  obtain ⟨ds, h1, h2, h3⟩ := h.get
  have := lt_of_get h1
  refine ⟨by omega, ds, h1, h2, fun d hd e => ?_, h3⟩
  obtain ⟨i, hi, rfl⟩ := List.getElem_of_mem hd
  have h4 := h3 i hi
  rw [e] at h4
  have h4 : seqOf S w = some _ := h4
  unfold seqOf at h4
  rw [List.getElem?_eq_none hw] at h4
  cases h4
theorem Rws.avoid {S : St} {w r b n : Nat} {f : F} (h : Rws S r b n f) (hr : w < r) (hb : w < b) : TabN S w r n f := by
  obtain ⟨ds, h1, h2, h3⟩ := h.tab.get
  refine ⟨by omega, ds, h1, h2, fun d hd e => ?_, h3⟩
  have := h.top
  rw [h1] at this
  injection this with this
  injection this with this
  subst this
  subst e
  unfold refsD at hd
  obtain ⟨i, -, e⟩ := List.mem_map.1 hd
  injection e with e
  omega
/-- a list of the powers 1 .. l -/
structure Pws (S : St) (w n : Nat) (B : F) (o l : Nat) (rs : List Nat) : Prop where
  top : S[w]? = some (.lst (rs.map D.ref))
  len : rs.length = l
  tab : ∀ i (h : i < rs.length), TabN S w rs[i] n (pw n B (i + o))
theorem Pws.ext {S S' : St} {w n o l : Nat} {B : F} {rs : List Nat} (h : Pws S w n B o l rs) (e : Ext S S') : Pws S' w n B o l rs := ⟨e.get h.top, h.len, fun i hi => (h.tab i hi).ext e⟩
theorem Pws.snoc {S : St} {w n o l t : Nat} {B : F} {rs : List Nat} (h : Pws S w n B o l rs) (ht : TabN S w t n (pw n B (l + o))) : Pws (S.set w (.lst (rs.map D.ref ++ [.ref t]))) w n B o (l + 1) (rs ++ [t]) := by
  refine ⟨by rw [get_set_self h.top, List.map_append]; rfl, by rw [List.length_append, h.len]; rfl, fun i hi => ?_⟩
  rcases Nat.lt_or_ge i rs.length with g | g
  · rw [List.getElem_append_left g]; exact (h.tab i g).set _
  · rw [List.getElem_append_right g]
    have hi' : i = l := by rw [List.length_append, List.length_singleton] at hi; have := h.len; omega
    subst hi'
    simp only [List.getElem_singleton]
    exact ht.set _
/-- the first power with a positive node -/
structure IsK (n : Nat) (B : F) (K : Nat) (s : Int) : Prop where
  ge : 1 ≤ K
  le : K ≤ n
  at' : firstN (posB n (pw n B K)) n = some s
  no : ∀ l, 1 ≤ l → l < K → firstN (posB n (pw n B l)) n = none
theorem ex_K {n : Nat} {B : F} (h : ∃ l u, 1 ≤ l ∧ l ≤ n ∧ u < n ∧ 0 < (pw n B l u u).getD 0) : ∃ K s, IsK n B K s := by
  obtain ⟨l, u, h1, h2, h3, h4⟩ := h
  obtain ⟨k, hk, ⟨p1, p2⟩, hm⟩ := least (P := fun l => 1 ≤ l ∧ ∃ s, firstN (posB n (pw n B l)) n = some s) l ⟨h1, by
    obtain ⟨x, x0, x1, xu⟩ := pyI_nd h3
    exact firstN_ex (x := x) (by unfold posB; rw [xu]; exact decide_eq_true h4) x0 x1⟩
  obtain ⟨s, hs⟩ := p2
  refine ⟨k, s, p1, by omega, hs, fun j hj hjk => ?_⟩
  cases e : firstN (posB n (pw n B j)) n with
  | none => rfl
  | some y => exact absurd ⟨hj, y, e⟩ (hm j hjk)
theorem IsK.pos {n : Nat} {B : F} {K : Nat} {s : Int} (h : IsK n B K s) : (-1 ≤ s ∧ s < (n : Int) - 1) ∧ 0 < (pw n B K (pyI n s) (pyI n s)).getD 0 := by
  obtain ⟨h1, h2, h3⟩ := firstN_some h.at'
  exact ⟨⟨h2, h3⟩, of_decide_eq_true h1⟩
/-- the greatest arcs of a network -/
def bst (m : Nat) (as : List (Int × Int × Int)) : F := arcs (as.map (natA (m + 1))) (iniP m m)
theorem bst_dgood (m : Nat) (as : List (Int × Int × Int)) : dgood (m + 1) (dgP (m + 1) (bst m as)) := fun i hi => by
  have : dgP (m + 1) (bst m as) i i = omax (bst m as i i) (some 0) := by
    show (if i = i ∧ i < m + 1 then _ else _) = _
    rw [if_pos ⟨rfl, hi⟩]
  rw [this]
  cases bst m as i i with
  | none => exact ⟨0, rfl, by decide⟩
  | some a => exact ⟨_, rfl, by split <;> omega⟩
theorem prog_calm (m : Nat) (as : List (Int × Int × Int)) : prog (m + 1) (m + 1) (dgP (m + 1) (bst m as)) = none ↔ ¬ calm (m + 1) (lk (m + 1) (m + 1) (netF m as)) := by
  have hA := lk_agr (starts_agr m (as.map (natA (m + 1)))) (m + 1) (Nat.le_refl _)
  constructor
  · intro h hc
    obtain ⟨i, hi, hp⟩ := (prog_law (bst_dgood m as) (m + 1) (Nat.le_refl _)).2 h
    refine hc i hi ?_
    show 0 < (lk (m + 1) (m + 1) (arcs (as.map (natA (m + 1))) (ini m (m + 1))) i i).getD 0
    rw [hA i i hi hi]
    exact hp
  · intro h
    cases e : prog (m + 1) (m + 1) (dgP (m + 1) (bst m as)) with
    | none => rfl
    | some g =>
      refine absurd (fun i hi hp => ?_) h
      have := (prog_good (bst_dgood m as) e).2 i hi
      have hp : 0 < (lk (m + 1) (m + 1) (arcs (as.map (natA (m + 1))) (ini m (m + 1))) i i).getD 0 := hp
      rw [hA i i hi hi] at hp
      have this : lk (m + 1) (m + 1) (dgP (m + 1) (arcs (as.map (natA (m + 1))) (iniP m m))) i i = some 0 := this
      rw [this] at hp
      exact absurd hp (by decide)
theorem ach_net (m : Nat) (as : List (Int × Int × Int)) : Ach (m + 1) (bst m as) (netF m as) := fun u v x hu hv e => by
  have h := starts_agr m (as.map (natA (m + 1))) u v hu hv
  have e : arcs (as.map (natA (m + 1))) (ini m (m + 1)) u v = some x := e
  rw [h] at e
  have e : (if u = v ∧ u < m + 1 then omax (bst m as u v) (some 0) else bst m as u v) = some x := e
  have one : ∀ y, bst m as u v = some y → Wk (m + 1) (bst m as) 1 u v y := fun y hy => by
    have := Wk.cons hu hy (Wk.nil hv)
    rw [Int.add_zero] at this
    exact this
  split at e
  · rename_i g
    obtain ⟨rfl, -⟩ := g
    cases e1 : bst m as u u with
    | none =>
      rw [e1] at e
      have : (0 : Int) = x := Option.some.inj e
      subst this
      exact ⟨0, .nil hu⟩
    | some y =>
      rw [e1] at e
      have e : some (if y < 0 then 0 else y) = some x := e
      split at e
      · have : (0 : Int) = x := Option.some.inj e
        subst this
        exact ⟨0, .nil hu⟩
      · have : y = x := Option.some.inj e
        subst this
        exact ⟨1, one _ e1⟩
  · exact ⟨1, one x e⟩
theorem net_K {m : Nat} {as : List (Int × Int × Int)} (h : ¬ calm (m + 1) (lk (m + 1) (m + 1) (netF m as))) : ∃ K s, IsK (m + 1) (bst m as) K s := by
  have : ∃ i, i < m + 1 ∧ 0 < (lk (m + 1) (m + 1) (netF m as) i i).getD 0 := by
    refine Classical.byContradiction fun g => h fun i hi hp => g ⟨i, hi, hp⟩
  obtain ⟨i, hi, hp⟩ := this
  exact ex_K (pos_pw (ach_net m as) hi hp)
end Flx

end
section
set_option Elab.async false
set_option linter.all false
set_option autoImplicit false
set_option maxRecDepth 100000
/-! FlxSch: schedules and tables; a difference told. -/
namespace Flx
open PySem PySem.Spec PyProof.Rows FNet
def val (v : List Int) (i : Int) : Int := if i < 0 then 0 else (v[i.toNat]?).getD 0
/-- a schedule -/
structure Sch (m : Nat) (as : List (Int × Int × Int)) (v : List Int) : Prop where
  len : v.length = m
  nn : ∀ x ∈ v, 0 ≤ x
  kept : ∀ a ∈ as, a.2.2 ≤ val v a.2.1 - val v a.1
def pot (m : Nat) (v : List Int) (u : Nat) : Int := if u < m then (v[u]?).getD 0 else 0
theorem pot_val {m : Nat} {v : List Int} {i : Int} (h0 : -1 ≤ i) (h1 : i < m) : pot m v (pyI (m + 1) i) = val v i := by
  unfold pot val
  by_cases h : i < 0
  · have e : pyI (m + 1) i = m := by unfold pyI; rw [if_neg (by omega)]; omega
    rw [e, if_neg (by omega), if_pos h]
  · have e : pyI (m + 1) i = i.toNat := by unfold pyI; rw [if_pos (by omega)]
    rw [e, if_pos (by omega), if_neg h]
theorem sch_below {m : Nat} {as : List (Int × Int × Int)} {v : List Int} (ao : ∀ a ∈ as, okA m a) (h : Sch m as v) : below (m + 1) (netF m as) (fun a b => some (pot m v b - pot m v a)) := by
  have p0 : ∀ b, 0 ≤ pot m v b := fun b => by
    unfold pot
    split
    · cases e : v[b]? with
      | none => exact Int.le_refl _
      | some x => exact h.nn x (List.mem_of_getElem? e)
    · exact Int.le_refl _
  refine arcs_below _ _ (fun a b ha hb => ?_) fun a ha => ?_
  · rw [ini_at]
    split
    · rename_i g
      rcases g.2 with rfl | rfl
      · show (0 : Int) ≤ _ - _; omega
      · have := p0 b
        have e : pot a v a = 0 := by unfold pot; rw [if_neg (by omega)]
        show (0 : Int) ≤ pot a v b - pot a v a
        omega
    · exact trivial
  · obtain ⟨x, hx, rfl⟩ := List.mem_map.1 ha
    obtain ⟨⟨i0, i1⟩, j0, j1⟩ := ao x hx
    have := h.kept x hx
    show x.2.2 ≤ pot m v (pyI (m + 1) x.2.1) - pot m v (pyI (m + 1) x.1)
    rw [pot_val i0 i1, pot_val j0 j1]
    exact this
theorem sch_tab {m : Nat} {as : List (Int × Int × Int)} {v : List Int} (ao : ∀ a ∈ as, okA m a) (h : Sch m as v) : below (m + 1) (lk (m + 1) (m + 1) (netF m as)) (fun a b => some (pot m v b - pot m v a)) :=
  lk_below (fun k a b _ _ _ => by show (pot m v k - pot m v a) + (pot m v b - pot m v k) ≤ pot m v b - pot m v a; omega) (sch_below ao h) _ (Nat.le_refl _)
theorem sch_le {m : Nat} {as : List (Int × Int × Int)} {v : List Int} (ao : ∀ a ∈ as, okA m a) (h : Sch m as v) {i j : Int} (i0 : -1 ≤ i) (i1 : i < m) (j0 : -1 ≤ j) (j1 : j < m) {x : Int}
    (e : lk (m + 1) (m + 1) (netF m as) (pyI (m + 1) i) (pyI (m + 1) j) = some x) : x ≤ val v j - val v i := by
  have := sch_tab ao h (pyI (m + 1) i) (pyI (m + 1) j) (pyI_lt (by omega) (by omega)) (pyI_lt (by omega) (by omega))
  rw [e] at this
  have this : x ≤ pot m v (pyI (m + 1) j) - pot m v (pyI (m + 1) i) := this
  rw [pot_val i0 i1, pot_val j0 j1] at this
  exact this
theorem arcs_mem {f : F} : ∀ (as : List (Nat × Nat × Int)) (f : F) (a : Nat × Nat × Int), a ∈ as → ole (some a.2.2) (arcs as f a.1 a.2.1)
  | [], f, a, h => by cases h
  | (i, j, w) :: r, f, a, h => by
    rcases List.mem_cons.1 h with rfl | h
    · exact ole_trans (arc_at f i j w) (arcs_le r _ i j)
    · exact arcs_mem (f := f) r _ a h
theorem val_range {m : Nat} (p : Nat → Int) (hp : p m = 0) {i : Int} (h0 : -1 ≤ i) (h1 : i < m) : val ((List.range m).map p) i = p (pyI (m + 1) i) := by
  unfold val pyI
  by_cases h : i < 0
  · rw [if_pos h, if_neg (by omega), show (i + ((m + 1 : Nat) : Int)).toNat = m by omega, hp]
  · rw [if_neg h, if_pos (by omega), List.getElem?_map, List.getElem?_range (by omega)]
    rfl
theorem sch_of {m : Nat} {as : List (Int × Int × Int)} (ao : ∀ a ∈ as, okA m a) (p : Nat → Int) (hp : p m = 0) (h : below (m + 1) (netF m as) (fun a b => some (p b - p a))) : Sch m as ((List.range m).map p) := by
  refine ⟨by rw [List.length_map, List.length_range], fun x hx => ?_, fun a ha => ?_⟩
  · obtain ⟨k, hk, rfl⟩ := List.mem_map.1 hx
    rw [List.mem_range] at hk
    have h1 : ole (some 0) (netF m as m k) := by
      refine ole_trans ?_ (arcs_le _ _ m k)
      rw [ini_at, if_pos ⟨by omega, Or.inr rfl⟩]
      exact Int.le_refl _
    have h2 := ole_trans h1 (h m k (by omega) (by omega))
    have h2 : (0 : Int) ≤ p k - p m := h2
    omega
  · obtain ⟨⟨i0, i1⟩, j0, j1⟩ := ao a ha
    rw [val_range p hp i0 i1, val_range p hp j0 j1]
    have h1 := arcs_mem (f := ini m (m + 1)) (as.map (natA (m + 1))) (ini m (m + 1)) (natA (m + 1) a) (List.mem_map_of_mem ha)
    exact ole_trans h1 (h _ _ (pyI_lt (by omega) (by omega)) (pyI_lt (by omega) (by omega)))
/-- from a node on -/
def frm (m : Nat) (G : F) (i : Nat) : List Int := (List.range m).map fun k => (G i k).getD 0 - (G i m).getD 0
theorem sch_from {m : Nat} {as : List (Int × Int × Int)} (ao : ∀ a ∈ as, okA m a) (hc : calm (m + 1) (lk (m + 1) (m + 1) (netF m as))) {i : Nat} (hi : i < m + 1)
    (hs : ∀ k, k < m + 1 → ∃ x, lk (m + 1) (m + 1) (netF m as) i k = some x) : Sch m as (frm m (lk (m + 1) (m + 1) (netF m as)) i) := by
  obtain ⟨cl, z⟩ := calm_closed (netF_dgood m as) hc
  have hb := below_lk (m + 1) (netF m as)
  generalize hG : lk (m + 1) (m + 1) (netF m as) = G at *
  refine sch_of ao (fun k => (G i k).getD 0 - (G i m).getD 0) (by show _ - _ = (0 : Int); omega) fun a b ha hb' => ?_
  refine ole_trans (hb a b ha hb') ?_
  have := cl a i b ha hi hb'
  obtain ⟨x, ex⟩ := hs a ha
  obtain ⟨y, ey⟩ := hs b hb'
  show ole (G a b) (some (((G i b).getD 0 - (G i m).getD 0) - ((G i a).getD 0 - (G i m).getD 0)))
  rw [ex, ey] at this ⊢
  cases e : G a b with
  | none => exact trivial
  | some c =>
    rw [e] at this
    have : x + c ≤ y := this
    show c ≤ (y - _) - (x - _)
    omega
theorem frm_val {m : Nat} {G : F} {i : Nat} {j : Int} (j0 : -1 ≤ j) (j1 : j < m) : val (frm m G i) j = (G i (pyI (m + 1) j)).getD 0 - (G i m).getD 0 := by
  unfold frm
  rw [val_range (fun k => (G i k).getD 0 - (G i m).getD 0) (by show _ - _ = (0 : Int); omega) j0 j1]
theorem val_at0 {v : List Int} {i : Int} (h0 : -1 ≤ i) (h1 : i < v.length) : L2.atI ((v ++ [0]).map D.int) i = some (.int (val v i)) := by
  refine atI_map ?_
  unfold L2.atI val
  by_cases h : i < 0
  · have e : i = -1 := by omega
    subst e
    rw [ixN_neg (by decide) (by rw [List.length_append]; simp; omega), if_pos (by decide)]
    show (v ++ [0])[(-1 + ((v ++ [0]).length : Int)).toNat]? = some 0
    have : (-1 + ((v ++ [0]).length : Int)).toNat = v.length := by rw [List.length_append]; simp; omega
    rw [this, List.getElem?_append_right (by omega)]
    simp
  · rw [ixN_int (by omega) (by rw [List.length_append]; simp; omega), if_neg h]
    show (v ++ [0])[i.toNat]? = some ((v[i.toNat]?).getD 0)
    rw [List.getElem?_append_left (by omega), List.getElem?_eq_getElem (by omega)]
    rfl
theorem foldl_min (x : Int) : ∀ xs : List Int, xs.foldl min x ≤ x ∧ (∀ y ∈ xs, xs.foldl min x ≤ y) ∧ (xs.foldl min x = x ∨ xs.foldl min x ∈ xs)
  | [] => ⟨Int.le_refl _, (fun y h => by cases h), Or.inl rfl⟩
  | z :: zs => by
    obtain ⟨h1, h2, h3⟩ := foldl_min (min x z) zs
    rw [List.foldl_cons]
    refine ⟨by omega, fun y hy => ?_, ?_⟩
    · rcases List.mem_cons.1 hy with rfl | hy
      · omega
      · exact h2 y hy
    · rcases h3 with h3 | h3
      · rcases Int.le_total x z with g | g
        · left; omega
        · right; rw [h3, Int.min_eq_right g]; exact List.mem_cons_self ..
      · right; exact List.mem_cons_of_mem _ h3
theorem minOf_eq {xs : List Int} {a : Int} (h1 : a ∈ xs) (h2 : ∀ x ∈ xs, a ≤ x) : minOf xs = a := by
  cases xs with
  | nil => cases h1
  | cons x xs =>
    show xs.foldl min x = a
    obtain ⟨g1, g2, g3⟩ := foldl_min x xs
    have : xs.foldl min x ≤ a := by
      rcases List.mem_cons.1 h1 with rfl | h
      · exact g1
      · exact g2 a h
    have : a ≤ xs.foldl min x := by
      rcases g3 with g3 | g3
      · rw [g3]; exact h2 x (List.mem_cons_self ..)
      · exact h2 _ (List.mem_cons_of_mem _ g3)
    omega
theorem foldl_max (x : Int) : ∀ xs : List Int, x ≤ xs.foldl max x ∧ (∀ y ∈ xs, y ≤ xs.foldl max x) ∧ (xs.foldl max x = x ∨ xs.foldl max x ∈ xs)
  | [] => ⟨Int.le_refl _, (fun y h => by cases h), Or.inl rfl⟩
  | z :: zs => by
    obtain ⟨h1, h2, h3⟩ := foldl_max (max x z) zs
    rw [List.foldl_cons]
    refine ⟨by omega, fun y hy => ?_, ?_⟩
    · rcases List.mem_cons.1 hy with rfl | hy
      · omega
      · exact h2 y hy
    · rcases h3 with h3 | h3
      · rcases Int.le_total z x with g | g
        · left; omega
        · right; rw [h3, Int.max_eq_right g]; exact List.mem_cons_self ..
      · right; exact List.mem_cons_of_mem _ h3
theorem maxOf_eq {xs : List Int} {a : Int} (h1 : a ∈ xs) (h2 : ∀ x ∈ xs, x ≤ a) : maxOf xs = a := by
  cases xs with
  | nil => cases h1
  | cons x xs =>
    show xs.foldl max x = a
    obtain ⟨g1, g2, g3⟩ := foldl_max x xs
    have : a ≤ xs.foldl max x := by
      rcases List.mem_cons.1 h1 with rfl | h
      · exact g1
      · exact g2 a h
    have : xs.foldl max x ≤ a := by
      rcases g3 with g3 | g3
      · rw [g3]; exact h2 x (List.mem_cons_self ..)
      · exact h2 _ (List.mem_cons_of_mem _ g3)
    omega
/-- a difference told: both arcs -/
def pin (n : Nat) (i j : Int) (x : Int) (G : F) : Option F :=
  if 0 < (oadd (G (pyI n j) (pyI n i)) (some x)).getD 0 then none
  else if 0 < (oadd (tight (pyI n i) (pyI n j) x G (pyI n i) (pyI n j)) (some (-x))).getD 0 then none
  else some (tight (pyI n j) (pyI n i) (-x) (tight (pyI n i) (pyI n j) x G))
theorem tight_agr {n i j : Nat} {w : Int} {f g : F} (hi : i < n) (hj : j < n) (h : agr n f g) : agr n (tight i j w f) (tight i j w g) := fun u v hu hv => by
  unfold tight; rw [h u v hu hv, h u i hu hi, h j v hj hv]
theorem sch_app {m : Nat} {as bs : List (Int × Int × Int)} {v : List Int} : Sch m (as ++ bs) v ↔ Sch m as v ∧ ∀ a ∈ bs, a.2.2 ≤ val v a.2.1 - val v a.1 :=
  ⟨fun h => ⟨⟨h.len, h.nn, fun a ha => h.kept a (List.mem_append_left _ ha)⟩, fun a ha => h.kept a (List.mem_append_right _ ha)⟩,
   fun h => ⟨h.1.len, h.1.nn, fun a ha => (List.mem_append.1 ha).elim (h.1.kept a) (h.2 a)⟩⟩
theorem pin_law {m : Nat} {as : List (Int × Int × Int)} {i j x : Int} (ao : ∀ a ∈ as, okA m a) (hc : calm (m + 1) (lk (m + 1) (m + 1) (netF m as))) (i0 : -1 ≤ i) (i1 : i < m) (j0 : -1 ≤ j) (j1 : j < m) :
    (pin (m + 1) i j x (lk (m + 1) (m + 1) (netF m as)) = none → ∀ v, Sch m as v → val v j - val v i ≠ x) ∧
    (∀ H, pin (m + 1) i j x (lk (m + 1) (m + 1) (netF m as)) = some H → ∃ e, Sch m as e ∧ val e j - val e i = x ∧ (∀ k, k < m → H m k = some (val e k)) ∧ ∀ v, Sch m as v → val v j - val v i = x → ∀ k : Nat, k < m → val e k ≤ val v k) := by
  have hI : pyI (m + 1) i < m + 1 := pyI_lt (by omega) (by omega)
  have hJ : pyI (m + 1) j < m + 1 := pyI_lt (by omega) (by omega)
  have hd := netF_dgood m as
  have s1 := netF_snoc m as (i, j, x)
  have ao1 : ∀ a ∈ as ++ [(i, j, x)], okA m a := fun a ha => (List.mem_append.1 ha).elim (ao a) fun h => by
    rw [List.mem_singleton] at h; subst h; exact ⟨⟨i0, i1⟩, j0, j1⟩
  dsimp only at s1
  have bad1 : ∀ v, Sch m as v → val v j - val v i = x → Sch m (as ++ [(i, j, x)]) v := fun v hv hx => sch_app.2 ⟨hv, fun a ha => by
    rw [List.mem_singleton] at ha; subst ha; show x ≤ val v j - val v i; omega⟩
  have nocalm : ∀ bs : List (Int × Int × Int), (∀ a ∈ bs, okA m a) → ¬ calm (m + 1) (lk (m + 1) (m + 1) (netF m bs)) → ∀ v, ¬ Sch m bs v := fun bs bo hn v hv =>
    hn (calm_of_times (pot m v) (sch_below bo hv))
  unfold pin
  by_cases h1 : 0 < (oadd (lk (m + 1) (m + 1) (netF m as) (pyI (m + 1) j) (pyI (m + 1) i)) (some x)).getD 0
  · rw [if_pos h1]
    refine ⟨fun _ v hv hx => ?_, fun H e => by cases e⟩
    refine nocalm _ ao1 ?_ v (bad1 v hv hx)
    rw [s1]
    exact tight_pos hI hJ hd h1
  · rw [if_neg h1]
    obtain ⟨c1, a1⟩ := tight_ok hI hJ hd hc h1
    rw [← s1] at c1 a1
    have hd1 := netF_dgood m (as ++ [(i, j, x)])
    have s2 := netF_snoc m (as ++ [(i, j, x)]) (j, i, -x)
    dsimp only at s2
    have ao2 : ∀ a ∈ as ++ [(i, j, x)] ++ [(j, i, -x)], okA m a := fun a ha => (List.mem_append.1 ha).elim (ao1 a) fun h => by
      rw [List.mem_singleton] at h; subst h; exact ⟨⟨j0, j1⟩, i0, i1⟩
    have bad2 : ∀ v, Sch m as v → val v j - val v i = x → Sch m (as ++ [(i, j, x)] ++ [(j, i, -x)]) v := fun v hv hx => sch_app.2 ⟨bad1 v hv hx, fun a ha => by
      rw [List.mem_singleton] at ha; subst ha; show -x ≤ val v i - val v j; omega⟩
    rw [← a1 _ _ hI hJ]
    by_cases h2 : 0 < (oadd (lk (m + 1) (m + 1) (netF m (as ++ [(i, j, x)])) (pyI (m + 1) i) (pyI (m + 1) j)) (some (-x))).getD 0
    · rw [if_pos h2]
      refine ⟨fun _ v hv hx => ?_, fun H e => by cases e⟩
      refine nocalm _ ao2 ?_ v (bad2 v hv hx)
      rw [s2]
      exact tight_pos hJ hI hd1 h2
    · rw [if_neg h2]
      refine ⟨fun e => (by cases e), fun H e => ?_⟩
      obtain ⟨c2, a2⟩ := tight_ok hJ hI hd1 c1 h2
      rw [← s2] at c2 a2
      have a3 : agr (m + 1) (lk (m + 1) (m + 1) (netF m (as ++ [(i, j, x)] ++ [(j, i, -x)]))) H := fun u v hu hv => by
        rw [a2 u v hu hv, tight_agr hJ hI a1 u v hu hv, Option.some.inj e]
      obtain ⟨cl, z⟩ := calm_closed (netF_dgood m (as ++ [(i, j, x)] ++ [(j, i, -x)])) c2
      have hlast := fun k (hk : k < m) => netF_last (m := m) (as ++ [(i, j, x)] ++ [(j, i, -x)]) hk
      have hE := sch_from (i := m) ao2 c2 (by omega) (fun k hk => by
        by_cases h : k = m
        · subst h; exact ⟨_, z k hk⟩
        · exact hlast k (by omega))
      obtain ⟨hE1, hE2⟩ := sch_app.1 hE
      obtain ⟨hE0, hE3⟩ := sch_app.1 hE1
      have zm := z m (by omega)
      have g2 := hE2 (j, i, -x) (List.mem_singleton.2 rfl)
      have g3 := hE3 (i, j, x) (List.mem_singleton.2 rfl)
      dsimp only at g2 g3
      have ev : ∀ k : Nat, k < m → lk (m + 1) (m + 1) (netF m (as ++ [(i, j, x)] ++ [(j, i, -x)])) m k = some (val (frm m (lk (m + 1) (m + 1) (netF m (as ++ [(i, j, x)] ++ [(j, i, -x)]))) m) k) := fun k hk => by
        obtain ⟨y, ey⟩ := hlast k hk
        rw [frm_val (by omega) (by omega), zm, show pyI (m + 1) (k : Int) = k by unfold pyI; rw [if_pos (by omega)]; omega, ey]
        simp
      refine ⟨_, hE0, by omega, fun k hk => ?_, fun v hv hx k hk => ?_⟩
      · rw [← a3 m k (by omega) (by omega)]
        exact ev k hk
      · have := sch_le ao2 (bad2 v hv hx) (i := -1) (j := k) (by omega) (by omega) (by omega) (by omega) (x := val (frm m (lk (m + 1) (m + 1) (netF m (as ++ [(i, j, x)] ++ [(j, i, -x)]))) m) k) (by
          rw [show pyI (m + 1) (k : Int) = k by unfold pyI; rw [if_pos (by omega)]; omega, show pyI (m + 1) (-1) = m by unfold pyI; rw [if_neg (by omega)]; omega]
          exact ev k hk)
        rw [show val v (-1) = 0 from rfl] at this
        omega
end Flx

end
section
set_option Elab.async false
set_option linter.all false
set_option autoImplicit false
set_option maxRecDepth 100000
/-! FlxWay: ways of the greatest weight with the fewest arcs; arcs sorted. -/
namespace FNet
/-- no walk outweighs the table -/
theorem wk_le {n : Nat} {B G : F} (cl : closed n G) (z : ∀ i, i < n → G i i = some 0) (hB : ∀ u v, u < n → v < n → ole (B u v) (G u v)) {l u v : Nat} {w : Int} (h : Wk n B l u v w) : ole (some w) (G u v) := by
  induction h with
  | nil h => rw [z _ h]; exact Int.le_refl _
  | @cons l u k v a w h e t ih =>
    have hk := t.lt.1
    have hv := t.lt.2
    have h1 := hB u k h hk
    rw [e] at h1
    exact ole_trans (oadd_mono (x := some a) (y := some w) h1 ih) (cl k u v hk h hv)
/-- the greatest weight is reached with fewer than n arcs -/
theorem few_arcs {n : Nat} {B G : F} (cl : closed n G) (z : ∀ i, i < n → G i i = some 0) (hB : ∀ u v, u < n → v < n → ole (B u v) (G u v)) : ∀ (l : Nat) {u v : Nat} {d : Int}, Wk n B l u v d → G u v = some d → ∃ K, K < n ∧ Wk n B K u v d := by
  intro l
  induction l using Nat.strongRecOn with
  | ind l ih =>
    intro u v d h hd
    rcases Nat.lt_or_ge l n with hl | hl
    · exact ⟨l, hl, h⟩
    · obtain ⟨p, s, h1, h2, h3, h4, h5, h6⟩ := h.path
      obtain ⟨i, j, hij, hj, e⟩ := pigeon n p (fun i hi => h5 i (by omega))
      have c1 := seg h5 h6 (j - i) i (by omega)
      rw [show i + (j - i) = j by omega, ← e] at c1
      have c2 := (seg h5 h6 i 0 (by omega))
      rw [Nat.zero_add] at c2
      have c3 := seg h5 h6 (l - j) j (by omega)
      rw [show j + (l - j) = l by omega, ← e] at c3
      have c4 := c2.app c3
      rw [h1, h3] at c4
      have l1 := wk_le cl z hB c1
      rw [z _ c1.lt.1] at l1
      have l1 : s j - s i ≤ 0 := l1
      have l4 := wk_le cl z hB c4
      rw [hd] at l4
      have l4 : s i - s 0 + (s l - s j) ≤ d := l4
      have e4 : s i - s 0 + (s l - s j) = d := by omega
      rw [e4] at c4
      exact ih (i + (l - j)) (by omega) c4 hd
end FNet
namespace Flx
open PySem PySem.Spec PyProof.Rows FNet
theorem bst_le {m : Nat} (as : List (Int × Int × Int)) : ∀ u v, u < m + 1 → v < m + 1 → ole (bst m as u v) (lk (m + 1) (m + 1) (netF m as) u v) := fun u v hu hv => by
  refine ole_trans ?_ (lk_le (m + 1) (m + 1) (netF m as) u v)
  have h := starts_agr m (as.map (natA (m + 1))) u v hu hv
  show ole _ (arcs (as.map (natA (m + 1))) (ini m (m + 1)) u v)
  rw [h]
  show ole (bst m as u v) (if u = v ∧ u < m + 1 then omax (bst m as u v) (some 0) else bst m as u v)
  split
  · exact ole_maxL _ _
  · exact ole_refl _
/-- the fewest arcs with the greatest weight -/
structure IsF (n : Nat) (B : F) (I J : Nat) (d : Int) (K : Nat) : Prop where
  lt : K < n
  at' : pw n B K I J = some d
  no : ∀ l, l < K → pw n B l I J ≠ some d
  ub : ∀ l x, pw n B l I J = some x → x ≤ d
theorem ex_F {m : Nat} {as : List (Int × Int × Int)} (hc : calm (m + 1) (lk (m + 1) (m + 1) (netF m as))) {I J : Nat} (hI : I < m + 1) (hJ : J < m + 1) {d : Int} (hd : lk (m + 1) (m + 1) (netF m as) I J = some d) :
    ∃ K, IsF (m + 1) (bst m as) I J d K := by
  obtain ⟨cl, z⟩ := calm_closed (netF_dgood m as) hc
  obtain ⟨l, w⟩ := ach_lk (ach_net m as) (m + 1) (Nat.le_refl _) I J d hI hJ hd
  obtain ⟨K, hK, w⟩ := few_arcs cl z (bst_le as) l w hd
  have hub : ∀ l x, pw (m + 1) (bst m as) l I J = some x → x ≤ d := fun l x hx => by
    have := wk_le cl z (bst_le as) (pw_wk hI hJ hx)
    rw [hd] at this
    exact this
  have hat : pw (m + 1) (bst m as) K I J = some d := by
    have h := wk_pw w
    cases e : pw (m + 1) (bst m as) K I J with
    | none => rw [e] at h; exact h.elim
    | some x =>
      rw [e] at h
      have h : d ≤ x := h
      have := hub K x e
      rw [show x = d by omega]
  obtain ⟨k, hk, h1, h2⟩ := least (P := fun l => pw (m + 1) (bst m as) l I J = some d) K hat
  exact ⟨k, by omega, h1, h2, hub⟩
/-- a step of the way -/
def stpB (n : Nat) (g : Nat → Option Int) (R : F) (J : Nat) (d v : Int) : Bool := match g (pyI n v), R (pyI n v) J with
  | some a, some b => decide (a + b = d)
  | _, _ => false
/-- the way: where, what is left -/
def wy (n : Nat) (B : F) (K J : Nat) (i d : Int) : Nat → Int × Int
  | 0 => (i, d)
  | t + 1 => let v := (firstN (stpB n (B (pyI n (wy n B K J i d t).1)) (pw n B (K - 1 - t)) J (wy n B K J i d t).2) n).getD 0
    (v, (wy n B K J i d t).2 - (B (pyI n (wy n B K J i d t).1) (pyI n v)).getD 0)
theorem wy_ok {n : Nat} {B : F} {K J : Nat} {i d : Int} (i0 : -1 ≤ i) (i1 : i < (n : Int) - 1) (hp : pw n B K (pyI n i) J = some d) : ∀ t, t ≤ K →
    (-1 ≤ (wy n B K J i d t).1 ∧ (wy n B K J i d t).1 < (n : Int) - 1) ∧ pw n B (K - t) (pyI n (wy n B K J i d t).1) J = some (wy n B K J i d t).2
  | 0, _ => ⟨⟨i0, i1⟩, hp⟩
  | t + 1, ht => by
    obtain ⟨⟨h1, h2⟩, ex⟩ := wy_ok i0 i1 hp t (by omega)
    rw [show K - t = (K - 1 - t) + 1 by omega] at ex
    obtain ⟨k, hk, e⟩ := oM_at (show oM (fun k => oadd (B (pyI n (wy n B K J i d t).1) k) (pw n B (K - 1 - t) k J)) n = some (wy n B K J i d t).2 from ex)
    cases e1 : B (pyI n (wy n B K J i d t).1) k with
    | none => rw [e1] at e; cases e
    | some a =>
      cases e2 : pw n B (K - 1 - t) k J with
      | none => rw [e1, e2] at e; cases e
      | some b =>
        rw [e1, e2] at e
        have e : a + b = (wy n B K J i d t).2 := Option.some.inj e
        obtain ⟨v, v0, v1, vk⟩ := pyI_nd hk
        obtain ⟨y, hy⟩ := firstN_ex (P := stpB n (B (pyI n (wy n B K J i d t).1)) (pw n B (K - 1 - t)) J (wy n B K J i d t).2) (k := n) (x := v) (by unfold stpB; rw [vk, e1, e2]; exact decide_eq_true e) v0 v1
        obtain ⟨y1, y2, y3⟩ := firstN_some hy
        have er1 : (wy n B K J i d (t + 1)).1 = y := by show (firstN _ n).getD 0 = y; rw [hy]; rfl
        have er2 : (wy n B K J i d (t + 1)).2 = (wy n B K J i d t).2 - (B (pyI n (wy n B K J i d t).1) (pyI n y)).getD 0 := by
          show (wy n B K J i d t).2 - (B (pyI n (wy n B K J i d t).1) (pyI n ((firstN _ n).getD 0))).getD 0 = _
          rw [hy]; rfl
        rw [er1, er2, show K - (t + 1) = K - 1 - t by omega]
        refine ⟨⟨y2, y3⟩, ?_⟩
        unfold stpB at y1
        cases e3 : B (pyI n (wy n B K J i d t).1) (pyI n y) with
        | none => rw [e3] at y1; cases y1
        | some a' =>
          cases e4 : pw n B (K - 1 - t) (pyI n y) J with
          | none => rw [e3, e4] at y1; cases y1
          | some b' =>
            rw [e3, e4] at y1
            have y1 : a' + b' = (wy n B K J i d t).2 := of_decide_eq_true y1
            show some b' = some ((wy n B K J i d t).2 - a')
            congr 1; omega
theorem wy_step {n : Nat} {B : F} {K J : Nat} {i d : Int} (i0 : -1 ≤ i) (i1 : i < (n : Int) - 1) (hp : pw n B K (pyI n i) J = some d) {t : Nat} (ht : t < K) :
    firstN (stpB n (B (pyI n (wy n B K J i d t).1)) (pw n B (K - 1 - t)) J (wy n B K J i d t).2) n = some (wy n B K J i d (t + 1)).1 ∧
    ∃ a, B (pyI n (wy n B K J i d t).1) (pyI n (wy n B K J i d (t + 1)).1) = some a ∧ (wy n B K J i d (t + 1)).2 = (wy n B K J i d t).2 - a := by
  obtain ⟨⟨h1, h2⟩, ex⟩ := wy_ok i0 i1 hp t (by omega)
  rw [show K - t = (K - 1 - t) + 1 by omega] at ex
  obtain ⟨k, hk, e⟩ := oM_at (show oM (fun k => oadd (B (pyI n (wy n B K J i d t).1) k) (pw n B (K - 1 - t) k J)) n = some (wy n B K J i d t).2 from ex)
  cases e1 : B (pyI n (wy n B K J i d t).1) k with
  | none => rw [e1] at e; cases e
  | some a =>
    cases e2 : pw n B (K - 1 - t) k J with
    | none => rw [e1, e2] at e; cases e
    | some b =>
      rw [e1, e2] at e
      have e : a + b = (wy n B K J i d t).2 := Option.some.inj e
      obtain ⟨v, v0, v1, vk⟩ := pyI_nd hk
      obtain ⟨y, hy⟩ := firstN_ex (P := stpB n (B (pyI n (wy n B K J i d t).1)) (pw n B (K - 1 - t)) J (wy n B K J i d t).2) (k := n) (x := v) (by unfold stpB; rw [vk, e1, e2]; exact decide_eq_true e) v0 v1
      obtain ⟨y1, y2, y3⟩ := firstN_some hy
      have er1 : (wy n B K J i d (t + 1)).1 = y := by show (firstN _ n).getD 0 = y; rw [hy]; rfl
      have er2 : (wy n B K J i d (t + 1)).2 = (wy n B K J i d t).2 - (B (pyI n (wy n B K J i d t).1) (pyI n y)).getD 0 := by
        show (wy n B K J i d t).2 - (B (pyI n (wy n B K J i d t).1) (pyI n ((firstN _ n).getD 0))).getD 0 = _
        rw [hy]; rfl
      rw [er1, er2]
      refine ⟨hy, ?_⟩
      unfold stpB at y1
      cases e3 : B (pyI n (wy n B K J i d t).1) (pyI n y) with
      | none => rw [e3] at y1; cases y1
      | some a' => exact ⟨a', rfl, rfl⟩
/-- the told way's t-th arc -/
def wyA (n : Nat) (B : F) (K J : Nat) (i d : Int) (t : Nat) : Int × Int × Int := ((wy n B K J i d t).1, (wy n B K J i d (t + 1)).1, (wy n B K J i d t).2 - (wy n B K J i d (t + 1)).2)

/-! ### arcs sorted -/
def leA (a b : Int × Int × Int) : Bool := decide (a.1 < b.1 ∨ (a.1 = b.1 ∧ (a.2.1 < b.2.1 ∨ (a.2.1 = b.2.1 ∧ a.2.2 ≤ b.2.2))))
theorem leA_total (a b : Int × Int × Int) : (leA a b || leA b a) = true := by
  unfold leA
  rw [Bool.or_eq_true, decide_eq_true_iff, decide_eq_true_iff]
  omega
theorem leA_trans (a b c : Int × Int × Int) (h1 : leA a b = true) (h2 : leA b c = true) : leA a c = true := by
  unfold leA at *
  rw [decide_eq_true_iff] at *
  omega
theorem leA_anti {a b : Int × Int × Int} (h1 : leA a b = true) (h2 : leA b a = true) : a = b := by
  unfold leA at *
  rw [decide_eq_true_iff] at *
  obtain ⟨a1, a2, a3⟩ := a
  obtain ⟨b1, b2, b3⟩ := b
  dsimp only at *
  have e1 : a1 = b1 := by omega
  have e2 : a2 = b2 := by omega
  have e3 : a3 = b3 := by omega
  rw [e1, e2, e3]
def sortA (as : List (Int × Int × Int)) : List (Int × Int × Int) := as.mergeSort leA
theorem sortA_perm (as : List (Int × Int × Int)) : (sortA as).Perm as := List.mergeSort_perm as leA
theorem sortA_sorted (as : List (Int × Int × Int)) : (sortA as).Pairwise (fun a b => leA a b = true) := List.pairwise_mergeSort leA_trans leA_total as
theorem sortA_mem {as : List (Int × Int × Int)} {a : Int × Int × Int} : a ∈ sortA as ↔ a ∈ as := (sortA_perm as).mem_iff
theorem sortA_len (as : List (Int × Int × Int)) : (sortA as).length = as.length := (sortA_perm as).length_eq
/-- a sorted list is the sort -/
theorem sorted_uniq : ∀ {xs ys : List (Int × Int × Int)}, xs.Pairwise (fun a b => leA a b = true) → ys.Pairwise (fun a b => leA a b = true) → xs.Perm ys → xs = ys
  | [], ys, _, _, h => (List.Perm.eq_nil h.symm).symm
  | x :: xs, [], _, _, h => by cases List.Perm.eq_nil h
  | x :: xs, y :: ys, h1, h2, h => by
    have hx : leA y x = true := by
      rcases List.mem_cons.1 (h.mem_iff.1 (List.mem_cons_self ..)) with e | hm
      · rw [e]; simpa using leA_total y y
      · exact (List.pairwise_cons.1 h2).1 x hm
    have hy : leA x y = true := by
      rcases List.mem_cons.1 (h.mem_iff.2 (List.mem_cons_self ..)) with e | hm
      · rw [e]; simpa using leA_total x x
      · exact (List.pairwise_cons.1 h1).1 y hm
    have e := leA_anti hy hx
    subst e
    rw [sorted_uniq (List.pairwise_cons.1 h1).2 (List.pairwise_cons.1 h2).2 h.cons_inv]
theorem toPR_arc (S : St) (a : Int × Int × Int) : toPR S (arcD a) = some (.tuple [.int a.1, .int a.2.1, .int a.2.2]) := by
  unfold arcD
  rw [toPR, toPRs, toPRs, toPRs, toPRs, toPR, toPR, toPR]; rfl
def pA (a : Int × Int × Int) : PyData := .tuple [.int a.1, .int a.2.1, .int a.2.2]
theorem toPRs_arcs (S : St) : ∀ as : List (Int × Int × Int), toPRs S (as.map arcD) = some (as.map pA)
  | [] => by rw [List.map_nil, toPRs]; rfl
  | a :: as => by rw [List.map_cons, toPRs, toPR_arc, toPRs_arcs S as]; rfl
theorem eqv_arc (a b : Int × Int × Int) : PyData.eqv (pA a) (pA b) = decide (a = b) := by
  unfold pA
  obtain ⟨a1, a2, a3⟩ := a
  obtain ⟨b1, b2, b3⟩ := b
  simp only [PyData.eqv, PyData.eqvAll, Prod.mk.injEq, Bool.and_true]
  rw [Bool.eq_iff_iff]
  simp
theorem alike_arc (a b : Int × Int × Int) : PySem.W.alike (pA a) (pA b) = true := by
  unfold pA
  simp [PySem.W.alike, PySem.W.alikeAll]
theorem depth_arc (a : Int × Int × Int) : (pA a).depth ≤ 60 := by
  unfold pA
  simp [PyData.depth, PyData.depthAll]
theorem lay_arcs : ∀ as : List (Int × Int × Int), PyData.canLayAll0 (as.map pA) = true
  | [] => by rw [List.map_nil, PyData.canLayAll0]
  | a :: as => by
    rw [List.map_cons, PyData.canLayAll0, lay_arcs as]
    unfold pA
    simp [PyData.canLay0, PyData.canLayAll0]
theorem shaped_arc (a : Int × Int × Int) : SeqAt.shaped (pA a) = true := by
  refine shaped_of ?_ (Nat.le_trans (depth_arc a) (by decide))
  have := lay_arcs [a]
  rw [List.map_cons, PyData.canLayAll0, Bool.and_eq_true] at this
  exact this.1
theorem lt_arc (a b : Int × Int × Int) : PySem.W.dataLt (pA a) (pA b) = decide (a.1 < b.1 ∨ (a.1 = b.1 ∧ (a.2.1 < b.2.1 ∨ (a.2.1 = b.2.1 ∧ a.2.2 < b.2.2)))) := by
  unfold pA
  rw [PySem.W.dataLt_tuple, PySem.W.dataLt_cons (by simp [PySem.W.alike]), PySem.W.dataLt_cons (by simp [PySem.W.alike]), PySem.W.dataLt_cons (by simp [PySem.W.alike]), PySem.W.dataLt_int, PySem.W.dataLt_int, PySem.W.dataLt_int]
  have e : PyProof.Rows.lexLt itemOrd (PySem.W.keyToksAll []) (PySem.W.keyToksAll []) = false := lex_irrefl _
  rw [e]
  simp only [PyData.eqv, beq_iff_eq]
  by_cases h1 : a.1 = b.1 <;> by_cases h2 : a.2.1 = b.2.1 <;> by_cases h3 : a.2.2 = b.2.2 <;> simp [h1, h2, h3]
theorem sortD_arcs (S : St) (as : List (Int × Int × Int)) : sortD S (as.map arcD) = (sortA as).map arcD := by
  unfold sortD sortA
  refine (PySem.W.sort_maps arcD fun a _ b _ => ?_).symm
  rw [PySem.W.dataLe_eq]
  dsimp only
  rw [toPR_arc, toPR_arc]
  show leA a b = !PySem.W.dataLt (pA b) (pA a)
  rw [lt_arc]
  unfold leA
  rw [Bool.eq_iff_iff, Bool.not_eq_true', decide_eq_true_iff, decide_eq_false_iff_not]
  omega
/-- sorted(arcs) -/
theorem b_sortA {n : Nat} {S : St} {as : List (Int × Int × Int)} {Q : QD} (h : S[n]? = some (.lst (as.map arcD))) (q : Q (.ref S.length) (S ++ [.lst ((sortA as).map arcD)])) : bltW .sorted [.ref n] S Q := by
  refine ⟨as.map arcD, as.map pA, seqOf_lst h, toPRs_arcs S as, PySem.W.AllAlike.of alike_arc, PySem.W.Sortable.tuples fun a => ⟨_, _, rfl⟩, fun p hp => ?_, ?_⟩
  · obtain ⟨a, -, rfl⟩ := List.mem_map.1 hp
    exact depth_arc a
  · rw [sortD_arcs]; exact q
/-- arc in arcs -/
theorem c_inA {S : St} {y : D} {as : List (Int × Int × Int)} {a : Int × Int × Int} {Q : Bool → St → Prop} (h : itemsOf S y = some (as.map arcD)) (q : Q (decide (a ∈ as)) S) : cmpW .isin (arcD a) y S Q := by
  refine Or.inr ⟨_, _, _, h, toPR_arc S a, toPRs_arcs S as, lay_arcs as, shaped_arc a, ?_⟩
  have e : ((as.map pA).any fun z => PyData.eqv z (pA a)) = decide (a ∈ as) := by
    rw [List.any_map, Bool.eq_iff_iff, List.any_eq_true, decide_eq_true_iff]
    constructor
    · rintro ⟨b, hb, h⟩
      have h : PyData.eqv (pA b) (pA a) = true := h
      rw [eqv_arc] at h
      rw [← of_decide_eq_true h]; exact hb
    · intro h
      exact ⟨a, h, by show PyData.eqv (pA a) (pA a) = true; rw [eqv_arc]; exact decide_eq_true rfl⟩
  have q' := q
  rw [← e] at q'
  exact q'
theorem c_notinA {S : St} {y : D} {as : List (Int × Int × Int)} {a : Int × Int × Int} {Q : Bool → St → Prop} (h : itemsOf S y = some (as.map arcD)) (q : Q (!decide (a ∈ as)) S) : cmpW .notin (arcD a) y S Q := by
  refine Or.inr ⟨_, _, _, h, toPR_arc S a, toPRs_arcs S as, lay_arcs as, shaped_arc a, ?_⟩
  have e : ((as.map pA).any fun z => PyData.eqv z (pA a)) = decide (a ∈ as) := by
    rw [List.any_map, Bool.eq_iff_iff, List.any_eq_true, decide_eq_true_iff]
    constructor
    · rintro ⟨b, hb, h⟩
      have h : PyData.eqv (pA b) (pA a) = true := h
      rw [eqv_arc] at h
      rw [← of_decide_eq_true h]; exact hb
    · intro h
      exact ⟨a, h, by show PyData.eqv (pA a) (pA a) = true; rw [eqv_arc]; exact decide_eq_true rfl⟩
  have q' := q
  rw [← e] at q'
  exact q'
end Flx

end
section
set_option Elab.async false
set_option linter.all false
set_option autoImplicit false
set_option maxRecDepth 100000
/-! FlxZer: the origin's own arcs; the arcs behind a table. -/
namespace Flx
open PySem PySem.Spec PyProof.Rows FNet
/-- the origin's own arcs -/
def zer (m : Nat) : List (Int × Int × Int) := (List.range m).map fun (k : Nat) => ((-1 : Int), (k : Int), (0 : Int))
theorem zer_ok (m : Nat) : ∀ a ∈ zer m, okA m a := fun a ha => by
  obtain ⟨k, hk, rfl⟩ := List.mem_map.1 ha
  rw [List.mem_range] at hk
  exact ⟨⟨by show (-1 : Int) ≤ -1; decide, by show (-1 : Int) < m; omega⟩, by show (-1 : Int) ≤ k; omega, by show (k : Int) < m; omega⟩
theorem arcs_zer (m : Nat) : ∀ (c : Nat) (f : F) (u v : Nat), c ≤ m → arcs (((List.range c).map fun (k : Nat) => ((-1 : Int), (k : Int), (0 : Int))).map (natA (m + 1))) f u v = if u = m ∧ v < c then omax (f u v) (some 0) else f u v
  | 0, f, u, v, _ => by rw [if_neg (by omega)]; rfl
  | c + 1, f, u, v, h => by
    rw [List.range_succ, List.map_append, List.map_append, arcs_append]
    have e : ([((c : Nat))].map fun (k : Nat) => ((-1 : Int), (k : Int), (0 : Int))).map (natA (m + 1)) = [(m, c, 0)] := by
      show [natA (m + 1) ((-1 : Int), (c : Int), (0 : Int))] = _
      have h1 : pyI (m + 1) (-1) = m := by unfold pyI; rw [if_neg (by omega)]; omega
      have h2 : pyI (m + 1) (c : Int) = c := by unfold pyI; rw [if_pos (by omega)]; omega
      unfold natA
      rw [h1, h2]
    rw [e]
    show FNet.upd _ m c (omax (arcs (((List.range c).map fun (k : Nat) => ((-1 : Int), (k : Int), (0 : Int))).map (natA (m + 1))) f m c) (some 0)) u v = _
    unfold FNet.upd
    have ih := arcs_zer m c f
    by_cases h1 : u = m ∧ v = c
    · rw [if_pos h1, if_pos (by omega), ih m c (by omega), if_neg (by omega), h1.1, h1.2]
    · rw [if_neg h1, ih u v (by omega)]
      by_cases h2 : u = m ∧ v < c
      · rw [if_pos h2, if_pos (by omega)]
      · rw [if_neg h2, if_neg (by omega)]
theorem best_agr (m : Nat) (as : List (Int × Int × Int)) (u v : Nat) : arcs ((as ++ zer m).map (natA (m + 1))) (fun _ _ => none) u v = bst m as u v := by
  rw [List.map_append, arcs_append]
  unfold zer
  rw [arcs_zer m m _ u v (Nat.le_refl _)]
  have e2 := arcs_max (as.map (natA (m + 1))) (iniP m m) (fun _ _ => none) (iniP m m) (fun i j => by cases iniP m m i j <;> rfl) u v
  show _ = arcs (as.map (natA (m + 1))) (iniP m m) u v
  rw [e2]
  show _ = omax _ (if u = m ∧ v < m then some 0 else none)
  by_cases h : u = m ∧ v < m
  · rw [if_pos h, if_pos h]
  · rw [if_neg h, if_neg h]
    cases arcs (as.map (natA (m + 1))) (fun _ _ => none) u v <;> rfl
theorem firstN_min {P : Int → Bool} {x : Int} : ∀ {k : Nat}, firstN P k = some x → ∀ y, -1 ≤ y → y < x → P y = false
  | 0, h => by cases h
  | k + 1, h => by
    rw [firstN_succ] at h
    cases e : firstN P k with
    | some z =>
      rw [e] at h
      cases h
      exact firstN_min e
    | none =>
      rw [e] at h
      dsimp only at h
      split at h
      · cases h
        exact fun y h1 h2 => firstN_none e y h1 h2
      · cases h
theorem arcs_some : ∀ (as : List (Nat × Nat × Int)) (f : F) (u v : Nat) (w : Int), arcs as f u v = some w → f u v = some w ∨ (u, v, w) ∈ as
  | [], f, u, v, w, h => Or.inl h
  | (i, j, x) :: r, f, u, v, w, h => by
    rcases arcs_some r (arc f i j x) u v w h with h | h
    · unfold arc FNet.upd at h
      split at h
      · rename_i g
        obtain ⟨rfl, rfl⟩ := g
        cases e : f u v with
        | none =>
          rw [e] at h
          have h : some x = some w := h
          cases h
          exact Or.inr (List.mem_cons_self ..)
        | some y =>
          rw [e] at h
          have h : some (if y < x then x else y) = some w := h
          split at h
          · cases h; exact Or.inr (List.mem_cons_self ..)
          · cases h; exact Or.inl rfl
      · exact Or.inl h
    · exact Or.inr (List.mem_cons_of_mem _ h)
theorem pyI_inj {m : Nat} {x y : Int} (h1 : -1 ≤ x) (h2 : x < m) (h3 : -1 ≤ y) (h4 : y < m) (e : pyI (m + 1) x = pyI (m + 1) y) : x = y := by
  unfold pyI at e
  split at e <;> split at e <;> omega
/-- all arcs, the origin's too -/
def allA (m : Nat) (as : List (Int × Int × Int)) : List (Int × Int × Int) := as ++ zer m
theorem allA_ok {m : Nat} {as : List (Int × Int × Int)} (ao : ∀ a ∈ as, okA m a) : ∀ a ∈ allA m as, okA m a := fun a ha => (List.mem_append.1 ha).elim (ao a) (zer_ok m a)
theorem bst_arc {m : Nat} {as : List (Int × Int × Int)} (ao : ∀ a ∈ as, okA m a) {x y w : Int} (x0 : -1 ≤ x) (x1 : x < m) (y0 : -1 ≤ y) (y1 : y < m) (h : bst m as (pyI (m + 1) x) (pyI (m + 1) y) = some w) : (x, y, w) ∈ allA m as := by
  rw [← best_agr] at h
  rcases arcs_some _ _ _ _ _ h with h | h
  · cases h
  · obtain ⟨⟨a, b, c⟩, ha, e⟩ := List.mem_map.1 h
    obtain ⟨⟨a0, a1⟩, b0, b1⟩ := allA_ok ao _ ha
    dsimp only at a0 a1 b0 b1
    unfold natA at e
    injection e with e1 e
    injection e with e2 e3
    dsimp only at e1 e2 e3
    rw [← pyI_inj a0 a1 x0 x1 e1, ← pyI_inj b0 b1 y0 y1 e2, ← e3]
    exact ha
theorem arc_bst {m : Nat} {as : List (Int × Int × Int)} {a : Int × Int × Int} (h : a ∈ allA m as) : ole (some a.2.2) (bst m as (pyI (m + 1) a.1) (pyI (m + 1) a.2.1)) := by
  rw [← best_agr]
  exact arcs_mem (f := fun _ _ => none) _ _ (natA (m + 1) a) (List.mem_map_of_mem h)
/-- a row from arcs: the greatest arc and rest -/
def rowM (n : Nat) (R : Nat → Option Int) : List (Int × Int × Int) → Nat → Option Int
  | [] => fun _ => none
  | a :: r => fun u => if u = pyI n a.1 then omax (rowM n R r u) (oadd (some a.2.2) (R (pyI n a.2.1))) else rowM n R r u
theorem rowM_ub {n : Nat} {R : Nat → Option Int} : ∀ {xs : List (Int × Int × Int)} {a : Int × Int × Int}, a ∈ xs → ole (oadd (some a.2.2) (R (pyI n a.2.1))) (rowM n R xs (pyI n a.1))
  | x :: xs, a, h => by
    rcases List.mem_cons.1 h with rfl | h
    · show ole _ (if pyI n a.1 = pyI n a.1 then _ else _)
      rw [if_pos rfl]
      exact ole_maxR _ _
    · refine ole_trans (rowM_ub h) ?_
      show ole _ (if pyI n a.1 = pyI n x.1 then _ else _)
      split
      · exact ole_maxL _ _
      · exact ole_refl _
theorem rowM_lub {n : Nat} {R : Nat → Option Int} {u : Nat} {y : Option Int} : ∀ {xs : List (Int × Int × Int)}, (∀ a ∈ xs, u = pyI n a.1 → ole (oadd (some a.2.2) (R (pyI n a.2.1))) y) → ole (rowM n R xs u) y
  | [], _ => by cases y <;> exact trivial
  | x :: xs, h => by
    show ole (if u = pyI n x.1 then _ else _) y
    have ih := rowM_lub (xs := xs) fun a ha => h a (List.mem_cons_of_mem _ ha)
    split
    · rename_i e
      exact omax_le ih (h x (List.mem_cons_self ..) e)
    · exact ih
theorem rowM_snoc {n : Nat} {R : Nat → Option Int} (u : Nat) (a : Int × Int × Int) : ∀ xs : List (Int × Int × Int), rowM n R (xs ++ [a]) u = if u = pyI n a.1 then omax (rowM n R xs u) (oadd (some a.2.2) (R (pyI n a.2.1))) else rowM n R xs u
  | [] => rfl
  | x :: xs => by
    show (if u = pyI n x.1 then omax (rowM n R (xs ++ [a]) u) _ else rowM n R (xs ++ [a]) u) = _
    rw [rowM_snoc u a xs]
    show _ = if u = pyI n a.1 then omax (if u = pyI n x.1 then omax (rowM n R xs u) _ else rowM n R xs u) _ else (if u = pyI n x.1 then omax (rowM n R xs u) _ else rowM n R xs u)
    by_cases h1 : u = pyI n x.1 <;> by_cases h2 : u = pyI n a.1
    · rw [if_pos h1, if_pos h2, if_pos h2, if_pos h1, omax_assoc, omax_assoc, omax_comm (oadd (some a.2.2) _)]
    · rw [if_pos h1, if_neg h2, if_neg h2, if_pos h1]
    · rw [if_neg h1, if_pos h2, if_pos h2, if_neg h1]
    · rw [if_neg h1, if_neg h2, if_neg h2, if_neg h1]
theorem rowM_all {m : Nat} {as xs : List (Int × Int × Int)} (ao : ∀ a ∈ as, okA m a) (hx : ∀ a, a ∈ xs ↔ a ∈ allA m as) {R : Nat → Option Int} {u : Nat} (hu : u < m + 1) :
    rowM (m + 1) R xs u = oM (fun k => oadd (bst m as u k) (R k)) (m + 1) := by
  refine ole_antisymm (rowM_lub fun a ha e => ?_) (oM_lub fun k hk => ?_)
  · have ha := (hx a).1 ha
    obtain ⟨-, b0, b1⟩ := allA_ok ao a ha
    have h1 := arc_bst ha
    rw [← e] at h1
    exact ole_trans (oadd_mono h1 (ole_refl _)) (oM_ub (fun k => oadd (bst m as u k) (R k)) (pyI_lt (by omega) (by omega)))
  · obtain ⟨x, x0, x1, rfl⟩ := pyI_nd hu
    obtain ⟨y, y0, y1, rfl⟩ := pyI_nd hk
    cases e : bst m as (pyI (m + 1) x) (pyI (m + 1) y) with
    | none => exact trivial
    | some w =>
      have hm := bst_arc ao x0 (by omega) y0 (by omega) e
      exact rowM_ub (a := (x, y, w)) ((hx _).2 hm)
/-- the head of the fitting arcs -/
theorem fit_head {m : Nat} {as xs : List (Int × Int × Int)} (ao : ∀ a ∈ as, okA m a) (hx : ∀ a, a ∈ xs ↔ a ∈ allA m as) (hs : xs.Pairwise (fun a b => leA a b = true)) {R : F} {J : Nat} {at' v a d : Int}
    (a0 : -1 ≤ at') (a1 : at' < m) (hmax : oM (fun k => oadd (bst m as (pyI (m + 1) at') k) (R k J)) (m + 1) = some d)
    (hv : firstN (stpB (m + 1) (bst m as (pyI (m + 1) at')) R J d) (m + 1) = some v) (ha : bst m as (pyI (m + 1) at') (pyI (m + 1) v) = some a) :
    ∃ zs, (xs.filter fun x => decide (x.1 = at') && match R (pyI (m + 1) x.2.1) J with | some r => decide (x.2.2 + r = d) | none => false) = (at', v, a) :: zs := by
  obtain ⟨v1, v0, vm⟩ := firstN_some hv
  unfold stpB at v1
  rw [ha] at v1
  cases er : R (pyI (m + 1) v) J with
  | none => rw [er] at v1; cases v1
  | some r =>
    rw [er] at v1
    have v1 : a + r = d := of_decide_eq_true v1
    have hin : (at', v, a) ∈ xs.filter fun x => decide (x.1 = at') && match R (pyI (m + 1) x.2.1) J with | some r => decide (x.2.2 + r = d) | none => false := by
      refine List.mem_filter.2 ⟨(hx _).2 (bst_arc ao a0 a1 v0 (by omega) ha), ?_⟩
      show (decide (at' = at') && match R (pyI (m + 1) v) J with | some r => decide (a + r = d) | none => false) = true
      rw [er]; simp [v1]
    have hle : ∀ b ∈ xs.filter (fun x => decide (x.1 = at') && match R (pyI (m + 1) x.2.1) J with | some r => decide (x.2.2 + r = d) | none => false), leA (at', v, a) b = true := fun b hb => by
      obtain ⟨h1, h2⟩ := List.mem_filter.1 hb
      obtain ⟨b1, b2, b3⟩ := b
      rw [Bool.and_eq_true, decide_eq_true_iff] at h2
      obtain ⟨h2, h3⟩ := h2
      dsimp only at h2 h3
      subst h2
      have hall := (hx _).1 h1
      obtain ⟨-, c0, c1⟩ := allA_ok ao _ hall
      dsimp only at c0 c1
      cases er2 : R (pyI (m + 1) b2) J with
      | none => rw [er2] at h3; cases h3
      | some r2 =>
        rw [er2] at h3
        have h3 : b3 + r2 = d := of_decide_eq_true h3
        have h4 := arc_bst hall
        dsimp only at h4
        cases eb : bst m as (pyI (m + 1) b1) (pyI (m + 1) b2) with
        | none => rw [eb] at h4; exact h4.elim
        | some w =>
          rw [eb] at h4
          have h4 : b3 ≤ w := h4
          have h5 := oM_ub (fun k => oadd (bst m as (pyI (m + 1) b1) k) (R k J)) (n := m + 1) (k := pyI (m + 1) b2) (pyI_lt (by omega) (by omega))
          rw [hmax, eb, er2] at h5
          have h5 : w + r2 ≤ d := h5
          have h6 : ¬ b2 < v := fun h => by
            have := firstN_min hv b2 c0 h
            unfold stpB at this
            rw [eb, er2] at this
            exact absurd (show w + r2 = d by omega) (of_decide_eq_false this)
          unfold leA
          refine decide_eq_true (Or.inr ⟨rfl, ?_⟩)
          dsimp only
          by_cases h7 : v = b2
          · subst h7
            rw [er] at er2
            have : r = r2 := Option.some.inj er2
            exact Or.inr ⟨rfl, by omega⟩
          · exact Or.inl (by omega)
    have hsf := hs.filter (fun x => decide (x.1 = at') && match R (pyI (m + 1) x.2.1) J with | some r => decide (x.2.2 + r = d) | none => false)
    cases e : xs.filter (fun x => decide (x.1 = at') && match R (pyI (m + 1) x.2.1) J with | some r => decide (x.2.2 + r = d) | none => false) with
    | nil => rw [e] at hin; cases hin
    | cons b bs =>
      rw [e] at hin hle hsf
      refine ⟨bs, ?_⟩
      have h1 := hle b (List.mem_cons_self ..)
      rcases List.mem_cons.1 hin with h2 | h2
      · rw [h2]
      · rw [leA_anti ((List.pairwise_cons.1 hsf).1 _ h2) h1]
end Flx

end
section
set_option Elab.async false
set_option linter.all false
set_option autoImplicit false
set_option maxRecDepth 100000
/-! FlxGrp: rigid groups of nodes; heads; the least core. -/
namespace Flx
open PySem PySem.Spec PyProof.Rows FNet
def nds (m : Nat) : List Int := (List.range (m + 1)).map fun (c : Nat) => (c : Int) - 1
theorem mem_nds {m : Nat} {x : Int} : x ∈ nds m ↔ -1 ≤ x ∧ x < m := by
  unfold nds
  rw [List.mem_map]
  constructor
  · rintro ⟨c, hc, rfl⟩
    rw [List.mem_range] at hc
    omega
  · intro h
    exact ⟨(x + 1).toNat, List.mem_range.2 (by omega), by omega⟩
theorem nds_len (m : Nat) : (nds m).length = m + 1 := by unfold nds; rw [List.length_map, List.length_range]
theorem nds_at {m c : Nat} (h : c < m + 1) : (nds m)[c]? = some ((c : Int) - 1) := by
  unfold nds
  rw [List.getElem?_map, List.getElem?_range h]; rfl
theorem nds_asc (m : Nat) : (nds m).Pairwise (· < ·) := by
  unfold nds
  rw [List.pairwise_map]
  exact List.pairwise_lt_range.imp (by intro a b h; omega)
/-- two strictly ascending lists with the same members -/
theorem asc_uniq : ∀ {xs ys : List Int}, xs.Pairwise (· < ·) → ys.Pairwise (· < ·) → (∀ a, a ∈ xs ↔ a ∈ ys) → xs = ys
  | [], [], _, _, _ => rfl
  | [], y :: ys, _, _, h => by have := (h y).2 (List.mem_cons_self ..); cases this
  | x :: xs, [], _, _, h => by have := (h x).1 (List.mem_cons_self ..); cases this
  | x :: xs, y :: ys, h1, h2, h => by
    obtain ⟨a1, b1⟩ := List.pairwise_cons.1 h1
    obtain ⟨a2, b2⟩ := List.pairwise_cons.1 h2
    have hx := (h x).1 (List.mem_cons_self ..)
    have hy := (h y).2 (List.mem_cons_self ..)
    have e : x = y := by
      rcases List.mem_cons.1 hx with e | hx
      · exact e
      · rcases List.mem_cons.1 hy with e | hy
        · exact e.symm
        · have := a2 x hx
          have := a1 y hy
          omega
    subst e
    rw [asc_uniq b1 b2 fun a => ?_]
    constructor
    · intro ha
      rcases List.mem_cons.1 ((h a).1 (List.mem_cons_of_mem _ ha)) with e | h'
      · subst e; have := a1 a ha; omega
      · exact h'
    · intro ha
      rcases List.mem_cons.1 ((h a).2 (List.mem_cons_of_mem _ ha)) with e | h'
      · subst e; have := a2 a ha; omega
      · exact h'
/-- a table of longest ways -/
structure GdT (m : Nat) (G : F) : Prop where
  cl : closed (m + 1) G
  z : ∀ i, i < m + 1 → G i i = some 0
  org : ∀ j, j < m → ∃ x, 0 ≤ x ∧ G m j = some x
variable {m : Nat} {G : F}
def gg (m : Nat) (G : F) (i j : Int) : Option Int := G (pyI (m + 1) i) (pyI (m + 1) j)
def rig (m : Nat) (G : F) (i j : Int) : Bool := match gg m G i j, gg m G j i with
  | some a, some b => decide (a + b = 0)
  | _, _ => false
def ear (m : Nat) (G : F) (j : Int) : Int := (gg m G (-1) j).getD 0
theorem nd_lt {x : Int} (h : x ∈ nds m) : pyI (m + 1) x < m + 1 := by
  have := mem_nds.1 h
  exact pyI_lt (by omega) (by omega)
theorem gg_self (h : GdT m G) {x : Int} (hx : x ∈ nds m) : gg m G x x = some 0 := h.z _ (nd_lt hx)
theorem gg_cl (h : GdT m G) {x y z : Int} (hx : x ∈ nds m) (hy : y ∈ nds m) (hz : z ∈ nds m) {a b : Int} (e1 : gg m G x y = some a) (e2 : gg m G y z = some b) : ∃ c, gg m G x z = some c ∧ a + b ≤ c := by
  have := h.cl _ _ _ (nd_lt hy) (nd_lt hx) (nd_lt hz)
  unfold gg at *
  rw [e1, e2] at this
  cases e : G (pyI (m + 1) x) (pyI (m + 1) z) with
  | none => rw [e] at this; exact this.elim
  | some c => rw [e] at this; exact ⟨c, rfl, this⟩
theorem rig_iff {i j : Int} : rig m G i j = true ↔ ∃ a, gg m G i j = some a ∧ gg m G j i = some (-a) := by
  unfold rig
  constructor
  · intro h
    cases e1 : gg m G i j with
    | none => rw [e1] at h; cases h
    | some a =>
      cases e2 : gg m G j i with
      | none => rw [e1, e2] at h; cases h
      | some b =>
        rw [e1, e2] at h
        have h : a + b = 0 := of_decide_eq_true h
        exact ⟨a, rfl, by congr 1; omega⟩
  · rintro ⟨a, e1, e2⟩
    rw [e1, e2]
    exact decide_eq_true (by omega)
theorem rig_refl (h : GdT m G) {x : Int} (hx : x ∈ nds m) : rig m G x x = true := rig_iff.2 ⟨0, gg_self h hx, gg_self h hx⟩
theorem rig_symm {x y : Int} (h : rig m G x y = true) : rig m G y x = true := by
  obtain ⟨a, h1, h2⟩ := rig_iff.1 h
  exact rig_iff.2 ⟨-a, h2, by rw [h1]; congr 1; omega⟩
theorem rig_trans (h : GdT m G) {x y z : Int} (hx : x ∈ nds m) (hy : y ∈ nds m) (hz : z ∈ nds m) (h1 : rig m G x y = true) (h2 : rig m G y z = true) : rig m G x z = true := by
  obtain ⟨a, a1, a2⟩ := rig_iff.1 h1
  obtain ⟨b, b1, b2⟩ := rig_iff.1 h2
  obtain ⟨c, c1, c2⟩ := gg_cl h hx hy hz a1 b1
  obtain ⟨d, d1, d2⟩ := gg_cl h hz hy hx b2 a2
  obtain ⟨e, e1, e2⟩ := gg_cl h hx hz hx c1 d1
  rw [gg_self h hx] at e1
  cases e1
  exact rig_iff.2 ⟨c, c1, by rw [d1]; congr 1; omega⟩
theorem rig_sum (h : GdT m G) {x y z : Int} (hx : x ∈ nds m) (hy : y ∈ nds m) (hz : z ∈ nds m) (h1 : rig m G x y = true) : (∀ b, gg m G y z = some b → ∃ a, gg m G x y = some a ∧ gg m G x z = some (a + b)) := by
  intro b hb
  obtain ⟨a, a1, a2⟩ := rig_iff.1 h1
  obtain ⟨c, c1, c2⟩ := gg_cl h hx hy hz a1 hb
  obtain ⟨d, d1, d2⟩ := gg_cl h hy hx hz a2 c1
  rw [hb] at d1
  cases d1
  exact ⟨a, a1, by rw [c1]; congr 1; omega⟩
theorem rig_sum' (h : GdT m G) {x y z : Int} (hx : x ∈ nds m) (hy : y ∈ nds m) (hz : z ∈ nds m) (h1 : rig m G x y = true) : (∀ b, gg m G z x = some b → ∃ a, gg m G x y = some a ∧ gg m G z y = some (b + a)) := by
  intro b hb
  obtain ⟨a, a1, a2⟩ := rig_iff.1 h1
  obtain ⟨c, c1, c2⟩ := gg_cl h hz hx hy hb a1
  obtain ⟨d, d1, d2⟩ := gg_cl h hz hy hx c1 a2
  rw [hb] at d1
  cases d1
  exact ⟨a, a1, by rw [c1]; congr 1; omega⟩
theorem m_nds : (-1 : Int) ∈ nds m := mem_nds.2 ⟨by omega, by omega⟩
theorem pyI_m1 : pyI (m + 1) (-1) = m := by unfold pyI; rw [if_neg (by omega)]; omega
theorem ear_ok (h : GdT m G) {x : Int} (hx : x ∈ nds m) : gg m G (-1) x = some (ear m G x) ∧ 0 ≤ ear m G x := by
  have hx' := mem_nds.1 hx
  unfold ear gg
  rw [pyI_m1]
  by_cases hx0 : x < 0
  · have : x = -1 := by omega
    subst this
    rw [pyI_m1, h.z m (by omega)]
    exact ⟨rfl, by decide⟩
  · have e : pyI (m + 1) x = x.toNat := by unfold pyI; rw [if_pos (by omega)]
    obtain ⟨y, y0, ey⟩ := h.org x.toNat (by omega)
    rw [e, ey]
    exact ⟨rfl, y0⟩
theorem ear_m1 (h : GdT m G) : ear m G (-1) = 0 := by
  unfold ear
  rw [gg_self h m_nds]; rfl
/-! ### sorted by the earliest times -/
def leN (m : Nat) (G : F) (a b : Int) : Bool := decide (ear m G a < ear m G b ∨ (ear m G a = ear m G b ∧ a ≤ b))
theorem leN_total (a b : Int) : (leN m G a b || leN m G b a) = true := by
  unfold leN; rw [Bool.or_eq_true, decide_eq_true_iff, decide_eq_true_iff]; omega
theorem leN_trans (a b c : Int) (h1 : leN m G a b = true) (h2 : leN m G b c = true) : leN m G a c = true := by
  unfold leN at *; rw [decide_eq_true_iff] at *; omega
theorem leN_anti {a b : Int} (h1 : leN m G a b = true) (h2 : leN m G b a = true) : a = b := by
  unfold leN at *; rw [decide_eq_true_iff] at *; omega
def sortN (m : Nat) (G : F) (xs : List Int) : List Int := xs.mergeSort (leN m G)
/-- a node's group -/
def grp (m : Nat) (G : F) (i : Int) : List Int := sortN m G ((nds m).filter (rig m G i))
theorem mem_grp {i x : Int} : x ∈ grp m G i ↔ x ∈ nds m ∧ rig m G i x = true := by
  unfold grp sortN
  rw [(List.mergeSort_perm _ _).mem_iff, List.mem_filter]
theorem grp_self (h : GdT m G) {i : Int} (hi : i ∈ nds m) : i ∈ grp m G i := mem_grp.2 ⟨hi, rig_refl h hi⟩
theorem grp_sorted (i : Int) : (grp m G i).Pairwise (fun a b => leN m G a b = true) := List.pairwise_mergeSort leN_trans leN_total _
theorem grp_nodup (i : Int) : (grp m G i).Nodup := by
  unfold grp sortN
  rw [(List.mergeSort_perm _ _).nodup_iff]
  exact ((nds_asc m).imp (by intro a b h; show a ≠ b; omega)).filter _
theorem grp_len (i : Int) : (grp m G i).length ≤ m + 1 := by
  unfold grp sortN
  rw [(List.mergeSort_perm _ _).length_eq, ← nds_len m]
  exact List.length_filter_le _ _
theorem grp_eq (h : GdT m G) {i j : Int} (hi : i ∈ nds m) (hj : j ∈ nds m) (r : rig m G i j = true) : grp m G i = grp m G j := by
  unfold grp
  congr 1
  refine List.filter_congr fun x hx => ?_
  rw [Bool.eq_iff_iff]
  exact ⟨fun g => rig_trans h hj hi hx (rig_symm r) g, fun g => rig_trans h hi hj hx r g⟩
def hd (m : Nat) (G : F) (i : Int) : Int := ((grp m G i)[0]?).getD 0
theorem hd_at (h : GdT m G) {i : Int} (hi : i ∈ nds m) : (grp m G i)[0]? = some (hd m G i) ∧ hd m G i ∈ nds m ∧ rig m G i (hd m G i) = true ∧ ∀ x ∈ grp m G i, leN m G (hd m G i) x = true := by
  have hs := grp_self h hi
  have ho := grp_sorted (m := m) (G := G) i
  have hm : ∀ x, x ∈ grp m G i → x ∈ nds m ∧ rig m G i x = true := fun x => mem_grp.1
  unfold hd
  cases e : grp m G i with
  | nil => rw [e] at hs; cases hs
  | cons a r =>
    rw [e] at ho hm
    obtain ⟨o1, o2⟩ := List.pairwise_cons.1 ho
    refine ⟨rfl, (hm a (List.mem_cons_self ..)).1, (hm a (List.mem_cons_self ..)).2, fun x hx => ?_⟩
    rcases List.mem_cons.1 hx with e | hx
    · rw [e]; have := leN_total (m := m) (G := G) a a; rw [Bool.or_self] at this; exact this
    · exact o1 x hx
theorem hd_eq (h : GdT m G) {i j : Int} (hi : i ∈ nds m) (hj : j ∈ nds m) (r : rig m G i j = true) : hd m G i = hd m G j := by
  unfold hd; rw [grp_eq h hi hj r]
theorem hd_hd (h : GdT m G) {i : Int} (hi : i ∈ nds m) : hd m G (hd m G i) = hd m G i := by
  obtain ⟨_, h1, h2, _⟩ := hd_at h hi
  exact (hd_eq h hi h1 h2).symm
theorem hd_rig (h : GdT m G) {i j : Int} (hi : i ∈ nds m) (hj : j ∈ nds m) : hd m G i = hd m G j ↔ rig m G i j = true := by
  constructor
  · intro e
    obtain ⟨_, h1, h2, _⟩ := hd_at h hi
    obtain ⟨_, h3, h4, _⟩ := hd_at h hj
    rw [e] at h2
    exact rig_trans h hi h3 hj h2 (rig_symm h4)
  · exact hd_eq h hi hj
theorem hd_m1 (h : GdT m G) : hd m G (-1) = -1 := by
  obtain ⟨_, h1, h2, h3⟩ := hd_at h (m_nds (m := m))
  have := h3 (-1) (grp_self h m_nds)
  unfold leN at this
  rw [decide_eq_true_iff, ear_m1 h] at this
  have h4 := (ear_ok h h1).2
  have := (mem_nds.1 h1).1
  omega
/-- the heads, ascending -/
def hds (m : Nat) (G : F) : List Int := (nds m).filter fun i => decide (hd m G i = i)
theorem mem_hds {x : Int} : x ∈ hds m G ↔ x ∈ nds m ∧ hd m G x = x := by
  unfold hds
  rw [List.mem_filter, decide_eq_true_iff]
theorem hds_asc : (hds m G).Pairwise (· < ·) := (nds_asc m).filter _
theorem hd_mem (h : GdT m G) {i : Int} (hi : i ∈ nds m) : hd m G i ∈ hds m G := mem_hds.2 ⟨(hd_at h hi).2.1, hd_hd h hi⟩
theorem grp_hd (h : GdT m G) {i : Int} (hi : i ∈ nds m) : grp m G (hd m G i) = grp m G i := (grp_eq h hi (hd_at h hi).2.1 (hd_at h hi).2.2.1).symm
/-! ### the core -/
/-- the ring of a group: the arcs from each to the next, the last one to the first -/
def ring (m : Nat) (G : F) (own : List Int) : List (Int × Int × Int) := if 1 < own.length then (List.range own.length).map fun (c : Nat) =>
  (((L2.atI own ((c : Int) - 1)).getD 0), ((own[c]?).getD 0), ((gg m G ((L2.atI own ((c : Int) - 1)).getD 0) ((own[c]?).getD 0)).getD 0)) else []
def expl (m : Nat) (G : F) (i j : Int) : Bool := (hds m G).any fun k => decide (k ≠ i) && (decide (k ≠ j) && match gg m G i k, gg m G k j, gg m G i j with
  | some a, some b, some c => decide (a + b = c)
  | _, _, _ => false)
def links (m : Nat) (G : F) : List (Int × Int × Int) := (hds m G).flatMap fun i => ((hds m G).filter fun j => decide (i ≠ j) && ((gg m G i j).isSome && !expl m G i j)).map fun j => (i, j, (gg m G i j).getD 0)
def coreAll (m : Nat) (G : F) : List (Int × Int × Int) := ((hds m G).flatMap fun i => ring m G (grp m G i)) ++ links m G
def kept (a : Int × Int × Int) : Bool := decide (a.1 ≠ -1) || decide (a.2.2 ≠ 0)
def core (m : Nat) (G : F) : List (Int × Int × Int) := (sortA (coreAll m G)).filter kept
theorem core_law : sortA ((coreAll m G).filter kept) = core m G := by
  refine sorted_uniq (sortA_sorted _) ((sortA_sorted _).filter _) ?_
  exact (sortA_perm _).trans ((sortA_perm _).filter _).symm
/-! ### pairs of the earliest time and the node, sorted -/
def prD (m : Nat) (G : F) (j : Int) : D := .tup [.int (ear m G j), .int j]
def prP (m : Nat) (G : F) (j : Int) : PyData := .tuple [.int (ear m G j), .int j]
theorem toPR_pr (S : St) (m : Nat) (G : F) (j : Int) : toPR S (prD m G j) = some (prP m G j) := by
  unfold prD prP
  rw [toPR, toPRs, toPRs, toPRs, toPR, toPR]; rfl
theorem toPRs_prs (S : St) (m : Nat) (G : F) : ∀ xs : List Int, toPRs S (xs.map (prD m G)) = some (xs.map (prP m G))
  | [] => by rw [List.map_nil, toPRs]; rfl
  | a :: xs => by rw [List.map_cons, toPRs, toPR_pr, toPRs_prs S m G xs]; rfl
theorem lt_pr (m : Nat) (G : F) (a b : Int) : PySem.W.dataLt (prP m G a) (prP m G b) = decide (ear m G a < ear m G b ∨ (ear m G a = ear m G b ∧ a < b)) := by
  unfold prP
  rw [PySem.W.dataLt_tuple, PySem.W.dataLt_cons (by simp [PySem.W.alike]), PySem.W.dataLt_cons (by simp [PySem.W.alike]), PySem.W.dataLt_int, PySem.W.dataLt_int]
  have e : PyProof.Rows.lexLt itemOrd (PySem.W.keyToksAll []) (PySem.W.keyToksAll []) = false := lex_irrefl _
  rw [e]
  simp only [PyData.eqv, beq_iff_eq]
  by_cases h1 : ear m G a = ear m G b <;> by_cases h2 : a = b <;> simp [h1, h2]
theorem sortD_prs (S : St) (m : Nat) (G : F) (xs : List Int) : sortD S (xs.map (prD m G)) = (sortN m G xs).map (prD m G) := by
  unfold sortD sortN
  refine (PySem.W.sort_maps (prD m G) fun a _ b _ => ?_).symm
  rw [PySem.W.dataLe_eq]
  dsimp only
  rw [toPR_pr, toPR_pr]
  show leN m G a b = !PySem.W.dataLt (prP m G b) (prP m G a)
  rw [lt_pr]
  unfold leN
  rw [Bool.eq_iff_iff, Bool.not_eq_true', decide_eq_true_iff, decide_eq_false_iff_not]
  omega
theorem b_sortN {n : Nat} {S : St} {m : Nat} {G : F} {xs : List Int} {Q : QD} (h : S[n]? = some (.lst (xs.map (prD m G)))) (q : Q (.ref S.length) (S ++ [.lst ((sortN m G xs).map (prD m G))])) : bltW .sorted [.ref n] S Q := by
  refine ⟨xs.map (prD m G), xs.map (prP m G), seqOf_lst h, toPRs_prs S m G xs, PySem.W.AllAlike.of (fun a b => by unfold prP; simp [PySem.W.alike, PySem.W.alikeAll]), PySem.W.Sortable.tuples fun a => ⟨_, _, rfl⟩, fun p hp => ?_, ?_⟩
  · obtain ⟨a, -, rfl⟩ := List.mem_map.1 hp
    unfold prP
    simp [PyData.depth, PyData.depthAll]
  · rw [sortD_prs]; exact q
def grpD (m : Nat) (G : F) (i : Int) : D := .tup ((grp m G i).map D.int)
theorem l_lenTab {S : St} {n : Nat} {f : F} {Q : QD} (q : Q (.int n) S) : bltW .len [tabD n f] S Q := by
  unfold tabD
  refine l_lenT ?_
  rw [List.length_map, List.length_range]
  exact q
theorem nds_rg (m : Nat) : rgD (-1) m = (nds m).map D.int := by
  refine List.ext_getElem? fun c => ?_
  rcases Nat.lt_or_ge c (m + 1) with h | h
  · rw [List.getElem?_map, nds_at h]
    have hl : c < (rgD (-1) (m : Int)).length := by rw [rgD_len]; omega
    rw [List.getElem?_eq_getElem hl]
    obtain ⟨_, e⟩ := rgD_get (List.getElem?_eq_getElem hl)
    rw [e]
    show some (D.int (-1 + (c : Int))) = some (D.int ((c : Int) - 1))
    rw [show (-1 + (c : Int)) = (c : Int) - 1 by omega]
  · rw [List.getElem?_eq_none (by rw [rgD_len]; omega), List.getElem?_eq_none (by rw [List.length_map, nds_len]; exact h)]
theorem filter_next {α : Type} {p : α → Bool} {xs : List α} {c : Nat} {x : α} (h : xs[c]? = some x) : (xs.take (c + 1)).filter p = (xs.take c).filter p ++ if p x = true then [x] else [] := by
  rw [take_next h, List.filter_append]
  congr 1
  rw [List.filter_cons, List.filter_nil]
def ringA (m : Nat) (G : F) (own : List Int) (c : Nat) : Int × Int × Int := (((L2.atI own ((c : Int) - 1)).getD 0), ((own[c]?).getD 0), ((gg m G ((L2.atI own ((c : Int) - 1)).getD 0) ((own[c]?).getD 0)).getD 0))
theorem ring_def (m : Nat) (G : F) (own : List Int) : ring m G own = if 1 < own.length then (List.range own.length).map (ringA m G own) else [] := rfl
theorem ring_at {own : List Int} {c : Nat} (h : c < own.length) : ∃ y z, L2.atI own ((c : Int) - 1) = some y ∧ own[c]? = some z ∧ y ∈ own ∧ z ∈ own := by
  obtain ⟨y, hy⟩ := atI_len (xs := own) (i := (c : Int) - 1) (by omega) (by omega)
  exact ⟨y, own[c], hy, List.getElem?_eq_getElem h, atI_mem hy, List.getElem_mem h⟩
def lkC (m : Nat) (G : F) (i j : Int) : Bool := decide (i ≠ j) && ((gg m G i j).isSome && !expl m G i j)
def lkA (m : Nat) (G : F) (i j : Int) : Int × Int × Int := (i, j, (gg m G i j).getD 0)
def lkF (m : Nat) (G : F) (i : Int) : List (Int × Int × Int) := ((hds m G).filter (lkC m G i)).map (lkA m G i)
def rgF (m : Nat) (G : F) (i : Int) : List (Int × Int × Int) := ring m G (grp m G i)
theorem coreAll_def (m : Nat) (G : F) : coreAll m G = (hds m G).flatMap (rgF m G) ++ (hds m G).flatMap (lkF m G) := rfl
theorem coreAll_ok {m : Nat} {G : F} (g : GdT m G) : ∀ a ∈ coreAll m G, a.1 ∈ nds m ∧ a.2.1 ∈ nds m ∧ gg m G a.1 a.2.1 = some a.2.2 := fun a ha => by
  rw [coreAll_def] at ha
  rcases List.mem_append.1 ha with ha | ha
  · obtain ⟨i, hi, ha⟩ := List.mem_flatMap.1 ha
    obtain ⟨hin, -⟩ := mem_hds.1 hi
    unfold rgF at ha
    rw [ring_def] at ha
    split at ha
    · obtain ⟨c, hc, rfl⟩ := List.mem_map.1 ha
      rw [List.mem_range] at hc
      obtain ⟨y, z, hy, hz, my, mz⟩ := ring_at hc
      obtain ⟨y1, y2⟩ := mem_grp.1 my
      obtain ⟨z1, z2⟩ := mem_grp.1 mz
      obtain ⟨b, hb, -⟩ := rig_iff.1 (rig_trans g y1 hin z1 (rig_symm y2) z2)
      unfold ringA
      rw [hy, hz]
      dsimp only [Option.getD_some]
      rw [hb]
      exact ⟨y1, z1, rfl⟩
    · cases ha
  · obtain ⟨i, hi, ha⟩ := List.mem_flatMap.1 ha
    obtain ⟨j, hj, rfl⟩ := List.mem_map.1 ha
    obtain ⟨hj, hc⟩ := List.mem_filter.1 hj
    unfold lkC at hc
    rw [Bool.and_eq_true, Bool.and_eq_true] at hc
    obtain ⟨b, hb⟩ := Option.isSome_iff_exists.1 hc.2.1
    refine ⟨(mem_hds.1 hi).1, (mem_hds.1 hj).1, ?_⟩
    show gg m G i j = some ((gg m G i j).getD 0)
    rw [hb]; rfl
theorem flat_len {α β : Type} {f : α → List β} {b : Nat} : ∀ {xs : List α}, (∀ x ∈ xs, (f x).length ≤ b) → (xs.flatMap f).length ≤ b * xs.length
  | [], _ => Nat.zero_le _
  | x :: xs, h => by
    have := flat_len (xs := xs) fun y hy => h y (List.mem_cons_of_mem _ hy)
    have := h x (List.mem_cons_self ..)
    rw [List.flatMap_cons, List.length_append, List.length_cons, Nat.mul_succ]
    omega
theorem hds_len (m : Nat) (G : F) : (hds m G).length ≤ m + 1 := by unfold hds; rw [← nds_len m]; exact List.length_filter_le _ _
theorem rg_len (m : Nat) (G : F) (i : Int) : (rgF m G i).length ≤ m + 1 := by
  unfold rgF; rw [ring_def]
  split
  · rw [List.length_map, List.length_range]; exact grp_len i
  · exact Nat.zero_le _
theorem lk_len (m : Nat) (G : F) (i : Int) : (lkF m G i).length ≤ m + 1 := by
  unfold lkF
  rw [List.length_map]
  exact Nat.le_trans (List.length_filter_le _ _) (hds_len m G)
theorem sq_le {m a : Nat} (hm : m ≤ 8) (ha : a ≤ m + 1) : (m + 1) * a ≤ 81 := Nat.le_trans (Nat.mul_le_mul (show m + 1 ≤ 9 by omega) (show a ≤ 9 by omega)) (by decide)
theorem flat_next {α β : Type} {f : α → List β} {xs : List α} {c : Nat} {x : α} (h : xs[c]? = some x) : (xs.take (c + 1)).flatMap f = (xs.take c).flatMap f ++ f x := by
  rw [take_next h, List.flatMap_append, List.flatMap_cons, List.flatMap_nil, List.append_nil]
theorem enm_get {xs : List D} {t : Nat} {y : D} (h : ((List.range xs.length).zipWith (fun i d => D.tup [.int (i : Nat), d]) xs)[t]? = some y) : ∃ x, xs[t]? = some x ∧ y = .tup [.int (t : Nat), x] := by
  rw [List.getElem?_zipWith] at h
  cases e : xs[t]? with
  | none =>
    rw [e] at h
    cases e2 : (List.range xs.length)[t]? <;> rw [e2] at h <;> cases h
  | some x =>
    have ht := (List.getElem?_eq_some_iff.1 e).1
    rw [e, List.getElem?_range ht] at h
    exact ⟨x, rfl, (Option.some.inj h).symm⟩
end Flx

end
section
set_option Elab.async false
set_option linter.all false
set_option autoImplicit false
set_option maxRecDepth 100000
/-! FlxTool: small lemmas for walks; frames found by themselves. -/
namespace Flx
open PySem PySem.Spec PyProof.Rows FNet
theorem non_pl (k : Nat) : plD k .non := by cases k <;> exact trivial
theorem bl_pl (k : Nat) (b : Bool) : plD k (.bl b) := by cases k <;> exact trivial
theorem int_pl (k : Nat) (i : Int) : plD k (.int i) := by cases k <;> exact trivial
theorem ints_pl (k : Nat) {v : List Int} (h : v.length < 2 ^ 30) : plD (k + 1) (.tup (v.map .int)) :=
  ⟨by rw [List.length_map]; exact h, fun d hd => by obtain ⟨x, -, rfl⟩ := List.mem_map.1 hd; exact int_pl _ _⟩
theorem zip_get {xs ys : List D} {f : D → D → D} {c : Nat} {x : D} (h : (List.zipWith f xs ys)[c]? = some x) : ∃ d e, xs[c]? = some d ∧ ys[c]? = some e ∧ x = f d e := by
  rw [List.getElem?_zipWith] at h
  cases h1 : xs[c]? with
  | none => rw [h1] at h; simp at h
  | some d =>
    cases h2 : ys[c]? with
    | none => rw [h1, h2] at h; simp at h
    | some e => rw [h1, h2] at h; exact ⟨d, e, rfl, rfl, (Option.some.inj h).symm⟩
theorem rowD_of {n j : Nat} {g : Nat → Option Int} {d : D} (h : (rowD n g)[j]? = some d) : j < n ∧ d = oD (g j) := by
  have : j < n := by
    rcases Nat.lt_or_ge j n with h' | h'
    · exact h'
    · rw [List.getElem?_eq_none (by rw [rowD_len]; exact h')] at h; cases h
  rw [rowD_get this] at h
  exact ⟨this, (Option.some.inj h).symm⟩
theorem tabR_of {n i : Nat} {f : F} {d : D} (h : ((List.range n).map fun i => D.tup (rowD n (f i)))[i]? = some d) : i < n ∧ d = .tup (rowD n (f i)) := by
  obtain ⟨j, hj, rfl⟩ := get_of_map h
  have hi : i < n := by
    rcases Nat.lt_or_ge i n with h' | h'
    · exact h'
    · rw [List.getElem?_eq_none (by rw [List.length_range]; exact h')] at hj; cases hj
  rw [List.getElem?_range hi] at hj
  cases hj
  exact ⟨hi, rfl⟩
/-- which of two differing entries is the looser one: the first? -/
def isL : Option Int → Option Int → Bool
  | none, _ => true
  | some _, none => false
  | some x, some y => decide (x < y)
/-- what is drawn between -/
def pxF (m : Nat) (L U : F) (i j : Int) : Int :=
  match L (pyI (m + 1) i) (pyI (m + 1) j) with
  | some x => x
  | none => match L (pyI (m + 1) j) (pyI (m + 1) i) with
    | none => (U (pyI (m + 1) i) (pyI (m + 1) j)).getD 0 - 1
    | some y => min ((U (pyI (m + 1) i) (pyI (m + 1) j)).getD 0 - 1) (-y)
def pinD (m : Nat) (i j x : Int) (G : F) : D :=
  match pin (m + 1) i j x G with
  | none => .non
  | some H => .tup (rowD m (H m))
/-- what a parting at (i, j) tells -/
def prtD (m : Nat) (G1 G2 : F) (i j : Int) : D :=
  if isL (G1 (pyI (m + 1) i) (pyI (m + 1) j)) (G2 (pyI (m + 1) i) (pyI (m + 1) j)) = true then .tup [.int 0, pinD m i j (pxF m G1 G2 i j) G1]
  else .tup [.int 1, pinD m i j (pxF m G2 G1 i j) G2]
/-- the first pair at which two tables differ -/
structure Fst (m : Nat) (G1 G2 : F) (i j : Int) : Prop where
  i0 : -1 ≤ i
  i1 : i < m
  j0 : -1 ≤ j
  j1 : j < m
  ne : G1 (pyI (m + 1) i) (pyI (m + 1) j) ≠ G2 (pyI (m + 1) i) (pyI (m + 1) j)
  pre : ∀ i' j' : Int, -1 ≤ i' → i' < m → -1 ≤ j' → j' < m → (i' < i ∨ (i' = i ∧ j' < j)) → G1 (pyI (m + 1) i') (pyI (m + 1) j') = G2 (pyI (m + 1) i') (pyI (m + 1) j')
theorem Fst.uniq {m : Nat} {G1 G2 : F} {i j i' j' : Int} (h : Fst m G1 G2 i j) (h' : Fst m G1 G2 i' j') : i = i' ∧ j = j' := by
  by_cases c : i' < i ∨ (i' = i ∧ j' < j)
  · exact absurd (h.pre i' j' h'.i0 h'.i1 h'.j0 h'.j1 c) h'.ne
  · by_cases c' : i < i' ∨ (i = i' ∧ j < j')
    · exact absurd (h'.pre i j h.i0 h.i1 h.j0 h.j1 c') h.ne
    · omega
theorem agr_py {m : Nat} {G1 G2 : F} (h : ∀ i j : Int, -1 ≤ i → i < m → -1 ≤ j → j < m → G1 (pyI (m + 1) i) (pyI (m + 1) j) = G2 (pyI (m + 1) i) (pyI (m + 1) j)) : agr (m + 1) G1 G2 := by
  have key : ∀ a, a < m + 1 → ∃ i : Int, -1 ≤ i ∧ i < m ∧ pyI (m + 1) i = a := fun a ha => by
    by_cases e : a = m
    · exact ⟨-1, by omega, by omega, by unfold pyI; rw [if_neg (by omega)]; omega⟩
    · exact ⟨a, by omega, by omega, by unfold pyI; rw [if_pos (by omega)]; omega⟩
  intro a b ha hb
  obtain ⟨i, i0, i1, rfl⟩ := key a ha
  obtain ⟨j, j0, j1, rfl⟩ := key b hb
  exact h i j i0 i1 j0 j1
section
variable {m : Nat} {as bs : List (Int × Int × Int)}
theorem gdT (hc : calm (m + 1) (lk (m + 1) (m + 1) (netF m as))) : GdT m (lk (m + 1) (m + 1) (netF m as)) := by
  obtain ⟨cl, z⟩ := calm_closed (netF_dgood m as) hc
  refine ⟨cl, z, fun j hj => ?_⟩
  obtain ⟨x, hx⟩ := netF_last as hj
  have h1 := arc_bst (m := m) (as := as) (a := (-1, (j : Int), 0)) (List.mem_append_right _ (List.mem_map.2 ⟨j, List.mem_range.2 hj, rfl⟩))
  dsimp only at h1
  rw [pyI_m1, show pyI (m + 1) (j : Int) = j by unfold pyI; rw [if_pos (by omega)]; omega] at h1
  have h2 := ole_trans h1 (bst_le as m j (by omega) (by omega))
  rw [hx] at h2
  exact ⟨x, h2, hx⟩
theorem core_len (hm : m ≤ 8) (G : F) : (core m G).length ≤ 162 := by
  refine Nat.le_trans (List.length_filter_le _ _) ?_
  rw [(sortA_perm _).length_eq, coreAll_def, List.length_append]
  have h1 := Nat.le_trans (flat_len (f := rgF m G) (xs := hds m G) (b := m + 1) fun x _ => rg_len m G x) (sq_le hm (hds_len m G))
  have h2 := Nat.le_trans (flat_len (f := lkF m G) (xs := hds m G) (b := m + 1) fun x _ => lk_len m G x) (sq_le hm (hds_len m G))
  omega
theorem core_pl (k : Nat) (hm : m ≤ 8) (G : F) : plD (k + 2) (.tup ((core m G).map arcD)) := by
  refine ⟨by rw [List.length_map]; have := core_len hm G; omega, fun d hd => ?_⟩
  obtain ⟨a, -, rfl⟩ := List.mem_map.1 hd
  refine ⟨by simp only [List.length_cons, List.length_nil]; decide, fun d hd => ?_⟩
  simp only [List.mem_cons, List.not_mem_nil, or_false] at hd
  rcases hd with rfl | rfl | rfl <;> exact int_pl _ _
theorem pin_some (hc : calm (m + 1) (lk (m + 1) (m + 1) (netF m as))) {i j x : Int} (i0 : -1 ≤ i) (i1 : i < m) (j0 : -1 ≤ j) (j1 : j < m)
    (h1 : ole (lk (m + 1) (m + 1) (netF m as) (pyI (m + 1) i) (pyI (m + 1) j)) (some x)) (h2 : ole (lk (m + 1) (m + 1) (netF m as) (pyI (m + 1) j) (pyI (m + 1) i)) (some (-x))) :
    ∃ H, pin (m + 1) i j x (lk (m + 1) (m + 1) (netF m as)) = some H := by
  obtain ⟨cl, z⟩ := calm_closed (netF_dgood m as) hc
  have hI : pyI (m + 1) i < m + 1 := pyI_lt (by omega) (by omega)
  have hJ : pyI (m + 1) j < m + 1 := pyI_lt (by omega) (by omega)
  generalize lk (m + 1) (m + 1) (netF m as) = G at *
  unfold pin
  rw [if_neg, if_neg]
  · exact ⟨_, rfl⟩
  · unfold tight
    rw [z _ hI, z _ hJ]
    cases e : G (pyI (m + 1) i) (pyI (m + 1) j) with
    | none => show ¬ 0 < (0 + x + 0) + -x; omega
    | some g =>
      rw [e] at h1
      have h1 : g ≤ x := h1
      have e3 : omax (some g) (oadd (oadd (some 0) (some x)) (some 0)) = some x := by
        show some (if g < 0 + x + 0 then 0 + x + 0 else g) = some x
        congr 1
        split <;> omega
      rw [e3]
      show ¬ 0 < x + -x
      omega
  · cases e : G (pyI (m + 1) j) (pyI (m + 1) i) with
    | none => show ¬ (0 : Int) < 0; omega
    | some g =>
      rw [e] at h2
      have h2 : g ≤ -x := h2
      show ¬ 0 < g + x
      omega
/-- a told difference below an entry of the other table: a schedule of the one, none of the other -/
theorem told_at (ao : ∀ a ∈ as, okA m a) (bo : ∀ a ∈ bs, okA m a) (hca : calm (m + 1) (lk (m + 1) (m + 1) (netF m as))) {i j : Int} (i0 : -1 ≤ i) (i1 : i < m) (j0 : -1 ≤ j) (j1 : j < m)
    (hl : isL (lk (m + 1) (m + 1) (netF m as) (pyI (m + 1) i) (pyI (m + 1) j)) (lk (m + 1) (m + 1) (netF m bs) (pyI (m + 1) i) (pyI (m + 1) j)) = true)
    (hne : lk (m + 1) (m + 1) (netF m as) (pyI (m + 1) i) (pyI (m + 1) j) ≠ lk (m + 1) (m + 1) (netF m bs) (pyI (m + 1) i) (pyI (m + 1) j)) :
    ∃ v : List Int, pinD m i j (pxF m (lk (m + 1) (m + 1) (netF m as)) (lk (m + 1) (m + 1) (netF m bs)) i j) (lk (m + 1) (m + 1) (netF m as)) = .tup (v.map .int) ∧ Sch m as v ∧ ¬ Sch m bs v := by
  obtain ⟨cl, z⟩ := calm_closed (netF_dgood m as) hca
  have hI : pyI (m + 1) i < m + 1 := pyI_lt (by omega) (by omega)
  have hJ : pyI (m + 1) j < m + 1 := pyI_lt (by omega) (by omega)
  have key : ∃ u, lk (m + 1) (m + 1) (netF m bs) (pyI (m + 1) i) (pyI (m + 1) j) = some u ∧ pxF m (lk (m + 1) (m + 1) (netF m as)) (lk (m + 1) (m + 1) (netF m bs)) i j < u ∧
      ole (lk (m + 1) (m + 1) (netF m as) (pyI (m + 1) i) (pyI (m + 1) j)) (some (pxF m (lk (m + 1) (m + 1) (netF m as)) (lk (m + 1) (m + 1) (netF m bs)) i j)) ∧
      ole (lk (m + 1) (m + 1) (netF m as) (pyI (m + 1) j) (pyI (m + 1) i)) (some (-pxF m (lk (m + 1) (m + 1) (netF m as)) (lk (m + 1) (m + 1) (netF m bs)) i j)) := by
    have c5 := cl _ _ _ hI hJ hJ
    have zi := z _ hI
    have zj := z _ hJ
    unfold pxF
    generalize lk (m + 1) (m + 1) (netF m as) = G at *
    generalize lk (m + 1) (m + 1) (netF m bs) = U at *
    cases e1 : G (pyI (m + 1) i) (pyI (m + 1) j) with
    | none =>
      rw [e1] at hne
      cases e2 : U (pyI (m + 1) i) (pyI (m + 1) j) with
      | none => exact absurd e2.symm hne
      | some u =>
        cases e3 : G (pyI (m + 1) j) (pyI (m + 1) i) with
        | none => exact ⟨u, rfl, by show u - 1 < u; omega, trivial, trivial⟩
        | some y => exact ⟨u, rfl, by show min (u - 1) (-y) < u; omega, trivial, by show y ≤ -min (u - 1) (-y); omega⟩
    | some g =>
      rw [e1] at hl hne
      cases e2 : U (pyI (m + 1) i) (pyI (m + 1) j) with
      | none => rw [e2] at hl; cases hl
      | some u =>
        rw [e2] at hl
        have hl := of_decide_eq_true hl
        refine ⟨u, rfl, hl, Int.le_refl _, ?_⟩
        cases e3 : G (pyI (m + 1) j) (pyI (m + 1) i) with
        | none => exact trivial
        | some y =>
          rw [e1, e3, zj] at c5
          have c5 : y + g ≤ 0 := c5
          show y ≤ -g
          omega
  obtain ⟨u, hu, hx, h1, h2⟩ := key
  generalize pxF m (lk (m + 1) (m + 1) (netF m as)) (lk (m + 1) (m + 1) (netF m bs)) i j = x at *
  obtain ⟨H, hH⟩ := pin_some hca i0 i1 j0 j1 h1 h2
  obtain ⟨e, he, hex, hek, -⟩ := (pin_law (x := x) ao hca i0 i1 j0 j1).2 H hH
  refine ⟨e, ?_, he, fun hb => ?_⟩
  · unfold pinD
    rw [hH]
    show D.tup (rowD m (H m)) = _
    congr 1
    apply List.ext_getElem?
    intro k
    by_cases hk : k < m
    · rw [rowD_get hk, hek k hk, List.getElem?_map, List.getElem?_eq_getElem (by rw [he.len]; exact hk)]
      unfold val
      rw [if_neg (by omega), show ((k : Int)).toNat = k by omega, List.getElem?_eq_getElem (by rw [he.len]; exact hk)]
      rfl
    · rw [List.getElem?_eq_none (by rw [rowD_len]; omega), List.getElem?_eq_none (by rw [List.length_map, he.len]; omega)]
  · have := sch_le bo hb i0 i1 j0 j1 hu
    omega
/-- the times keep the table -/
theorem times_le {ts : List Int} (hl : ts.length = m + 1) (hs : smallT ts) (hz : L2.atI ts (-1) = some 0) (ak : ∀ d ∈ as.map arcD, keepsD ts d) {a b : Nat} (ha : a < m + 1) (hb : b < m + 1) :
    ole (lk (m + 1) (m + 1) (netF m as) a b) (some ((ts[b]?).getD 0 - (ts[a]?).getD 0)) := by
  refine lk_below (H := fun a b => some ((ts[b]?).getD 0 - (ts[a]?).getD 0)) (fun k a b _ _ _ => by show ((ts[k]?).getD 0 - (ts[a]?).getD 0) + ((ts[b]?).getD 0 - (ts[k]?).getD 0) ≤ (ts[b]?).getD 0 - (ts[a]?).getD 0; omega) ?_ _ (Nat.le_refl _) a b ha hb
  refine arcs_below _ _ (fun u v hu hv => ?_) fun a ha => ?_
  · rw [ini_at]
    split
    · rename_i h
      rcases h.2 with rfl | rfl
      · show (0 : Int) ≤ _ - _; omega
      · have e : ts[u]? = some 0 := by
          have := atI_pyI hz
          rw [hl] at this
          rwa [show pyI (u + 1) (-1) = u by unfold pyI; rw [if_neg (by omega)]; omega] at this
        show (0 : Int) ≤ (ts[v]?).getD 0 - (ts[u]?).getD 0
        rw [e, List.getElem?_eq_getElem (show v < ts.length by omega)]
        have := (hs _ (List.getElem_mem (show v < ts.length by omega))).1
        show (0 : Int) ≤ ts[v] - 0
        omega
    · trivial
  · obtain ⟨⟨p, q, w⟩, hm, rfl⟩ := List.mem_map.1 ha
    obtain ⟨i, j, w', x, y, e, hx, hy, hw⟩ := ak _ (List.mem_map_of_mem hm)
    unfold arcD at e
    injection e with e
    injection e with e1 e
    injection e with e2 e
    injection e with e3 e
    injection e1 with e1
    injection e2 with e2
    injection e3 with e3
    dsimp only at e1 e2 e3
    subst e1; subst e2; subst e3
    have h1 := atI_pyI hx
    have h2 := atI_pyI hy
    rw [hl] at h1 h2
    show w ≤ (ts[pyI (m + 1) q]?).getD 0 - (ts[pyI (m + 1) p]?).getD 0
    rw [h1, h2]
    exact hw
/-- covering, by schedules -/
theorem cover_sch (ao : ∀ a ∈ as, okA m a) (bo : ∀ a ∈ bs, okA m a) (hcb : calm (m + 1) (lk (m + 1) (m + 1) (netF m bs))) (hs : ∀ i k, i < m + 1 → k < m + 1 → ∃ x, lk (m + 1) (m + 1) (netF m bs) i k = some x) :
    (∀ v, Sch m bs v → Sch m as v) ↔ ∀ i j, i < m + 1 → j < m + 1 → ole (lk (m + 1) (m + 1) (netF m as) i j) (lk (m + 1) (m + 1) (netF m bs) i j) := by
  constructor
  · intro h i j hi hj
    have h1 : ole (lk (m + 1) (m + 1) (netF m as) i j) (some (pot m (frm m (lk (m + 1) (m + 1) (netF m bs)) i) j - pot m (frm m (lk (m + 1) (m + 1) (netF m bs)) i) i)) := sch_tab ao (h _ (sch_from bo hcb hi (fun k hk => hs i k hi hk))) i j hi hj
    obtain ⟨cl, z⟩ := calm_closed (netF_dgood m bs) hcb
    obtain ⟨x, hx⟩ := hs i j hi hj
    obtain ⟨y, hy⟩ := hs i m hi (by omega)
    have hz := z i hi
    have pv : ∀ k, k < m + 1 → pot m (frm m (lk (m + 1) (m + 1) (netF m bs)) i) k = (lk (m + 1) (m + 1) (netF m bs) i k).getD 0 - (lk (m + 1) (m + 1) (netF m bs) i m).getD 0 := fun k hk => by
      unfold pot frm
      by_cases e : k < m
      · rw [if_pos e, List.getElem?_map, List.getElem?_range e]; rfl
      · have : k = m := by omega
        subst this
        rw [if_neg e]; omega
    rw [pv i hi, pv j hj, hx, hz] at h1
    rw [hx]
    refine ole_trans h1 ?_
    show x - _ - (0 - _) ≤ x
    omega
  · intro h v hv
    refine ⟨hv.len, hv.nn, fun a ha => ?_⟩
    obtain ⟨⟨i0, i1⟩, j0, j1⟩ := ao a ha
    have h1 := arcs_mem (f := ini m (m + 1)) (as.map (natA (m + 1))) (ini m (m + 1)) (natA (m + 1) a) (List.mem_map_of_mem ha)
    have h2 := ole_trans (ole_trans h1 (lk_le (m + 1) (m + 1) (netF m as) _ _)) (h _ _ (pyI_lt (by omega) (by omega)) (pyI_lt (by omega) (by omega)))
    have h3 := ole_trans h2 (sch_tab bo hv _ _ (pyI_lt (by omega) (by omega)) (pyI_lt (by omega) (by omega)))
    have h3 : a.2.2 ≤ pot m v (pyI (m + 1) a.2.1) - pot m v (pyI (m + 1) a.1) := h3
    rw [pot_val i0 i1, pot_val j0 j1] at h3
    exact h3
end
theorem eqB_oD (S : St) (a b : Option Int) : Flx.eqB S (oD a) (oD b) = some (decide (a = b)) := by
  cases a with
  | none => cases b with
    | none => rfl
    | some y => rw [eqB_some (p := .none) (q := .int y) rfl rfl (by decide) (shaped_of (by rw [PyData.canLay0]) (by rw [PyData.depth]; omega))]; rfl
  | some x => cases b with
    | none => rw [eqB_some (p := .int x) (q := .none) rfl rfl (shaped_of (by rw [PyData.canLay0]) (by rw [PyData.depth]; omega)) (by decide)]; rfl
    | some y =>
      rw [show oD (some x) = D.int x from rfl, show oD (some y) = D.int y from rfl, eqB_int]
      congr 1
      by_cases h : x = y
      · subst h; simp
      · rw [decide_eq_false h, decide_eq_false (fun e => h (Option.some.inj e))]
theorem c_neO {S : St} {a b : Option Int} {Q : Bool → St → Prop} (q : Q (!decide (a = b)) S) : cmpW .ne (oD a) (oD b) S Q := c_ne (eqB_oD S a b) q
/-! a table of rows, compared -/
def oP : Option Int → PyData
  | none => .none
  | some i => .int i
def rwP (n : Nat) (g : Nat → Option Int) : List PyData := (List.range n).map fun j => oP (g j)
theorem toP_oD (x : Option Int) : toP (oD x) = some (oP x) := by cases x <;> rfl
theorem toPs_map {α : Type} {f : α → D} {g : α → PyData} (h : ∀ x, toP (f x) = some (g x)) : ∀ xs : List α, toPs (xs.map f) = some (xs.map g)
  | [] => by rw [List.map_nil, toPs]; rfl
  | x :: xs => by rw [List.map_cons, toPs, h x, toPs_map h xs]; rfl
theorem toPRs_map {S : St} {α : Type} {f : α → D} {g : α → PyData} : ∀ xs : List α, (∀ x ∈ xs, toPR S (f x) = some (g x)) → toPRs S (xs.map f) = some (xs.map g)
  | [], h => by rw [List.map_nil, toPRs]; rfl
  | x :: xs, h => by rw [List.map_cons, toPRs, h x (List.mem_cons_self ..), toPRs_map xs fun y hy => h y (List.mem_cons_of_mem _ hy)]; rfl
theorem Rws.toPS {S : St} {r b n : Nat} {f : F} (h : Rws S r b n f) : Flx.toPS S (.ref r) = some (.list ((List.range n).map fun i => .list (rwP n (f i)))) := by
  show ((seqOf S r).bind fun xs => (toPRs S xs).map PyData.list) = _
  rw [seqOf_lst h.top]
  show (toPRs S ((List.range n).map _)).map PyData.list = _
  rw [toPRs_map (g := fun i => .list (rwP n (f i))) _ fun i hi => ?_]
  · rfl
  · rw [List.mem_range] at hi
    rw [toPR, seqOf_lst (h.row i hi)]
    show (toPs ((List.range n).map _)).map PyData.list = _
    rw [toPs_map (g := fun j => oP (f i j)) fun j => toP_oD _]
    rfl
theorem lay_all : ∀ ps : List PyData, (∀ p ∈ ps, p.canLay0 = true) → PyData.canLayAll0 ps = true
  | [], h => by rw [PyData.canLayAll0]
  | p :: ps, h => by rw [PyData.canLayAll0, h p (List.mem_cons_self ..), lay_all ps fun q hq => h q (List.mem_cons_of_mem _ hq)]; rfl
theorem depth_all {k : Nat} : ∀ ps : List PyData, (∀ p ∈ ps, p.depth ≤ k) → PyData.depthAll ps ≤ k
  | [], h => by rw [PyData.depthAll]; exact Nat.zero_le _
  | p :: ps, h => by rw [PyData.depthAll]; exact Nat.max_le.2 ⟨h p (List.mem_cons_self ..), depth_all ps fun q hq => h q (List.mem_cons_of_mem _ hq)⟩
theorem Rws.eqB {S : St} {r b n r' b' : Nat} {f g : F} (h : Rws S r b n f) (h' : Rws S r' b' n g) (e : agr n f g) : Flx.eqB S (.ref r) (.ref r') = some true := by
  have h2 := h'.toPS
  rw [show ((List.range n).map fun i => PyData.list (rwP n (g i))) = (List.range n).map fun i => PyData.list (rwP n (f i)) from by
    apply List.map_congr_left
    intro i hi
    rw [List.mem_range] at hi
    congr 1
    apply List.map_congr_left
    intro j hj
    rw [List.mem_range] at hj
    rw [e i j hi hj]] at h2
  have c0 : ∀ x : Option Int, (oP x).canLay0 = true ∧ (oP x).depth ≤ 0 := fun x => by cases x <;> exact ⟨by rw [oP, PyData.canLay0], by rw [oP, PyData.depth]; exact Nat.le_refl _⟩
  have c1 : (PyData.list ((List.range n).map fun i => PyData.list (rwP n (f i)))).canLay0 = true := by
    rw [PyData.canLay0]
    refine lay_all _ fun p hp => ?_
    obtain ⟨i, -, rfl⟩ := List.mem_map.1 hp
    rw [PyData.canLay0]
    refine lay_all _ fun p hp => ?_
    obtain ⟨j, -, rfl⟩ := List.mem_map.1 hp
    exact (c0 _).1
  have d1 : (PyData.list ((List.range n).map fun i => PyData.list (rwP n (f i)))).depth ≤ 64 := by
    rw [PyData.depth]
    have : PyData.depthAll ((List.range n).map fun i => PyData.list (rwP n (f i))) ≤ 1 := depth_all _ fun p hp => by
      obtain ⟨i, -, rfl⟩ := List.mem_map.1 hp
      rw [PyData.depth]
      have : PyData.depthAll (rwP n (f i)) ≤ 0 := depth_all _ fun p hp => by
        obtain ⟨j, -, rfl⟩ := List.mem_map.1 hp
        exact (c0 _).2
      omega
    omega
  have s := shaped_of c1 d1
  rw [eqB_some h.toPS h2 s s, SeqAt.eqv_refl _ c1]
end Flx

end
set_option Elab.async false
set_option linter.all false
set_option maxRecDepth 100000
set_option autoImplicit false
/-! the defs of the law and of what it calls, printed by gen.py -/
namespace Law
open Flx
abbrev i_extended : Nat := 0
abbrev i_tightened : Nat := 1
abbrev i_earliest_of : Nat := 2
abbrev i_with_difference : Nat := 3
abbrev i_schedule_at : Nat := 4
abbrev i_are_rigid : Nat := 5
abbrev i_groups_of : Nat := 6
abbrev i_is_explained : Nat := 7
abbrev i_core_of : Nat := 8
abbrev i_covers : Nat := 9
abbrev i_parting : Nat := 10
abbrev i_parting_at : Nat := 11
abbrev i__law_tape : Nat := 12
abbrev i__law_draw : Nat := 13
abbrev i__law_pick : Nat := 14
abbrev i__law_turns : Nat := 15
abbrev i__law_shuffled : Nat := 16
abbrev i__law_same : Nat := 17
abbrev i__law_net_rows : Nat := 18
abbrev i__law_net_table : Nat := 19
abbrev i__law_net_tight : Nat := 20
abbrev i__law_net_early : Nat := 21
abbrev i__law_net_at : Nat := 22
abbrev i__law_net_kept : Nat := 23
abbrev i__law_net_walk : Nat := 24
abbrev i__law_net_groups : Nat := 25
abbrev i__law_net_core : Nat := 26
abbrev i__law_net_parting : Nat := 27
abbrev i__law_b_arc : Nat := 28
abbrev i__law_b_plain : Nat := 29
abbrev i__law_b_round : Nat := 30
abbrev i__law_b_spread_in : Nat := 31
abbrev i__law_b_kept_other : Nat := 32
abbrev i__law_b_closing : Nat := 33
abbrev i__law_b_tops : Nat := 34
abbrev i__law_k13_covers : Nat := 35
abbrev i__law_k13_parted : Nat := 36
abbrev i__law_k13_pair : Nat := 37
abbrev i__law_k13_implied : Nat := 38
abbrev i_law : Nat := 39
def topS (i : Nat) : PySem.Stmt := PySem.Challenge.pw_flexplan_k13_cores_covering_parting.main.body.getD i (.Pass ⟨0, 0, 0, 0⟩)
/-- extended -/
def b_extended : Sms := (.cons (.ite (.cmp .is (.var 1) .cnon) (.cons (.ret (.var 0)) .nil) .nil) (.cons (.set 3 (.lst .nil)) (.cons (.for (.tp (.cons (.nm 4) (.cons (.nm 5) .nil))) (.zip (.var 0) (.var 2)) (.cons (.ite (.and (.cmp .isnot (.var 5) .cnon) (.or (.cmp .is (.var 4) .cnon) (.cmp .lt (.var 4) (.bin .add (.var 1) (.var 5))))) (.cons (.ex (.mth .append (.var 3) (.cons (.bin .add (.var 1) (.var 5)) .nil))) .nil) (.cons (.ex (.mth .append (.var 3) (.cons (.var 4) .nil))) .nil)) .nil)) (.cons (.ret (.blt .tuple (.cons (.var 3) .nil))) .nil))))
def f_extended : FDef := { name := "extended", np := 3, nn := 6, body := b_extended }
def p_extended : PDef := { st := topS 1, ns := ["row", "ahead", "onward", "longer", "weight", "further"] }
/-- tightened -/
def b_tightened : Sms := (.cons (.setT (.cons (.nm 6) (.cons (.nm 7) (.cons (.nm 8) .nil))) (.var 1)) (.cons (.set 2 (.ix (.ix (.var 0) (.var 7)) (.var 6))) (.cons (.ite (.and (.cmp .isnot (.var 2) .cnon) (.cmp .gt (.bin .add (.var 2) (.var 8)) (.cint 0))) (.cons (.ret .cnon) .nil) .nil) (.cons (.set 3 (.ix (.var 0) (.var 7))) (.cons (.set 4 (.lst .nil)) (.cons (.for (.nm 5) (.seq (.var 0)) (.cons (.set 9 (.ix (.var 5) (.var 6))) (.cons (.ite (.cmp .isnot (.var 9) .cnon) (.cons (.set 9 (.bin .add (.var 9) (.var 8))) .nil) .nil) (.cons (.ex (.mth .append (.var 4) (.cons (.call i_extended (.cons (.var 5) (.cons (.var 9) (.cons (.var 3) .nil)))) .nil))) .nil)))) (.cons (.ret (.blt .tuple (.cons (.var 4) .nil))) .nil)))))))
def f_tightened : FDef := { name := "tightened", np := 2, nn := 10, body := b_tightened }
def p_tightened : PDef := { st := topS 2, ns := ["table", "arc", "back", "onward", "rows", "row", "node", "other", "weight", "ahead"] }
/-- earliest_of -/
def b_earliest_of : Sms := (.cons (.ret (.sl (.ix (.var 0) (.neg (.cint 1))) .none (.some (.neg (.cint 1))))) .nil)
def f_earliest_of : FDef := { name := "earliest_of", np := 1, nn := 1, body := b_earliest_of }
def p_earliest_of : PDef := { st := topS 4, ns := ["table"] }
/-- with_difference -/
def b_with_difference : Sms := (.cons (.set 4 (.call i_tightened (.cons (.var 0) (.cons (.tup (.cons (.var 1) (.cons (.var 2) (.cons (.var 3) .nil)))) .nil)))) (.cons (.ite (.cmp .is (.var 4) .cnon) (.cons (.ret .cnon) .nil) .nil) (.cons (.ret (.call i_tightened (.cons (.var 4) (.cons (.tup (.cons (.var 2) (.cons (.var 1) (.cons (.neg (.var 3)) .nil)))) .nil)))) .nil)))
def f_with_difference : FDef := { name := "with_difference", np := 4, nn := 5, body := b_with_difference }
def p_with_difference : PDef := { st := topS 5, ns := ["table", "node", "other", "difference", "at_least"] }
/-- schedule_at -/
def b_schedule_at : Sms := (.cons (.set 4 (.call i_with_difference (.cons (.var 0) (.cons (.var 1) (.cons (.var 2) (.cons (.var 3) .nil)))))) (.cons (.ite (.cmp .is (.var 4) .cnon) (.cons (.ret .cnon) .nil) .nil) (.cons (.ret (.call i_earliest_of (.cons (.var 4) .nil))) .nil)))
def f_schedule_at : FDef := { name := "schedule_at", np := 4, nn := 5, body := b_schedule_at }
def p_schedule_at : PDef := { st := topS 6, ns := ["table", "node", "other", "difference", "exact"] }
/-- are_rigid -/
def b_are_rigid : Sms := (.cons (.par [3, 4] (.cons (.ix (.ix (.var 0) (.var 1)) (.var 2)) (.cons (.ix (.ix (.var 0) (.var 2)) (.var 1)) .nil))) (.cons (.ret (.and (.cmp .isnot (.var 3) .cnon) (.and (.cmp .isnot (.var 4) .cnon) (.cmp .eq (.bin .add (.var 3) (.var 4)) (.cint 0))))) .nil))
def f_are_rigid : FDef := { name := "are_rigid", np := 3, nn := 5, body := b_are_rigid }
def p_are_rigid : PDef := { st := topS 8, ns := ["table", "node", "other", "there", "back"] }
/-- groups_of -/
def b_groups_of : Sms := (.cons (.set 1 (.bin .sub (.blt .len (.cons (.var 0) .nil)) (.cint 1))) (.cons (.set 2 (.lst .nil)) (.cons (.for (.nm 3) (.rng (.cons (.neg (.cint 1)) (.cons (.var 1) .nil))) (.cons (.set 4 (.blt .sorted (.cons (.lc (.tup (.cons (.ix (.ix (.var 0) (.neg (.cint 1))) (.var 5)) (.cons (.var 5) .nil))) (.nm 5) (.rng (.cons (.neg (.cint 1)) (.cons (.var 1) .nil))) (.cons (.call i_are_rigid (.cons (.var 0) (.cons (.var 3) (.cons (.var 5) .nil)))) .nil) [5]) .nil))) (.cons (.ite (.cmp .eq (.ix (.ix (.var 4) (.cint 0)) (.cint 1)) (.var 3)) (.cons (.ex (.mth .append (.var 2) (.cons (.blt .tuple (.cons (.lc (.var 5) (.tp (.cons (.nm 6) (.cons (.nm 5) .nil))) (.seq (.var 4)) .nil [6, 5]) .nil)) .nil))) .nil) .nil) .nil))) (.cons (.ret (.blt .tuple (.cons (.var 2) .nil))) .nil))))
def f_groups_of : FDef := { name := "groups_of", np := 1, nn := 7, body := b_groups_of }
def p_groups_of : PDef := { st := topS 9, ns := ["table", "many", "groups", "node", "ranked", "other", "time"] }
/-- is_explained -/
def b_is_explained : Sms := (.cons (.for (.nm 4) (.seq (.var 1)) (.cons (.ite (.and (.cmp .ne (.var 4) (.var 2)) (.cmp .ne (.var 4) (.var 3))) (.cons (.par [5, 6] (.cons (.ix (.ix (.var 0) (.var 2)) (.var 4)) (.cons (.ix (.ix (.var 0) (.var 4)) (.var 3)) .nil))) (.cons (.ite (.and (.cmp .isnot (.var 5) .cnon) (.and (.cmp .isnot (.var 6) .cnon) (.cmp .eq (.bin .add (.var 5) (.var 6)) (.ix (.ix (.var 0) (.var 2)) (.var 3))))) (.cons (.ret (.cbl true)) .nil) .nil) .nil)) .nil) .nil)) (.cons (.ret (.cbl false)) .nil))
def f_is_explained : FDef := { name := "is_explained", np := 4, nn := 7, body := b_is_explained }
def p_is_explained : PDef := { st := topS 10, ns := ["table", "heads", "node", "other", "head", "there", "onward"] }
/-- core_of -/
def b_core_of : Sms := (.cons (.set 1 (.call i_groups_of (.cons (.var 0) .nil))) (.cons (.set 2 (.lc (.ix (.var 4) (.cint 0)) (.nm 4) (.seq (.var 1)) .nil [4])) (.cons (.set 3 (.lst .nil)) (.cons (.for (.nm 4) (.seq (.var 1)) (.cons (.ite (.cmp .gt (.blt .len (.cons (.var 4) .nil)) (.cint 1)) (.cons (.for (.tp (.cons (.nm 8) (.cons (.nm 5) .nil))) (.enm (.var 4)) (.cons (.ex (.mth .append (.var 3) (.cons (.tup (.cons (.ix (.var 4) (.bin .sub (.var 8) (.cint 1))) (.cons (.var 5) .nil))) .nil))) .nil)) .nil) .nil) .nil)) (.cons (.for (.nm 5) (.seq (.var 2)) (.cons (.for (.nm 7) (.seq (.var 2)) (.cons (.ite (.and (.cmp .ne (.var 5) (.var 7)) (.and (.cmp .isnot (.ix (.ix (.var 0) (.var 5)) (.var 7)) .cnon) (.not (.call i_is_explained (.cons (.var 0) (.cons (.var 2) (.cons (.var 5) (.cons (.var 7) .nil)))))))) (.cons (.ex (.mth .append (.var 3) (.cons (.tup (.cons (.var 5) (.cons (.var 7) .nil))) .nil))) .nil) .nil) .nil)) .nil)) (.cons (.set 6 (.blt .sorted (.cons (.lc (.tup (.cons (.var 5) (.cons (.var 7) (.cons (.ix (.ix (.var 0) (.var 5)) (.var 7)) .nil)))) (.tp (.cons (.nm 5) (.cons (.nm 7) .nil))) (.seq (.var 3)) .nil [5, 7]) .nil))) (.cons (.ret (.blt .tuple (.cons (.lc (.var 9) (.nm 9) (.seq (.var 6)) (.cons (.or (.cmp .ne (.ix (.var 9) (.cint 0)) (.neg (.cint 1))) (.cmp .ne (.ix (.var 9) (.cint 2)) (.cint 0))) .nil) [9]) .nil))) .nil)))))))
def f_core_of : FDef := { name := "core_of", np := 1, nn := 10, body := b_core_of }
def p_core_of : PDef := { st := topS 11, ns := ["table", "groups", "heads", "pairs", "group", "node", "arcs", "other", "place", "arc"] }
/-- covers -/
def b_covers : Sms := (.cons (.for (.tp (.cons (.nm 2) (.cons (.nm 3) .nil))) (.zip (.var 0) (.var 1)) (.cons (.for (.tp (.cons (.nm 4) (.cons (.nm 5) .nil))) (.zip (.var 2) (.var 3)) (.cons (.ite (.and (.cmp .isnot (.var 4) .cnon) (.or (.cmp .is (.var 5) .cnon) (.cmp .lt (.var 5) (.var 4)))) (.cons (.ret (.cbl false)) .nil) .nil) .nil)) .nil)) (.cons (.ret (.cbl true)) .nil))
def f_covers : FDef := { name := "covers", np := 2, nn := 6, body := b_covers }
def p_covers : PDef := { st := topS 12, ns := ["table", "other", "row", "tighter", "weight", "bound"] }
/-- parting -/
def b_parting : Sms := (.cons (.set 2 (.bin .sub (.blt .len (.cons (.var 0) .nil)) (.cint 1))) (.cons (.for (.nm 3) (.rng (.cons (.neg (.cint 1)) (.cons (.var 2) .nil))) (.cons (.for (.nm 4) (.rng (.cons (.neg (.cint 1)) (.cons (.var 2) .nil))) (.cons (.ite (.cmp .ne (.ix (.ix (.var 0) (.var 3)) (.var 4)) (.ix (.ix (.var 1) (.var 3)) (.var 4))) (.cons (.ret (.call i_parting_at (.cons (.var 0) (.cons (.var 1) (.cons (.var 3) (.cons (.var 4) .nil)))))) .nil) .nil) .nil)) .nil)) (.cons (.ret .cnon) .nil)))
def f_parting : FDef := { name := "parting", np := 2, nn := 5, body := b_parting }
def p_parting : PDef := { st := topS 13, ns := ["table", "other", "many", "node", "target"] }
/-- parting_at -/
def b_parting_at : Sms := (.cons (.par [5, 6, 7] (.cons (.cint 0) (.cons (.var 0) (.cons (.var 1) .nil)))) (.cons (.ite (.or (.cmp .is (.ix (.ix (.var 1) (.var 2)) (.var 3)) .cnon) (.and (.cmp .isnot (.ix (.ix (.var 0) (.var 2)) (.var 3)) .cnon) (.cmp .lt (.ix (.ix (.var 1) (.var 2)) (.var 3)) (.ix (.ix (.var 0) (.var 2)) (.var 3))))) (.cons (.par [5, 6, 7] (.cons (.cint 1) (.cons (.var 1) (.cons (.var 0) .nil)))) .nil) .nil) (.cons (.set 4 (.ix (.ix (.var 6) (.var 2)) (.var 3))) (.cons (.ite (.cmp .is (.var 4) .cnon) (.cons (.set 4 (.bin .sub (.ix (.ix (.var 7) (.var 2)) (.var 3)) (.cint 1))) (.cons (.ite (.cmp .isnot (.ix (.ix (.var 6) (.var 3)) (.var 2)) .cnon) (.cons (.set 4 (.blt .min (.cons (.var 4) (.cons (.neg (.ix (.ix (.var 6) (.var 3)) (.var 2))) .nil)))) .nil) .nil) .nil)) .nil) (.cons (.ret (.tup (.cons (.var 5) (.cons (.call i_schedule_at (.cons (.var 6) (.cons (.var 2) (.cons (.var 3) (.cons (.var 4) .nil))))) .nil)))) .nil)))))
def f_parting_at : FDef := { name := "parting_at", np := 4, nn := 8, body := b_parting_at }
def p_parting_at : PDef := { st := topS 14, ns := ["table", "other", "node", "target", "difference", "side", "looser", "tighter"] }
/-- _law_tape -/
def b__law_tape : Sms := (.cons (.set 1 (.cint 7)) (.cons (.for (.nm 2) (.seq (.var 0)) (.cons (.set 1 (.bin .mod (.blt .int (.cons (.bin .add (.bin .mul (.var 1) (.cint 31)) (.blt .abs (.cons (.blt .int (.cons (.var 2) .nil)) .nil))) .nil)) (.cint 2147483647))) .nil)) (.cons (.ret (.lst (.cons (.blt .list (.cons (.var 0) .nil)) (.cons (.cint 0) (.cons (.cint 0) (.cons (.var 1) .nil)))))) .nil)))
def f__law_tape : FDef := { name := "_law_tape", np := 1, nn := 3, body := b__law_tape }
def p__law_tape : PDef := { st := topS 16, ns := ["script", "mixed", "cell"] }
/-- _law_draw -/
def b__law_draw : Sms := (.cons (.ite (.cmp .eq (.ix (.var 0) (.cint 2)) (.cint 0)) (.cons (.set 3 (.ix (.var 0) (.cint 1))) (.cons (.set 2 (.cint 0)) (.cons (.ite (.cmp .lt (.var 3) (.blt .len (.cons (.ix (.var 0) (.cint 0)) .nil))) (.cons (.set 2 (.blt .abs (.cons (.blt .int (.cons (.ix (.ix (.var 0) (.cint 0)) (.var 3)) .nil)) .nil))) .nil) (.cons (.setIx (.var 0) (.cint 3) (.bin .mod (.blt .int (.cons (.bin .add (.bin .add (.bin .mul (.ix (.var 0) (.cint 3)) (.cint 48271)) (.var 3)) (.cint 1)) .nil)) (.cint 2147483647))) (.cons (.set 2 (.ix (.var 0) (.cint 3))) .nil))) (.cons (.setIx (.var 0) (.cint 1) (.bin .add (.var 3) (.cint 1))) (.cons (.ite (.cmp .lt (.var 2) (.bin .pow (.cint 10) (.cint 18))) (.cons (.set 2 (.bin .mod (.blt .int (.cons (.bin .add (.bin .add (.bin .mul (.var 2) (.cint 48271)) (.bin .mul (.var 3) (.cint 69621))) (.cint 5)) .nil)) (.cint 2147483647))) (.cons (.set 2 (.bin .mod (.blt .int (.cons (.bin .mul (.var 2) (.cint 69621)) .nil)) (.cint 2147483629))) (.cons (.ret (.bin .mod (.blt .int (.cons (.var 2) .nil)) (.blt .max (.cons (.var 1) (.cons (.cint 1) .nil))))) .nil))) .nil) (.cons (.setIx (.var 0) (.cint 2) (.var 2)) .nil)))))) .nil) (.cons (.set 2 (.ix (.var 0) (.cint 2))) (.cons (.setIx (.var 0) (.cint 2) (.bin .fdiv (.var 2) (.blt .max (.cons (.var 1) (.cons (.cint 2) .nil))))) (.cons (.ret (.bin .mod (.blt .int (.cons (.var 2) .nil)) (.blt .max (.cons (.var 1) (.cons (.cint 1) .nil))))) .nil))))
def f__law_draw : FDef := { name := "_law_draw", np := 2, nn := 4, body := b__law_draw }
def p__law_draw : PDef := { st := topS 17, ns := ["tape", "many", "number", "place"] }
/-- _law_pick -/
def b__law_pick : Sms := (.cons (.ret (.ix (.var 1) (.call i__law_draw (.cons (.var 0) (.cons (.blt .len (.cons (.var 1) .nil)) .nil))))) .nil)
def f__law_pick : FDef := { name := "_law_pick", np := 2, nn := 2, body := b__law_pick }
def p__law_pick : PDef := { st := topS 18, ns := ["tape", "menu"] }
/-- _law_turns -/
def b__law_turns : Sms := (.cons (.set 2 (.lrg (.cons (.var 1) .nil))) (.cons (.set 3 (.lst .nil)) (.cons (.for (.nm 4) (.rng (.cons (.var 1) .nil)) (.cons (.ex (.mth .append (.var 3) (.cons (.mth .pop (.var 2) (.cons (.call i__law_draw (.cons (.var 0) (.cons (.blt .len (.cons (.var 2) .nil)) .nil))) .nil)) .nil))) .nil)) (.cons (.ret (.sl (.var 3) .none (.some (.ix (.lst (.cons (.var 1) (.cons (.var 1) (.cons (.cint 1) .nil)))) (.call i__law_draw (.cons (.var 0) (.cons (.cint 3) .nil))))))) .nil))))
def f__law_turns : FDef := { name := "_law_turns", np := 2, nn := 5, body := b__law_turns }
def p__law_turns : PDef := { st := topS 19, ns := ["tape", "many", "left", "turns", "k"] }
/-- _law_shuffled -/
def b__law_shuffled : Sms := (.cons (.set 2 (.blt .list (.cons (.var 1) .nil))) (.cons (.set 3 (.lst .nil)) (.cons (.for (.nm 4) (.rng (.cons (.blt .len (.cons (.var 1) .nil)) .nil)) (.cons (.ex (.mth .append (.var 3) (.cons (.mth .pop (.var 2) (.cons (.call i__law_draw (.cons (.var 0) (.cons (.blt .len (.cons (.var 2) .nil)) .nil))) .nil)) .nil))) .nil)) (.cons (.ret (.var 3)) .nil))))
def f__law_shuffled : FDef := { name := "_law_shuffled", np := 2, nn := 5, body := b__law_shuffled }
def p__law_shuffled : PDef := { st := topS 20, ns := ["tape", "menu", "left", "turned", "k"] }
/-- _law_same -/
def b__law_same : Sms := (.cons (.ite (.isi (.var 1) .tuple) (.cons (.ite (.or (.not (.isi (.var 0) .tuple)) (.cmp .ne (.blt .len (.cons (.var 0) .nil)) (.blt .len (.cons (.var 1) .nil)))) (.cons (.ret (.cbl false)) .nil) .nil) (.cons (.for (.nm 2) (.rng (.cons (.blt .len (.cons (.var 1) .nil)) .nil)) (.cons (.ite (.not (.call i__law_same (.cons (.ix (.var 0) (.var 2)) (.cons (.ix (.var 1) (.var 2)) .nil)))) (.cons (.ret (.cbl false)) .nil) .nil) .nil)) (.cons (.ret (.cbl true)) .nil))) .nil) (.cons (.ite (.or (.cmp .is (.var 1) .cnon) (.cmp .is (.var 0) .cnon)) (.cons (.ret (.and (.cmp .is (.var 1) .cnon) (.cmp .is (.var 0) .cnon))) .nil) .nil) (.cons (.ite (.isi (.var 1) .str) (.cons (.ret (.and (.isi (.var 0) .str) (.cmp .eq (.var 0) (.var 1)))) .nil) .nil) (.cons (.ite (.or (.cmp .ne (.isi (.var 0) .bool) (.isi (.var 1) .bool)) (.not (.isi (.var 0) .int))) (.cons (.ret (.cbl false)) .nil) .nil) (.cons (.ret (.cmp .eq (.var 0) (.var 1))) .nil)))))
def f__law_same : FDef := { name := "_law_same", np := 2, nn := 3, body := b__law_same }
def p__law_same : PDef := { st := topS 21, ns := ["told", "wanted", "k"] }
/-- _law_net_rows -/
def b__law_net_rows : Sms := (.cons (.set 2 (.lst .nil)) (.cons (.for (.nm 3) (.rng (.cons (.bin .add (.var 0) (.cint 1)) .nil)) (.cons (.ex (.mth .append (.var 2) (.cons (.bin .mul (.lst (.cons .cnon .nil)) (.bin .add (.var 0) (.cint 1))) .nil))) .nil)) (.cons (.for (.nm 3) (.rng (.cons (.bin .add (.var 0) (.cint 1)) .nil)) (.cons (.setIx (.ix (.var 2) (.var 3)) (.var 3) (.cint 0)) (.cons (.setIx (.ix (.var 2) (.var 0)) (.var 3) (.cint 0)) .nil))) (.cons (.for (.tp (.cons (.nm 3) (.cons (.nm 5) (.cons (.nm 6) .nil)))) (.seq (.var 1)) (.cons (.ite (.or (.cmp .is (.ix (.ix (.var 2) (.var 3)) (.var 5)) .cnon) (.cmp .lt (.ix (.ix (.var 2) (.var 3)) (.var 5)) (.var 6))) (.cons (.setIx (.ix (.var 2) (.var 3)) (.var 5) (.var 6)) .nil) .nil) .nil)) (.cons (.for (.nm 4) (.rng (.cons (.bin .add (.var 0) (.cint 1)) .nil)) (.cons (.for (.nm 3) (.rng (.cons (.bin .add (.var 0) (.cint 1)) .nil)) (.cons (.ite (.cmp .isnot (.ix (.ix (.var 2) (.var 3)) (.var 4)) .cnon) (.cons (.for (.nm 5) (.rng (.cons (.bin .add (.var 0) (.cint 1)) .nil)) (.cons (.ite (.and (.cmp .isnot (.ix (.ix (.var 2) (.var 4)) (.var 5)) .cnon) (.or (.cmp .is (.ix (.ix (.var 2) (.var 3)) (.var 5)) .cnon) (.cmp .lt (.ix (.ix (.var 2) (.var 3)) (.var 5)) (.bin .add (.ix (.ix (.var 2) (.var 3)) (.var 4)) (.ix (.ix (.var 2) (.var 4)) (.var 5)))))) (.cons (.setIx (.ix (.var 2) (.var 3)) (.var 5) (.bin .add (.ix (.ix (.var 2) (.var 3)) (.var 4)) (.ix (.ix (.var 2) (.var 4)) (.var 5)))) .nil) .nil) .nil)) .nil) .nil) .nil)) .nil)) (.cons (.for (.nm 3) (.rng (.cons (.bin .add (.var 0) (.cint 1)) .nil)) (.cons (.ite (.cmp .gt (.ix (.ix (.var 2) (.var 3)) (.var 3)) (.cint 0)) (.cons (.ret .cnon) .nil) .nil) .nil)) (.cons (.ret (.var 2)) .nil)))))))
def f__law_net_rows : FDef := { name := "_law_net_rows", np := 2, nn := 7, body := b__law_net_rows }
def p__law_net_rows : PDef := { st := topS 22, ns := ["many", "arcs", "rows", "i", "k", "j", "weight"] }
/-- _law_net_table -/
def b__law_net_table : Sms := (.cons (.ite (.cmp .is (.var 0) .cnon) (.cons (.ret .cnon) .nil) .nil) (.cons (.ret (.blt .tuple (.cons (.lc (.blt .tuple (.cons (.var 1) .nil)) (.nm 1) (.seq (.var 0)) .nil [1]) .nil))) .nil))
def f__law_net_table : FDef := { name := "_law_net_table", np := 1, nn := 2, body := b__law_net_table }
def p__law_net_table : PDef := { st := topS 23, ns := ["rows", "row"] }
/-- _law_net_tight -/
def b__law_net_tight : Sms := (.cons (.setT (.cons (.nm 4) (.cons (.nm 5) (.cons (.nm 6) .nil))) (.var 1)) (.cons (.ite (.and (.cmp .isnot (.ix (.ix (.var 0) (.var 5)) (.var 4)) .cnon) (.cmp .gt (.bin .add (.ix (.ix (.var 0) (.var 5)) (.var 4)) (.var 6)) (.cint 0))) (.cons (.ret .cnon) .nil) .nil) (.cons (.set 2 (.lst .nil)) (.cons (.for (.nm 3) (.seq (.var 0)) (.cons (.set 7 (.blt .list (.cons (.var 3) .nil))) (.cons (.for (.nm 8) (.rng (.cons (.blt .len (.cons (.var 0) .nil)) .nil)) (.cons (.ite (.and (.cmp .isnot (.ix (.var 3) (.var 4)) .cnon) (.cmp .isnot (.ix (.ix (.var 0) (.var 5)) (.var 8)) .cnon)) (.cons (.set 9 (.bin .add (.bin .add (.ix (.var 3) (.var 4)) (.var 6)) (.ix (.ix (.var 0) (.var 5)) (.var 8)))) (.cons (.ite (.or (.cmp .is (.ix (.var 7) (.var 8)) .cnon) (.cmp .lt (.ix (.var 7) (.var 8)) (.var 9))) (.cons (.setIx (.var 7) (.var 8) (.var 9)) .nil) .nil) .nil)) .nil) .nil)) (.cons (.ex (.mth .append (.var 2) (.cons (.var 7) .nil))) .nil)))) (.cons (.ret (.var 2)) .nil)))))
def f__law_net_tight : FDef := { name := "_law_net_tight", np := 2, nn := 10, body := b__law_net_tight }
def p__law_net_tight : PDef := { st := topS 24, ns := ["rows", "arc", "made", "row", "i", "j", "weight", "tight", "q", "over"] }
/-- _law_net_early -/
def b__law_net_early : Sms := (.cons (.ret (.blt .tuple (.cons (.sl (.ix (.var 0) (.neg (.cint 1))) .none (.some (.neg (.cint 1)))) .nil))) .nil)
def f__law_net_early : FDef := { name := "_law_net_early", np := 1, nn := 1, body := b__law_net_early }
def p__law_net_early : PDef := { st := topS 25, ns := ["rows"] }
/-- _law_net_at -/
def b__law_net_at : Sms := (.cons (.set 4 (.call i__law_net_tight (.cons (.var 0) (.cons (.tup (.cons (.var 1) (.cons (.var 2) (.cons (.var 3) .nil)))) .nil)))) (.cons (.ite (.cmp .isnot (.var 4) .cnon) (.cons (.set 4 (.call i__law_net_tight (.cons (.var 4) (.cons (.tup (.cons (.var 2) (.cons (.var 1) (.cons (.neg (.var 3)) .nil)))) .nil)))) .nil) .nil) (.cons (.ite (.cmp .is (.var 4) .cnon) (.cons (.ret .cnon) .nil) .nil) (.cons (.ret (.call i__law_net_early (.cons (.var 4) .nil))) .nil))))
def f__law_net_at : FDef := { name := "_law_net_at", np := 4, nn := 5, body := b__law_net_at }
def p__law_net_at : PDef := { st := topS 26, ns := ["rows", "i", "j", "x", "tight"] }
/-- _law_net_kept -/
def b__law_net_kept : Sms := (.cons (.set 2 (.bin .add (.blt .tuple (.cons (.var 2) .nil)) (.tup (.cons (.cint 0) .nil)))) (.cons (.ite (.cmp .lt (.blt .min (.cons (.var 2) .nil)) (.cint 0)) (.cons (.ret (.cbl false)) .nil) .nil) (.cons (.for (.tp (.cons (.nm 3) (.cons (.nm 4) (.cons (.nm 5) .nil)))) (.seq (.var 1)) (.cons (.ite (.cmp .lt (.bin .sub (.ix (.var 2) (.var 4)) (.ix (.var 2) (.var 3))) (.var 5)) (.cons (.ret (.cbl false)) .nil) .nil) .nil)) (.cons (.ret (.cbl true)) .nil))))
def f__law_net_kept : FDef := { name := "_law_net_kept", np := 3, nn := 6, body := b__law_net_kept }
def p__law_net_kept : PDef := { st := topS 27, ns := ["many", "arcs", "times", "i", "j", "weight"] }
/-- _law_net_walk -/
def b__law_net_walk : Sms := (.cons (.ite (.cmp .ne (.lc (.var 9) (.nm 9) (.seq (.var 1)) (.cons (.and (.cmp .lt (.blt .max (.cons (.ix (.var 9) (.cint 0)) (.cons (.ix (.var 9) (.cint 1)) .nil))) (.cint 0)) (.cmp .gt (.ix (.var 9) (.cint 2)) (.cint 0))) .nil) [9]) (.lst .nil)) (.cons (.ret (.lst .nil)) .nil) .nil) (.cons (.set 3 (.lst (.cons (.tup .nil) .nil))) (.cons (.for (.nm 4) (.rng (.cons (.var 0) .nil)) (.cons (.set 5 (.lc (.var 9) (.nm 9) (.seq (.var 1)) (.cons (.cmp .eq (.blt .max (.cons (.ix (.var 9) (.cint 0)) (.cons (.ix (.var 9) (.cint 1)) .nil))) (.var 4)) .nil) [9])) (.cons (.set 6 (.lst .nil)) (.cons (.for (.nm 7) (.seq (.var 3)) (.cons (.for (.nm 8) (.rng (.cons (.bin .add (.ix (.var 2) (.var 4)) (.cint 1)) .nil)) (.cons (.set 10 (.bin .add (.var 7) (.tup (.cons (.var 8) (.cons (.cint 0) .nil))))) (.cons (.ite (.cmp .eq (.lc (.var 9) (.nm 9) (.seq (.var 5)) (.cons (.cmp .lt (.bin .sub (.ix (.var 10) (.ix (.var 9) (.cint 1))) (.ix (.var 10) (.ix (.var 9) (.cint 0)))) (.ix (.var 9) (.cint 2))) .nil) [9]) (.lst .nil)) (.cons (.ex (.mth .append (.var 6) (.cons (.bin .add (.var 7) (.tup (.cons (.var 8) .nil))) .nil))) .nil) .nil) .nil))) .nil)) (.cons (.set 3 (.blt .list (.cons (.var 6) .nil))) .nil))))) (.cons (.ret (.var 3)) .nil))))
def f__law_net_walk : FDef := { name := "_law_net_walk", np := 3, nn := 11, body := b__law_net_walk }
def p__law_net_walk : PDef := { st := topS 28, ns := ["many", "arcs", "tops", "found", "k", "own", "longer", "begun", "at", "arc", "times"] }
/-- _law_net_groups -/
def b__law_net_groups : Sms := (.cons (.set 1 (.lst .nil)) (.cons (.set 2 (.lst .nil)) (.cons (.for (.nm 3) (.rng (.cons (.neg (.cint 1)) (.cons (.bin .sub (.blt .len (.cons (.var 0) .nil)) (.cint 1)) .nil))) (.cons (.ite (.cmp .notin (.var 3) (.var 2)) (.cons (.set 4 (.lc (.var 6) (.nm 6) (.rng (.cons (.neg (.cint 1)) (.cons (.bin .sub (.blt .len (.cons (.var 0) .nil)) (.cint 1)) .nil))) (.cons (.and (.cmp .isnot (.ix (.ix (.var 0) (.var 3)) (.var 6)) .cnon) (.cmp .isnot (.ix (.ix (.var 0) (.var 6)) (.var 3)) .cnon)) .nil) [6])) (.cons (.set 4 (.lc (.var 6) (.nm 6) (.seq (.var 4)) (.cons (.cmp .eq (.bin .add (.ix (.ix (.var 0) (.var 3)) (.var 6)) (.ix (.ix (.var 0) (.var 6)) (.var 3))) (.cint 0)) .nil) [6])) (.cons (.set 4 (.lc (.ix (.var 5) (.cint 1)) (.nm 5) (.seq (.blt .sorted (.cons (.lc (.tup (.cons (.ix (.ix (.var 0) (.neg (.cint 1))) (.var 6)) (.cons (.var 6) .nil))) (.nm 6) (.seq (.var 4)) .nil [6]) .nil))) .nil [5])) (.cons (.ex (.mth .append (.var 1) (.cons (.var 4) .nil))) (.cons (.set 2 (.bin .add (.var 2) (.var 4))) .nil))))) .nil) .nil)) (.cons (.ret (.lc (.ix (.var 5) (.cint 1)) (.nm 5) (.seq (.blt .sorted (.cons (.lc (.tup (.cons (.ix (.var 7) (.cint 0)) (.cons (.var 7) .nil))) (.nm 7) (.seq (.var 1)) .nil [7]) .nil))) .nil [5])) .nil))))
def f__law_net_groups : FDef := { name := "_law_net_groups", np := 1, nn := 8, body := b__law_net_groups }
def p__law_net_groups : PDef := { st := topS 29, ns := ["rows", "groups", "met", "i", "own", "pair", "j", "group"] }
/-- _law_net_core -/
def b__law_net_core : Sms := (.cons (.set 1 (.call i__law_net_groups (.cons (.var 0) .nil))) (.cons (.set 2 (.lst .nil)) (.cons (.for (.nm 3) (.seq (.var 1)) (.cons (.ite (.cmp .gt (.blt .len (.cons (.var 3) .nil)) (.cint 1)) (.cons (.for (.nm 7) (.rng (.cons (.blt .len (.cons (.var 3) .nil)) .nil)) (.cons (.ex (.mth .append (.var 2) (.cons (.tup (.cons (.ix (.var 3) (.bin .sub (.var 7) (.cint 1))) (.cons (.ix (.var 3) (.var 7)) (.cons (.ix (.ix (.var 0) (.ix (.var 3) (.bin .sub (.var 7) (.cint 1)))) (.ix (.var 3) (.var 7))) .nil)))) .nil))) .nil)) .nil) .nil) .nil)) (.cons (.set 4 (.lc (.ix (.var 8) (.cint 0)) (.nm 8) (.seq (.var 1)) .nil [8])) (.cons (.for (.nm 5) (.seq (.var 4)) (.cons (.for (.nm 6) (.seq (.var 4)) (.cons (.ite (.and (.cmp .ne (.var 5) (.var 6)) (.cmp .isnot (.ix (.ix (.var 0) (.var 5)) (.var 6)) .cnon)) (.cons (.set 9 (.lc (.var 7) (.nm 7) (.seq (.var 4)) (.cons (.and (.cmp .notin (.var 7) (.lst (.cons (.var 5) (.cons (.var 6) .nil)))) (.and (.cmp .isnot (.ix (.ix (.var 0) (.var 5)) (.var 7)) .cnon) (.cmp .isnot (.ix (.ix (.var 0) (.var 7)) (.var 6)) .cnon))) .nil) [7])) (.cons (.ite (.cmp .eq (.lc (.var 7) (.nm 7) (.seq (.var 9)) (.cons (.cmp .eq (.bin .add (.ix (.ix (.var 0) (.var 5)) (.var 7)) (.ix (.ix (.var 0) (.var 7)) (.var 6))) (.ix (.ix (.var 0) (.var 5)) (.var 6))) .nil) [7]) (.lst .nil)) (.cons (.ex (.mth .append (.var 2) (.cons (.tup (.cons (.var 5) (.cons (.var 6) (.cons (.ix (.ix (.var 0) (.var 5)) (.var 6)) .nil)))) .nil))) .nil) .nil) .nil)) .nil) .nil)) .nil)) (.cons (.ret (.blt .tuple (.cons (.blt .sorted (.cons (.lc (.var 10) (.nm 10) (.seq (.var 2)) (.cons (.or (.cmp .ne (.ix (.var 10) (.cint 0)) (.neg (.cint 1))) (.cmp .ne (.ix (.var 10) (.cint 2)) (.cint 0))) .nil) [10]) .nil)) .nil))) .nil))))))
def f__law_net_core : FDef := { name := "_law_net_core", np := 1, nn := 11, body := b__law_net_core }
def p__law_net_core : PDef := { st := topS 30, ns := ["rows", "groups", "told", "own", "heads", "i", "j", "k", "group", "third", "arc"] }
/-- _law_net_parting -/
def b__law_net_parting : Sms := (.cons (.for (.nm 2) (.rng (.cons (.neg (.cint 1)) (.cons (.bin .sub (.blt .len (.cons (.var 0) .nil)) (.cint 1)) .nil))) (.cons (.for (.nm 3) (.rng (.cons (.neg (.cint 1)) (.cons (.bin .sub (.blt .len (.cons (.var 0) .nil)) (.cint 1)) .nil))) (.cons (.ite (.cmp .ne (.ix (.ix (.var 0) (.var 2)) (.var 3)) (.ix (.ix (.var 1) (.var 2)) (.var 3))) (.cons (.set 4 (.cint 1)) (.cons (.ite (.or (.cmp .is (.ix (.ix (.var 0) (.var 2)) (.var 3)) .cnon) (.and (.cmp .isnot (.ix (.ix (.var 1) (.var 2)) (.var 3)) .cnon) (.cmp .lt (.ix (.ix (.var 0) (.var 2)) (.var 3)) (.ix (.ix (.var 1) (.var 2)) (.var 3))))) (.cons (.set 4 (.cint 0)) .nil) .nil) (.cons (.set 5 (.ix (.lst (.cons (.var 0) (.cons (.var 1) .nil))) (.var 4))) (.cons (.set 6 (.ix (.ix (.var 5) (.var 2)) (.var 3))) (.cons (.ite (.cmp .is (.var 6) .cnon) (.cons (.set 6 (.bin .sub (.ix (.ix (.ix (.lst (.cons (.var 1) (.cons (.var 0) .nil))) (.var 4)) (.var 2)) (.var 3)) (.cint 1))) (.cons (.ite (.cmp .isnot (.ix (.ix (.var 5) (.var 3)) (.var 2)) .cnon) (.cons (.set 6 (.blt .min (.cons (.var 6) (.cons (.neg (.ix (.ix (.var 5) (.var 3)) (.var 2))) .nil)))) .nil) .nil) .nil)) .nil) (.cons (.ret (.tup (.cons (.var 4) (.cons (.call i__law_net_at (.cons (.var 5) (.cons (.var 2) (.cons (.var 3) (.cons (.var 6) .nil))))) .nil)))) .nil)))))) .nil) .nil)) .nil)) (.cons (.ret .cnon) .nil))
def f__law_net_parting : FDef := { name := "_law_net_parting", np := 2, nn := 7, body := b__law_net_parting }
def p__law_net_parting : PDef := { st := topS 31, ns := ["one", "other", "i", "j", "side", "less", "x"] }
/-- _law_b_arc -/
def b__law_b_arc : Sms := (.cons (.set 3 (.bin .sub (.call i__law_draw (.cons (.var 0) (.cons (.bin .add (.var 1) (.cint 1)) .nil))) (.cint 1))) (.cons (.set 4 (.bin .sub (.call i__law_draw (.cons (.var 0) (.cons (.bin .add (.var 1) (.cint 1)) .nil))) (.cint 1))) (.cons (.ret (.tup (.cons (.var 3) (.cons (.var 4) (.cons (.blt .max (.cons (.neg (.cint 99)) (.cons (.bin .sub (.bin .sub (.ix (.var 2) (.var 4)) (.ix (.var 2) (.var 3))) (.ix (.lst (.cons (.cint 0) (.cons (.cint 0) (.cons (.cint 0) (.cons (.cint 0) (.cons (.cint 1) (.cons (.cint 1) (.cons (.cint 2) (.cons (.cint 6) .nil))))))))) (.call i__law_draw (.cons (.var 0) (.cons (.cint 8) .nil))))) .nil))) .nil))))) .nil)))
def f__law_b_arc : FDef := { name := "_law_b_arc", np := 3, nn := 5, body := b__law_b_arc }
def p__law_b_arc : PDef := { st := topS 32, ns := ["tape", "many", "times", "i", "j"] }
/-- _law_b_plain -/
def b__law_b_plain : Sms := (.cons (.set 2 (.call i__law_pick (.cons (.var 0) (.cons (.lst (.cons (.cint 0) (.cons (.cint 1) (.cons (.cint 2) (.cons (.cint 3) (.cons (.cint 3) (.cons (.cint 3) (.cons (.cint 4) (.cons (.cint 4) (.cons (.cint 5) .nil)))))))))) .nil)))) (.cons (.set 3 (.call i__law_draw (.cons (.var 0) (.cons (.bin .add (.bin .mul (.cint 2) (.var 2)) (.cint 3)) .nil)))) (.cons (.set 4 (.call i__law_draw (.cons (.var 0) (.cons (.cint 16) .nil)))) (.cons (.ite (.and (.cmp .eq (.var 4) (.cint 0)) (.cmp .gt (.var 2) (.cint 2))) (.cons (.set 3 (.cint 40)) .nil) .nil) (.cons (.ite (.and (.cmp .ne (.var 1) (.tup .nil)) (.cmp .gt (.var 4) (.cint 13))) (.cons (.set 2 (.cint 8)) (.cons (.set 3 (.call i__law_pick (.cons (.var 0) (.cons (.var 1) .nil)))) .nil)) .nil) (.cons (.set 5 (.call i__law_pick (.cons (.var 0) (.cons (.lst (.cons (.cint 2) (.cons (.cint 4) (.cons (.cint 9) (.cons (.cint 9) (.cons (.cint 98) .nil)))))) .nil)))) (.cons (.set 6 (.bin .add (.lc (.call i__law_draw (.cons (.var 0) (.cons (.bin .add (.var 5) (.cint 1)) .nil))) (.nm 8) (.rng (.cons (.var 2) .nil)) .nil [8]) (.lst (.cons (.cint 0) .nil)))) (.cons (.set 7 (.lst .nil)) (.cons (.for (.nm 8) (.rng (.cons (.var 3) .nil)) (.cons (.ite (.and (.cmp .ne (.var 7) (.lst .nil)) (.cmp .eq (.call i__law_draw (.cons (.var 0) (.cons (.cint 8) .nil))) (.cint 0))) (.cons (.ex (.mth .append (.var 7) (.cons (.call i__law_pick (.cons (.var 0) (.cons (.var 7) .nil))) .nil))) .nil) (.cons (.ex (.mth .append (.var 7) (.cons (.call i__law_b_arc (.cons (.var 0) (.cons (.var 2) (.cons (.var 6) .nil)))) .nil))) .nil)) .nil)) (.cons (.ret (.tup (.cons (.var 2) (.cons (.var 6) (.cons (.var 7) .nil))))) .nil))))))))))
def f__law_b_plain : FDef := { name := "_law_b_plain", np := 2, nn := 9, body := b__law_b_plain }
def p__law_b_plain : PDef := { st := topS 33, ns := ["tape", "great", "many", "count", "share", "top", "times", "arcs", "k"] }
/-- _law_b_round -/
def b__law_b_round : Sms := (.cons (.set 4 (.lc (.bin .sub (.call i__law_draw (.cons (.var 0) (.cons (.bin .add (.var 1) (.cint 1)) .nil))) (.cint 1)) (.nm 6) (.rng (.cons (.bin .add (.cint 1) (.call i__law_draw (.cons (.var 0) (.cons (.cint 4) .nil)))) .nil)) .nil [6])) (.cons (.set 5 (.lst .nil)) (.cons (.for (.nm 6) (.rng (.cons (.blt .len (.cons (.var 4) .nil)) .nil)) (.cons (.ex (.mth .append (.var 5) (.cons (.tup (.cons (.ix (.var 4) (.bin .sub (.var 6) (.cint 1))) (.cons (.ix (.var 4) (.var 6)) (.cons (.bin .sub (.ix (.var 2) (.ix (.var 4) (.var 6))) (.ix (.var 2) (.ix (.var 4) (.bin .sub (.var 6) (.cint 1))))) .nil)))) .nil))) .nil)) (.cons (.set 7 (.call i__law_draw (.cons (.var 0) (.cons (.blt .len (.cons (.var 5) .nil)) .nil)))) (.cons (.setIx (.var 5) (.var 7) (.tup (.cons (.ix (.ix (.var 5) (.var 7)) (.cint 0)) (.cons (.ix (.ix (.var 5) (.var 7)) (.cint 1)) (.cons (.bin .add (.ix (.ix (.var 5) (.var 7)) (.cint 2)) (.var 3)) .nil))))) (.cons (.ret (.var 5)) .nil))))))
def f__law_b_round : FDef := { name := "_law_b_round", np := 4, nn := 8, body := b__law_b_round }
def p__law_b_round : PDef := { st := topS 34, ns := ["tape", "many", "times", "extra", "nodes", "arcs", "k", "at"] }
/-- _law_b_spread_in -/
def b__law_b_spread_in : Sms := (.cons (.set 1 (.blt .list (.cons (.var 1) .nil))) (.cons (.for (.nm 3) (.seq (.sl (.var 2) (.some (.blt .max (.cons (.cint 0) (.cons (.bin .sub (.bin .add (.blt .len (.cons (.var 1) .nil)) (.blt .len (.cons (.var 2) .nil))) (.cint 40)) .nil)))) .none)) (.cons (.ex (.mth .insert (.var 1) (.cons (.call i__law_draw (.cons (.var 0) (.cons (.bin .add (.blt .len (.cons (.var 1) .nil)) (.cint 1)) .nil))) (.cons (.var 3) .nil)))) .nil)) (.cons (.ret (.var 1)) .nil)))
def f__law_b_spread_in : FDef := { name := "_law_b_spread_in", np := 3, nn := 4, body := b__law_b_spread_in }
def p__law_b_spread_in : PDef := { st := topS 35, ns := ["tape", "arcs", "more", "arc"] }
/-- _law_b_kept_other -/
def b__law_b_kept_other : Sms := (.cons (.set 4 (.call i__law_draw (.cons (.var 0) (.cons (.cint 4) .nil)))) (.cons (.ite (.or (.cmp .eq (.var 3) (.lst .nil)) (.and (.cmp .eq (.var 4) (.cint 0)) (.cmp .lt (.blt .len (.cons (.var 3) .nil)) (.cint 40)))) (.cons (.ret (.call i__law_b_spread_in (.cons (.var 0) (.cons (.var 3) (.cons (.lst (.cons (.call i__law_b_arc (.cons (.var 0) (.cons (.var 1) (.cons (.var 2) .nil)))) .nil)) .nil))))) .nil) .nil) (.cons (.set 3 (.blt .list (.cons (.var 3) .nil))) (.cons (.set 5 (.call i__law_draw (.cons (.var 0) (.cons (.blt .len (.cons (.var 3) .nil)) .nil)))) (.cons (.setT (.cons (.nm 6) (.cons (.nm 7) (.cons (.nm 8) .nil))) (.ix (.var 3) (.var 5))) (.cons (.ite (.cmp .lt (.var 4) (.cint 2)) (.cons (.ex (.mth .pop (.var 3) (.cons (.var 5) .nil))) .nil) (.cons (.ite (.cmp .eq (.var 4) (.cint 2)) (.cons (.setIx (.var 3) (.var 5) (.tup (.cons (.var 6) (.cons (.var 7) (.cons (.blt .max (.cons (.neg (.cint 99)) (.cons (.bin .sub (.bin .sub (.var 8) (.cint 1)) (.call i__law_draw (.cons (.var 0) (.cons (.cint 3) .nil)))) .nil))) .nil))))) .nil) (.cons (.setIx (.var 3) (.var 5) (.tup (.cons (.var 6) (.cons (.var 7) (.cons (.bin .sub (.ix (.var 2) (.var 7)) (.ix (.var 2) (.var 6))) .nil))))) .nil)) .nil)) (.cons (.ret (.var 3)) .nil)))))))
def f__law_b_kept_other : FDef := { name := "_law_b_kept_other", np := 4, nn := 9, body := b__law_b_kept_other }
def p__law_b_kept_other : PDef := { st := topS 36, ns := ["tape", "many", "times", "arcs", "choice", "at", "i", "j", "weight"] }
/-- _law_b_closing -/
def b__law_b_closing : Sms := (.cons (.ret (.lc (.tup (.cons (.var 4) (.cons (.neg (.cint 1)) (.cons (.blt .max (.cons (.neg (.cint 99)) (.cons (.bin .sub (.neg (.ix (.var 2) (.var 4))) (.call i__law_draw (.cons (.var 0) (.cons (.var 3) .nil)))) .nil))) .nil)))) (.nm 4) (.rng (.cons (.var 1) .nil)) .nil [4])) .nil)
def f__law_b_closing : FDef := { name := "_law_b_closing", np := 4, nn := 5, body := b__law_b_closing }
def p__law_b_closing : PDef := { st := topS 37, ns := ["tape", "many", "times", "room", "k"] }
/-- _law_b_tops -/
def b__law_b_tops : Sms := (.cons (.set 3 (.bin .mul (.lst (.cons (.var 2) .nil)) (.var 0))) (.cons (.for (.tp (.cons (.nm 4) (.cons (.nm 5) (.cons (.nm 6) .nil)))) (.seq (.var 1)) (.cons (.ite (.and (.cmp .eq (.var 5) (.neg (.cint 1))) (.cmp .ge (.var 4) (.cint 0))) (.cons (.setIx (.var 3) (.var 4) (.blt .min (.cons (.ix (.var 3) (.var 4)) (.cons (.neg (.var 6)) .nil)))) .nil) .nil) .nil)) (.cons (.ret (.var 3)) .nil)))
def f__law_b_tops : FDef := { name := "_law_b_tops", np := 3, nn := 7, body := b__law_b_tops }
def p__law_b_tops : PDef := { st := topS 38, ns := ["many", "arcs", "top", "tops", "i", "j", "weight"] }
/-- _law_k13_covers -/
def b__law_k13_covers : Sms := (.cons (.for (.nm 2) (.rng (.cons (.blt .len (.cons (.var 0) .nil)) .nil)) (.cons (.for (.nm 3) (.rng (.cons (.blt .len (.cons (.var 0) .nil)) .nil)) (.cons (.ite (.and (.cmp .isnot (.ix (.ix (.var 0) (.var 2)) (.var 3)) .cnon) (.or (.cmp .is (.ix (.ix (.var 1) (.var 2)) (.var 3)) .cnon) (.cmp .lt (.ix (.ix (.var 1) (.var 2)) (.var 3)) (.ix (.ix (.var 0) (.var 2)) (.var 3))))) (.cons (.ret (.cbl false)) .nil) .nil) .nil)) .nil)) (.cons (.ret (.cbl true)) .nil))
def f__law_k13_covers : FDef := { name := "_law_k13_covers", np := 2, nn := 4, body := b__law_k13_covers }
def p__law_k13_covers : PDef := { st := topS 39, ns := ["one", "other", "i", "j"] }
/-- _law_k13_parted -/
def b__law_k13_parted : Sms := (.cons (.set 3 (.call i_parting (.cons (.call i__law_net_table (.cons (.ix (.var 2) (.cint 0)) .nil)) (.cons (.call i__law_net_table (.cons (.ix (.var 2) (.cint 1)) .nil)) .nil)))) (.cons (.set 4 (.call i__law_net_parting (.cons (.ix (.var 2) (.cint 0)) (.cons (.ix (.var 2) (.cint 1)) .nil)))) (.cons (.ite (.not (.call i__law_same (.cons (.var 3) (.cons (.var 4) .nil)))) (.cons (.ret (.cbl false)) .nil) .nil) (.cons (.ite (.cmp .is (.var 4) .cnon) (.cons (.ret (.cmp .eq (.ix (.var 2) (.cint 0)) (.ix (.var 2) (.cint 1)))) .nil) .nil) (.cons (.ret (.and (.call i__law_net_kept (.cons (.var 0) (.cons (.ix (.var 1) (.ix (.var 3) (.cint 0))) (.cons (.ix (.var 3) (.cint 1)) .nil)))) (.not (.call i__law_net_kept (.cons (.var 0) (.cons (.ix (.var 1) (.bin .sub (.cint 1) (.ix (.var 3) (.cint 0)))) (.cons (.ix (.var 3) (.cint 1)) .nil))))))) .nil)))))
def f__law_k13_parted : FDef := { name := "_law_k13_parted", np := 3, nn := 5, body := b__law_k13_parted }
def p__law_k13_parted : PDef := { st := topS 40, ns := ["many", "nets", "rows", "told", "due"] }
/-- _law_k13_pair -/
def b__law_k13_pair : Sms := (.cons (.for (.nm 5) (.seq (.call i__law_turns (.cons (.var 0) (.cons (.cint 3) .nil)))) (.cons (.ite (.and (.cmp .eq (.var 5) (.cint 0)) (.not (.call i__law_k13_parted (.cons (.var 1) (.cons (.var 2) (.cons (.var 3) .nil)))))) (.cons (.ret (.cbl false)) .nil) .nil) (.cons (.ite (.cmp .eq (.var 5) (.cint 1)) (.cons (.set 6 (.call i__law_k13_covers (.cons (.ix (.var 3) (.cint 0)) (.cons (.ix (.var 3) (.cint 1)) .nil)))) (.cons (.ite (.cmp .isnot (.var 4) .cnon) (.cons (.set 6 (.cmp .eq (.lc (.var 7) (.nm 7) (.seq (.ix (.var 4) (.cint 1))) (.cons (.not (.call i__law_net_kept (.cons (.var 1) (.cons (.ix (.var 2) (.cint 0)) (.cons (.var 7) .nil))))) .nil) [7]) (.lst .nil))) .nil) .nil) (.cons (.ite (.not (.call i__law_same (.cons (.call i_covers (.cons (.call i__law_net_table (.cons (.ix (.var 3) (.cint 0)) .nil)) (.cons (.call i__law_net_table (.cons (.ix (.var 3) (.cint 1)) .nil)) .nil))) (.cons (.var 6) .nil)))) (.cons (.ret (.cbl false)) .nil) .nil) .nil))) .nil) (.cons (.ite (.and (.cmp .eq (.var 5) (.cint 2)) (.not (.call i__law_same (.cons (.call i_core_of (.cons (.call i__law_net_table (.cons (.ix (.var 3) (.cint 0)) .nil)) .nil)) (.cons (.call i__law_net_core (.cons (.ix (.var 3) (.cint 0)) .nil)) .nil))))) (.cons (.ret (.cbl false)) .nil) .nil) .nil)))) (.cons (.ret (.cbl true)) .nil))
def f__law_k13_pair : FDef := { name := "_law_k13_pair", np := 5, nn := 8, body := b__law_k13_pair }
def p__law_k13_pair : PDef := { st := topS 41, ns := ["tape", "many", "nets", "rows", "found", "turn", "due", "times"] }
/-- _law_k13_implied -/
def b__law_k13_implied : Sms := (.cons (.set 4 (.lst .nil)) (.cons (.for (.nm 5) (.rng (.cons (.cint 3) .nil)) (.cons (.set 6 (.bin .sub (.call i__law_draw (.cons (.var 0) (.cons (.bin .add (.var 1) (.cint 1)) .nil))) (.cint 1))) (.cons (.set 7 (.bin .sub (.call i__law_draw (.cons (.var 0) (.cons (.bin .add (.var 1) (.cint 1)) .nil))) (.cint 1))) (.cons (.ite (.and (.cmp .isnot (.ix (.ix (.var 3) (.var 6)) (.var 7)) .cnon) (.cmp .lt (.blt .abs (.cons (.ix (.ix (.var 3) (.var 6)) (.var 7)) .nil)) (.cint 90))) (.cons (.ex (.mth .append (.var 4) (.cons (.tup (.cons (.var 6) (.cons (.var 7) (.cons (.bin .sub (.ix (.ix (.var 3) (.var 6)) (.var 7)) (.call i__law_draw (.cons (.var 0) (.cons (.cint 3) .nil)))) .nil)))) .nil))) .nil) .nil) .nil)))) (.cons (.ret (.call i__law_b_spread_in (.cons (.var 0) (.cons (.call i__law_shuffled (.cons (.var 0) (.cons (.var 2) .nil))) (.cons (.var 4) .nil))))) .nil)))
def f__law_k13_implied : FDef := { name := "_law_k13_implied", np := 4, nn := 8, body := b__law_k13_implied }
def p__law_k13_implied : PDef := { st := topS 42, ns := ["tape", "many", "arcs", "rows", "more", "k", "i", "j"] }
/-- law -/
def b_law : Sms := (.cons (.set 1 (.call i__law_tape (.cons (.var 0) .nil))) (.cons (.setT (.cons (.nm 9) (.cons (.nm 10) (.cons (.nm 11) .nil))) (.call i__law_b_plain (.cons (.var 1) (.cons (.call i__law_pick (.cons (.var 1) (.cons (.lst (.cons (.tup .nil) (.cons (.tup (.cons (.cint 12) (.cons (.cint 24) .nil))) .nil))) .nil))) .nil)))) (.cons (.set 2 (.and (.cmp .lt (.var 9) (.cint 4)) (.cmp .lt (.blt .max (.cons (.var 10) .nil)) (.cint 5)))) (.cons (.ite (.cmp .eq (.call i__law_draw (.cons (.var 1) (.cons (.cint 2) .nil))) (.cint 0)) (.cons (.set 11 (.call i__law_b_spread_in (.cons (.var 1) (.cons (.var 11) (.cons (.call i__law_b_round (.cons (.var 1) (.cons (.var 9) (.cons (.var 10) (.cons (.cint 0) .nil))))) .nil))))) .nil) .nil) (.cons (.set 3 (.call i__law_b_closing (.cons (.var 1) (.cons (.var 9) (.cons (.var 10) (.cons (.cint 3) .nil)))))) (.cons (.ite (.or (.var 2) (.cmp .eq (.call i__law_draw (.cons (.var 1) (.cons (.cint 2) .nil))) (.cint 0))) (.cons (.set 11 (.call i__law_b_spread_in (.cons (.var 1) (.cons (.sl (.var 11) .none (.some (.cint 30))) (.cons (.ite (.var 2) (.var 3) (.sl (.var 3) .none (.some (.call i__law_draw (.cons (.var 1) (.cons (.bin .add (.var 9) (.cint 1)) .nil)))))) .nil))))) .nil) .nil) (.cons (.set 4 (.call i__law_net_rows (.cons (.var 9) (.cons (.var 11) .nil)))) (.cons (.ite (.cmp .eq (.call i__law_draw (.cons (.var 1) (.cons (.cint 4) .nil))) (.cint 0)) (.cons (.set 12 (.call i__law_k13_implied (.cons (.var 1) (.cons (.var 9) (.cons (.var 11) (.cons (.var 4) .nil)))))) .nil) (.cons (.set 12 (.call i__law_b_kept_other (.cons (.var 1) (.cons (.var 9) (.cons (.var 10) (.cons (.var 11) .nil)))))) (.cons (.ite (.cmp .eq (.call i__law_draw (.cons (.var 1) (.cons (.cint 2) .nil))) (.cint 0)) (.cons (.set 12 (.call i__law_b_kept_other (.cons (.var 1) (.cons (.var 9) (.cons (.var 10) (.cons (.var 12) .nil)))))) .nil) .nil) .nil))) (.cons (.ite (.var 2) (.cons (.set 12 (.bin .add (.var 12) (.lc (.tup (.cons (.var 17) (.cons (.neg (.cint 1)) (.cons (.neg (.cint 6)) .nil)))) (.nm 17) (.rng (.cons (.var 9) .nil)) .nil [17]))) .nil) .nil) (.cons (.set 5 (.lst (.cons (.var 11) (.cons (.var 12) .nil)))) (.cons (.set 6 (.lst (.cons (.var 4) (.cons (.call i__law_net_rows (.cons (.var 9) (.cons (.var 12) .nil))) .nil)))) (.cons (.set 7 .cnon) (.cons (.ite (.var 2) (.cons (.set 7 (.lc (.call i__law_net_walk (.cons (.var 9) (.cons (.var 16) (.cons (.call i__law_b_tops (.cons (.var 9) (.cons (.var 16) (.cons (.cint 6) .nil)))) .nil)))) (.nm 16) (.seq (.var 5)) .nil [16])) .nil) .nil) (.cons (.set 8 (.lst (.cons (.tup (.cons (.cint 0) (.cons (.cint 1) .nil))) (.cons (.tup (.cons (.cint 1) (.cons (.cint 0) .nil))) (.cons (.tup (.cons (.cint 0) (.cons (.cint 0) .nil))) (.cons (.tup (.cons (.cint 0) (.cons (.cint 1) .nil))) .nil)))))) (.cons (.ite (.cmp .gt (.var 9) (.cint 5)) (.cons (.set 8 (.lst (.cons (.tup (.cons (.cint 0) (.cons (.cint 1) .nil))) .nil))) .nil) .nil) (.cons (.for (.tp (.cons (.nm 13) (.cons (.nm 14) .nil))) (.seq (.var 8)) (.cons (.set 15 .cnon) (.cons (.ite (.cmp .isnot (.var 7) .cnon) (.cons (.set 15 (.lst (.cons (.ix (.var 7) (.var 13)) (.cons (.ix (.var 7) (.var 14)) .nil)))) .nil) .nil) (.cons (.ite (.not (.call i__law_k13_pair (.cons (.var 1) (.cons (.var 9) (.cons (.lst (.cons (.ix (.var 5) (.var 13)) (.cons (.ix (.var 5) (.var 14)) .nil))) (.cons (.lst (.cons (.ix (.var 6) (.var 13)) (.cons (.ix (.var 6) (.var 14)) .nil))) (.cons (.var 15) .nil))))))) (.cons (.ret (.cbl false)) .nil) .nil) .nil)))) (.cons (.ret (.cbl true)) .nil)))))))))))))))))
def f_law : FDef := { name := "law", np := 1, nn := 18, body := b_law }
def p_law : PDef := { st := topS 43, ns := ["script", "tape", "closed", "closing", "one", "nets", "rows", "found", "order", "many", "times", "arcs", "other", "a", "b", "pair", "net", "k"] }
def T : List FDef := [f_extended, f_tightened, f_earliest_of, f_with_difference, f_schedule_at, f_are_rigid, f_groups_of, f_is_explained, f_core_of, f_covers, f_parting, f_parting_at, f__law_tape, f__law_draw, f__law_pick, f__law_turns, f__law_shuffled, f__law_same, f__law_net_rows, f__law_net_table, f__law_net_tight, f__law_net_early, f__law_net_at, f__law_net_kept, f__law_net_walk, f__law_net_groups, f__law_net_core, f__law_net_parting, f__law_b_arc, f__law_b_plain, f__law_b_round, f__law_b_spread_in, f__law_b_kept_other, f__law_b_closing, f__law_b_tops, f__law_k13_covers, f__law_k13_parted, f__law_k13_pair, f__law_k13_implied, f_law]
def ps : List PDef := [p_extended, p_tightened, p_earliest_of, p_with_difference, p_schedule_at, p_are_rigid, p_groups_of, p_is_explained, p_core_of, p_covers, p_parting, p_parting_at, p__law_tape, p__law_draw, p__law_pick, p__law_turns, p__law_shuffled, p__law_same, p__law_net_rows, p__law_net_table, p__law_net_tight, p__law_net_early, p__law_net_at, p__law_net_kept, p__law_net_walk, p__law_net_groups, p__law_net_core, p__law_net_parting, p__law_b_arc, p__law_b_plain, p__law_b_round, p__law_b_spread_in, p__law_b_kept_other, p__law_b_closing, p__law_b_tops, p__law_k13_covers, p__law_k13_parted, p__law_k13_pair, p__law_k13_implied, p_law]
theorem looks : (T.zip ps).all (fun q => okDef T q.1 q.2) = true := by decide +kernel
theorem T_extended : T[i_extended]? = some f_extended := rfl
theorem T_tightened : T[i_tightened]? = some f_tightened := rfl
theorem T_earliest_of : T[i_earliest_of]? = some f_earliest_of := rfl
theorem T_with_difference : T[i_with_difference]? = some f_with_difference := rfl
theorem T_schedule_at : T[i_schedule_at]? = some f_schedule_at := rfl
theorem T_are_rigid : T[i_are_rigid]? = some f_are_rigid := rfl
theorem T_groups_of : T[i_groups_of]? = some f_groups_of := rfl
theorem T_is_explained : T[i_is_explained]? = some f_is_explained := rfl
theorem T_core_of : T[i_core_of]? = some f_core_of := rfl
theorem T_covers : T[i_covers]? = some f_covers := rfl
theorem T_parting : T[i_parting]? = some f_parting := rfl
theorem T_parting_at : T[i_parting_at]? = some f_parting_at := rfl
theorem T__law_tape : T[i__law_tape]? = some f__law_tape := rfl
theorem T__law_draw : T[i__law_draw]? = some f__law_draw := rfl
theorem T__law_pick : T[i__law_pick]? = some f__law_pick := rfl
theorem T__law_turns : T[i__law_turns]? = some f__law_turns := rfl
theorem T__law_shuffled : T[i__law_shuffled]? = some f__law_shuffled := rfl
theorem T__law_same : T[i__law_same]? = some f__law_same := rfl
theorem T__law_net_rows : T[i__law_net_rows]? = some f__law_net_rows := rfl
theorem T__law_net_table : T[i__law_net_table]? = some f__law_net_table := rfl
theorem T__law_net_tight : T[i__law_net_tight]? = some f__law_net_tight := rfl
theorem T__law_net_early : T[i__law_net_early]? = some f__law_net_early := rfl
theorem T__law_net_at : T[i__law_net_at]? = some f__law_net_at := rfl
theorem T__law_net_kept : T[i__law_net_kept]? = some f__law_net_kept := rfl
theorem T__law_net_walk : T[i__law_net_walk]? = some f__law_net_walk := rfl
theorem T__law_net_groups : T[i__law_net_groups]? = some f__law_net_groups := rfl
theorem T__law_net_core : T[i__law_net_core]? = some f__law_net_core := rfl
theorem T__law_net_parting : T[i__law_net_parting]? = some f__law_net_parting := rfl
theorem T__law_b_arc : T[i__law_b_arc]? = some f__law_b_arc := rfl
theorem T__law_b_plain : T[i__law_b_plain]? = some f__law_b_plain := rfl
theorem T__law_b_round : T[i__law_b_round]? = some f__law_b_round := rfl
theorem T__law_b_spread_in : T[i__law_b_spread_in]? = some f__law_b_spread_in := rfl
theorem T__law_b_kept_other : T[i__law_b_kept_other]? = some f__law_b_kept_other := rfl
theorem T__law_b_closing : T[i__law_b_closing]? = some f__law_b_closing := rfl
theorem T__law_b_tops : T[i__law_b_tops]? = some f__law_b_tops := rfl
theorem T__law_k13_covers : T[i__law_k13_covers]? = some f__law_k13_covers := rfl
theorem T__law_k13_parted : T[i__law_k13_parted]? = some f__law_k13_parted := rfl
theorem T__law_k13_pair : T[i__law_k13_pair]? = some f__law_k13_pair := rfl
theorem T__law_k13_implied : T[i__law_k13_implied]? = some f__law_k13_implied := rfl
theorem T_law : T[i_law]? = some f_law := rfl
end Law

set_option Elab.async false
set_option linter.all false
set_option autoImplicit false
set_option maxRecDepth 100000
namespace Law
open Flx PySem FNet
/-! the steps, as tactics -/
local macro_rules | `(tactic| walk_at "lk") => `(tactic| ((repeat (first | assumption | exact get_new | (refine get_new' ?_; focus (first | omega | (simp only [List.length_append, List.length_set, List.length_cons, List.length_nil, List.length_map]; omega))) | apply get_set_self | refine get_set (by (first | omega | (simp only [List.length_append, List.length_set, List.length_cons, List.length_nil, List.length_map]; omega))) ?_ | refine get_app ?_ | (apply Ext.get (by assumption)) | (refine Fr.get (by assumption) (by omega) ?_))); done))
local macro_rules | `(tactic| walk_at "r") => `(tactic|
 repeat (
  (with_reducible first
   | refine ss_last ?_
   | refine ss_set ?_
   | refine ss_setT ?_
   | refine ss_par ?_
   | refine ss_setIx ?_
   | refine ss_ex ?_
   | refine ss_for ?_
   | refine ss_whl ?_
   | refine ss_ret ?_
   | refine ss_retN ?_
   | refine ss_brk ?_
   | refine ss_cnt ?_
   | refine ss_pas ?_
   | refine ss_iteR ?_
   | refine ss_iteC ?_
   | refine ss_iteB ?_
   | refine ss_nil ?_
   | refine s_set ?_
   | refine s_setT ?_
   | refine s_par ?_
   | refine par_cons ?_
   | refine par_nil ?_
   | refine s_setIx ?_
   | refine s_ex ?_
   | refine s_ite ?_
   | refine s_for ?_
   | refine s_whl ?_
   | refine s_ret ?_
   | refine s_retN ?_
   | refine s_brk ?_
   | refine s_cnt ?_
   | refine s_pas ?_
   | refine e_cint ?_
   | refine e_cstr ?_
   | refine e_cbl ?_
   | refine e_cnon ?_
   | refine e_bin ?_
   | refine e_neg ?_
   | refine e_cmp ?_
   | refine e_cmp2 ?_
   | refine e_cmp3 ?_
   | refine e_smt ?_
   | refine e_and ?_
   | refine e_or ?_
   | refine e_not ?_
   | refine e_ite ?_
   | refine e_tup ?_
   | refine e_lst ?_
   | refine e_ix ?_
   | refine e_sl ?_
   | refine e_call ?_
   | refine e_blt ?_
   | refine e_isi ?_
   | refine e_mth ?_
   | refine e_lrg ?_
   | refine e_lc ?_
   | refine es_nil ?_
   | refine es_cons ?_
   | refine o_none ?_
   | refine o_some ?_
   | refine w_test ?_
   | refine wc_nil ?_
   | refine wc_one ?_
   | refine i_seq ?_
   | refine i_rng ?_
   | refine i_rgd ?_
   | refine i_enm ?_
   | refine i_zip ?_
   | refine i_rev ?_
   | refine b_add ?_
   | refine b_sub ?_
   | refine c_lt ?_
   | refine c_le ?_
   | refine c_gt ?_
   | refine c_ge ?_
   | refine c_eqI ?_
   | refine c_neI ?_
   | refine c_eqB ?_
   | refine c_neB ?_
   | refine c_is ?_
   | refine c_isnot ?_
   | refine l_lenT ?_
   | refine l_abs ?_
   | refine l_int ?_
   | refine l_max2 ?_
   | refine l_max3 ?_
   | refine l_min3 ?_
   | refine l_max4 ?_
   | refine l_min4 ?_
   | refine l_min2 ?_
   | refine l_tupT ?_
   | refine sl_tup ?_
   | refine ex_int ?_
   | refine ex_truB ?_
   | refine ex_truT ?_
   | refine ex_truI ?_
   | refine if_tt ?_
   | refine if_ff ?_
   | refine l_lstT ?_
   | (apply e_var; focus with_unfolding_all rfl)
   | (refine if_dT ?_ ?_; focus assumption)
   | (refine if_dF ?_ ?_; focus assumption)
   | (refine if_bT ?_ ?_; focus assumption)
   | (refine if_bF ?_ ?_; focus assumption)
   | (refine if_nT ?_ ?_; focus assumption)
   | (refine if_nF ?_ ?_; focus assumption)
   | (refine if_ndT ?_ ?_; focus assumption)
   | (refine if_ndF ?_ ?_; focus assumption)
   | (refine if_bT ?_ ?_; focus with_unfolding_all decide)
   | (refine if_bF ?_ ?_; focus with_unfolding_all decide)
   | (refine b_mulR ?_ ?_; focus with_unfolding_all decide)
   | (refine b_mulF ?_ ?_; focus with_unfolding_all decide)
   | (refine b_mod ?_ ?_; focus (first | decide | omega))
   | (apply ex_isi; focus with_unfolding_all rfl)
   | (apply st_ix; (focus ((repeat (first | assumption | exact get_new | (refine get_new' ?_; focus (first | omega | (simp only [List.length_append, List.length_set, List.length_cons, List.length_nil, List.length_map]; omega))) | apply get_set_self | refine get_set (by (first | omega | (simp only [List.length_append, List.length_set, List.length_cons, List.length_nil, List.length_map]; omega))) ?_ | refine get_app ?_ | (apply Ext.get (by assumption)) | (refine Fr.get (by assumption) (by omega) ?_))); done)); focus with_unfolding_all rfl)
   | (apply ix_ref; (focus ((repeat (first | assumption | exact get_new | (refine get_new' ?_; focus (first | omega | (simp only [List.length_append, List.length_set, List.length_cons, List.length_nil, List.length_map]; omega))) | apply get_set_self | refine get_set (by (first | omega | (simp only [List.length_append, List.length_set, List.length_cons, List.length_nil, List.length_map]; omega))) ?_ | refine get_app ?_ | (apply Ext.get (by assumption)) | (refine Fr.get (by assumption) (by omega) ?_))); done)); focus with_unfolding_all rfl)
   | (apply ix_tup; focus with_unfolding_all rfl)
   | (apply l_lenR; focus ((repeat (first | assumption | exact get_new | (refine get_new' ?_; focus (first | omega | (simp only [List.length_append, List.length_set, List.length_cons, List.length_nil, List.length_map]; omega))) | apply get_set_self | refine get_set (by (first | omega | (simp only [List.length_append, List.length_set, List.length_cons, List.length_nil, List.length_map]; omega))) ?_ | refine get_app ?_ | (apply Ext.get (by assumption)) | (refine Fr.get (by assumption) (by omega) ?_))); done))
   | (apply l_tupR; focus ((repeat (first | assumption | exact get_new | (refine get_new' ?_; focus (first | omega | (simp only [List.length_append, List.length_set, List.length_cons, List.length_nil, List.length_map]; omega))) | apply get_set_self | refine get_set (by (first | omega | (simp only [List.length_append, List.length_set, List.length_cons, List.length_nil, List.length_map]; omega))) ?_ | refine get_app ?_ | (apply Ext.get (by assumption)) | (refine Fr.get (by assumption) (by omega) ?_))); done))
   | (apply l_lstR; focus ((repeat (first | assumption | exact get_new | (refine get_new' ?_; focus (first | omega | (simp only [List.length_append, List.length_set, List.length_cons, List.length_nil, List.length_map]; omega))) | apply get_set_self | refine get_set (by (first | omega | (simp only [List.length_append, List.length_set, List.length_cons, List.length_nil, List.length_map]; omega))) ?_ | refine get_app ?_ | (apply Ext.get (by assumption)) | (refine Fr.get (by assumption) (by omega) ?_))); done))
   | (apply sl_ref; focus ((repeat (first | assumption | exact get_new | (refine get_new' ?_; focus (first | omega | (simp only [List.length_append, List.length_set, List.length_cons, List.length_nil, List.length_map]; omega))) | apply get_set_self | refine get_set (by (first | omega | (simp only [List.length_append, List.length_set, List.length_cons, List.length_nil, List.length_map]; omega))) ?_ | refine get_app ?_ | (apply Ext.get (by assumption)) | (refine Fr.get (by assumption) (by omega) ?_))); done))
   | (refine and_step ?_ ?_; focus (with_unfolding_all decide)))
  (try dsimp only [List.set_cons_zero, List.set_cons_succ, isNon, Bool.not_true, Bool.not_false, beq_self_eq_true, List.length_cons, List.length_nil])))
local macro_rules | `(tactic| walk_at "R") => `(tactic|
 repeat (
  (with_reducible first
   | refine ss_cons ?_
   | refine ss_set ?_
   | refine ss_setT ?_
   | refine ss_par ?_
   | refine ss_setIx ?_
   | refine ss_ex ?_
   | refine ss_for ?_
   | refine ss_whl ?_
   | refine ss_ret ?_
   | refine ss_retN ?_
   | refine ss_brk ?_
   | refine ss_cnt ?_
   | refine ss_pas ?_
   | refine ss_iteR ?_
   | refine ss_iteC ?_
   | refine ss_iteB ?_
   | refine ss_nil ?_
   | refine s_set ?_
   | refine s_setT ?_
   | refine s_par ?_
   | refine par_cons ?_
   | refine par_nil ?_
   | refine s_setIx ?_
   | refine s_ex ?_
   | refine s_ite ?_
   | refine s_for ?_
   | refine s_whl ?_
   | refine s_ret ?_
   | refine s_retN ?_
   | refine s_brk ?_
   | refine s_cnt ?_
   | refine s_pas ?_
   | refine e_cint ?_
   | refine e_cstr ?_
   | refine e_cbl ?_
   | refine e_cnon ?_
   | refine e_bin ?_
   | refine e_neg ?_
   | refine e_cmp ?_
   | refine e_cmp2 ?_
   | refine e_cmp3 ?_
   | refine e_smt ?_
   | refine e_and ?_
   | refine e_or ?_
   | refine e_not ?_
   | refine e_ite ?_
   | refine e_tup ?_
   | refine e_lst ?_
   | refine e_ix ?_
   | refine e_sl ?_
   | refine e_call ?_
   | refine e_blt ?_
   | refine e_isi ?_
   | refine e_mth ?_
   | refine e_lrg ?_
   | refine e_lc ?_
   | refine es_nil ?_
   | refine es_cons ?_
   | refine o_none ?_
   | refine o_some ?_
   | refine w_test ?_
   | refine wc_nil ?_
   | refine wc_one ?_
   | refine i_seq ?_
   | refine i_rng ?_
   | refine i_rgd ?_
   | refine i_enm ?_
   | refine i_zip ?_
   | refine i_rev ?_
   | refine b_add ?_
   | refine b_sub ?_
   | refine c_lt ?_
   | refine c_le ?_
   | refine c_gt ?_
   | refine c_ge ?_
   | refine c_eqI ?_
   | refine c_neI ?_
   | refine c_eqB ?_
   | refine c_neB ?_
   | refine c_is ?_
   | refine c_isnot ?_
   | refine l_lenT ?_
   | refine l_abs ?_
   | refine l_int ?_
   | refine l_max2 ?_
   | refine l_max3 ?_
   | refine l_min3 ?_
   | refine l_max4 ?_
   | refine l_min4 ?_
   | refine l_min2 ?_
   | refine l_tupT ?_
   | refine sl_tup ?_
   | refine ex_int ?_
   | refine ex_truB ?_
   | refine ex_truT ?_
   | refine ex_truI ?_
   | refine if_tt ?_
   | refine if_ff ?_
   | refine l_lstT ?_
   | (apply e_var; focus with_unfolding_all rfl)
   | (refine if_dT ?_ ?_; focus assumption)
   | (refine if_dF ?_ ?_; focus assumption)
   | (refine if_bT ?_ ?_; focus assumption)
   | (refine if_bF ?_ ?_; focus assumption)
   | (refine if_nT ?_ ?_; focus assumption)
   | (refine if_nF ?_ ?_; focus assumption)
   | (refine if_ndT ?_ ?_; focus assumption)
   | (refine if_ndF ?_ ?_; focus assumption)
   | (refine if_bT ?_ ?_; focus with_unfolding_all decide)
   | (refine if_bF ?_ ?_; focus with_unfolding_all decide)
   | (refine b_mulR ?_ ?_; focus with_unfolding_all decide)
   | (refine b_mulF ?_ ?_; focus with_unfolding_all decide)
   | (refine b_mod ?_ ?_; focus (first | decide | omega))
   | (apply ex_isi; focus with_unfolding_all rfl)
   | (apply st_ix; (focus ((repeat (first | assumption | exact get_new | (refine get_new' ?_; focus (first | omega | (simp only [List.length_append, List.length_set, List.length_cons, List.length_nil, List.length_map]; omega))) | apply get_set_self | refine get_set (by (first | omega | (simp only [List.length_append, List.length_set, List.length_cons, List.length_nil, List.length_map]; omega))) ?_ | refine get_app ?_ | (apply Ext.get (by assumption)) | (refine Fr.get (by assumption) (by omega) ?_))); done)); focus with_unfolding_all rfl)
   | (apply ix_ref; (focus ((repeat (first | assumption | exact get_new | (refine get_new' ?_; focus (first | omega | (simp only [List.length_append, List.length_set, List.length_cons, List.length_nil, List.length_map]; omega))) | apply get_set_self | refine get_set (by (first | omega | (simp only [List.length_append, List.length_set, List.length_cons, List.length_nil, List.length_map]; omega))) ?_ | refine get_app ?_ | (apply Ext.get (by assumption)) | (refine Fr.get (by assumption) (by omega) ?_))); done)); focus with_unfolding_all rfl)
   | (apply ix_tup; focus with_unfolding_all rfl)
   | (apply l_lenR; focus ((repeat (first | assumption | exact get_new | (refine get_new' ?_; focus (first | omega | (simp only [List.length_append, List.length_set, List.length_cons, List.length_nil, List.length_map]; omega))) | apply get_set_self | refine get_set (by (first | omega | (simp only [List.length_append, List.length_set, List.length_cons, List.length_nil, List.length_map]; omega))) ?_ | refine get_app ?_ | (apply Ext.get (by assumption)) | (refine Fr.get (by assumption) (by omega) ?_))); done))
   | (apply l_tupR; focus ((repeat (first | assumption | exact get_new | (refine get_new' ?_; focus (first | omega | (simp only [List.length_append, List.length_set, List.length_cons, List.length_nil, List.length_map]; omega))) | apply get_set_self | refine get_set (by (first | omega | (simp only [List.length_append, List.length_set, List.length_cons, List.length_nil, List.length_map]; omega))) ?_ | refine get_app ?_ | (apply Ext.get (by assumption)) | (refine Fr.get (by assumption) (by omega) ?_))); done))
   | (apply l_lstR; focus ((repeat (first | assumption | exact get_new | (refine get_new' ?_; focus (first | omega | (simp only [List.length_append, List.length_set, List.length_cons, List.length_nil, List.length_map]; omega))) | apply get_set_self | refine get_set (by (first | omega | (simp only [List.length_append, List.length_set, List.length_cons, List.length_nil, List.length_map]; omega))) ?_ | refine get_app ?_ | (apply Ext.get (by assumption)) | (refine Fr.get (by assumption) (by omega) ?_))); done))
   | (apply sl_ref; focus ((repeat (first | assumption | exact get_new | (refine get_new' ?_; focus (first | omega | (simp only [List.length_append, List.length_set, List.length_cons, List.length_nil, List.length_map]; omega))) | apply get_set_self | refine get_set (by (first | omega | (simp only [List.length_append, List.length_set, List.length_cons, List.length_nil, List.length_map]; omega))) ?_ | refine get_app ?_ | (apply Ext.get (by assumption)) | (refine Fr.get (by assumption) (by omega) ?_))); done))
   | (refine and_step ?_ ?_; focus (with_unfolding_all decide)))
  (try dsimp only [List.set_cons_zero, List.set_cons_succ, isNon, Bool.not_true, Bool.not_false, beq_self_eq_true, List.length_cons, List.length_nil])))
local macro_rules | `(tactic| walk_at "q") => `(tactic|
 repeat (
  (with_reducible first
   | refine ss_last ?_
   | refine ss_set ?_
   | refine ss_setT ?_
   | refine ss_par ?_
   | refine ss_setIx ?_
   | refine ss_ex ?_
   | refine ss_for ?_
   | refine ss_whl ?_
   | refine ss_ret ?_
   | refine ss_retN ?_
   | refine ss_brk ?_
   | refine ss_cnt ?_
   | refine ss_pas ?_
   | refine ss_nil ?_
   | refine s_set ?_
   | refine s_setT ?_
   | refine s_par ?_
   | refine par_cons ?_
   | refine par_nil ?_
   | refine s_setIx ?_
   | refine s_ex ?_
   | refine s_ite ?_
   | refine s_for ?_
   | refine s_whl ?_
   | refine s_ret ?_
   | refine s_retN ?_
   | refine s_brk ?_
   | refine s_cnt ?_
   | refine s_pas ?_
   | refine e_cint ?_
   | refine e_cstr ?_
   | refine e_cbl ?_
   | refine e_cnon ?_
   | refine e_bin ?_
   | refine e_neg ?_
   | refine e_cmp ?_
   | refine e_cmp2 ?_
   | refine e_cmp3 ?_
   | refine e_smt ?_
   | refine e_and ?_
   | refine e_or ?_
   | refine e_not ?_
   | refine e_ite ?_
   | refine e_tup ?_
   | refine e_lst ?_
   | refine e_ix ?_
   | refine e_sl ?_
   | refine e_call ?_
   | refine e_blt ?_
   | refine e_isi ?_
   | refine e_mth ?_
   | refine e_lrg ?_
   | refine e_lc ?_
   | refine es_nil ?_
   | refine es_cons ?_
   | refine o_none ?_
   | refine o_some ?_
   | refine w_test ?_
   | refine wc_nil ?_
   | refine wc_one ?_
   | refine i_seq ?_
   | refine i_rng ?_
   | refine i_rgd ?_
   | refine i_enm ?_
   | refine i_zip ?_
   | refine i_rev ?_
   | refine b_add ?_
   | refine b_sub ?_
   | refine c_lt ?_
   | refine c_le ?_
   | refine c_gt ?_
   | refine c_ge ?_
   | refine c_eqI ?_
   | refine c_neI ?_
   | refine c_eqB ?_
   | refine c_neB ?_
   | refine c_is ?_
   | refine c_isnot ?_
   | refine l_lenT ?_
   | refine l_abs ?_
   | refine l_int ?_
   | refine l_max2 ?_
   | refine l_max3 ?_
   | refine l_min3 ?_
   | refine l_max4 ?_
   | refine l_min4 ?_
   | refine l_min2 ?_
   | refine l_tupT ?_
   | refine sl_tup ?_
   | refine ex_int ?_
   | refine ex_truB ?_
   | refine ex_truT ?_
   | refine ex_truI ?_
   | refine if_tt ?_
   | refine if_ff ?_
   | refine l_lstT ?_
   | (apply e_var; focus with_unfolding_all rfl)
   | (refine if_dT ?_ ?_; focus assumption)
   | (refine if_dF ?_ ?_; focus assumption)
   | (refine if_bT ?_ ?_; focus assumption)
   | (refine if_bF ?_ ?_; focus assumption)
   | (refine if_nT ?_ ?_; focus assumption)
   | (refine if_nF ?_ ?_; focus assumption)
   | (refine if_ndT ?_ ?_; focus assumption)
   | (refine if_ndF ?_ ?_; focus assumption)
   | (refine if_bT ?_ ?_; focus with_unfolding_all decide)
   | (refine if_bF ?_ ?_; focus with_unfolding_all decide)
   | (refine b_mulR ?_ ?_; focus with_unfolding_all decide)
   | (refine b_mulF ?_ ?_; focus with_unfolding_all decide)
   | (refine b_mod ?_ ?_; focus (first | decide | omega))
   | (apply ex_isi; focus with_unfolding_all rfl)
   | (apply st_ix; (focus ((repeat (first | assumption | exact get_new | (refine get_new' ?_; focus (first | omega | (simp only [List.length_append, List.length_set, List.length_cons, List.length_nil, List.length_map]; omega))) | apply get_set_self | refine get_set (by (first | omega | (simp only [List.length_append, List.length_set, List.length_cons, List.length_nil, List.length_map]; omega))) ?_ | refine get_app ?_ | (apply Ext.get (by assumption)) | (refine Fr.get (by assumption) (by omega) ?_))); done)); focus with_unfolding_all rfl)
   | (apply ix_ref; (focus ((repeat (first | assumption | exact get_new | (refine get_new' ?_; focus (first | omega | (simp only [List.length_append, List.length_set, List.length_cons, List.length_nil, List.length_map]; omega))) | apply get_set_self | refine get_set (by (first | omega | (simp only [List.length_append, List.length_set, List.length_cons, List.length_nil, List.length_map]; omega))) ?_ | refine get_app ?_ | (apply Ext.get (by assumption)) | (refine Fr.get (by assumption) (by omega) ?_))); done)); focus with_unfolding_all rfl)
   | (apply ix_tup; focus with_unfolding_all rfl)
   | (apply l_lenR; focus ((repeat (first | assumption | exact get_new | (refine get_new' ?_; focus (first | omega | (simp only [List.length_append, List.length_set, List.length_cons, List.length_nil, List.length_map]; omega))) | apply get_set_self | refine get_set (by (first | omega | (simp only [List.length_append, List.length_set, List.length_cons, List.length_nil, List.length_map]; omega))) ?_ | refine get_app ?_ | (apply Ext.get (by assumption)) | (refine Fr.get (by assumption) (by omega) ?_))); done))
   | (apply l_tupR; focus ((repeat (first | assumption | exact get_new | (refine get_new' ?_; focus (first | omega | (simp only [List.length_append, List.length_set, List.length_cons, List.length_nil, List.length_map]; omega))) | apply get_set_self | refine get_set (by (first | omega | (simp only [List.length_append, List.length_set, List.length_cons, List.length_nil, List.length_map]; omega))) ?_ | refine get_app ?_ | (apply Ext.get (by assumption)) | (refine Fr.get (by assumption) (by omega) ?_))); done))
   | (apply l_lstR; focus ((repeat (first | assumption | exact get_new | (refine get_new' ?_; focus (first | omega | (simp only [List.length_append, List.length_set, List.length_cons, List.length_nil, List.length_map]; omega))) | apply get_set_self | refine get_set (by (first | omega | (simp only [List.length_append, List.length_set, List.length_cons, List.length_nil, List.length_map]; omega))) ?_ | refine get_app ?_ | (apply Ext.get (by assumption)) | (refine Fr.get (by assumption) (by omega) ?_))); done))
   | (apply sl_ref; focus ((repeat (first | assumption | exact get_new | (refine get_new' ?_; focus (first | omega | (simp only [List.length_append, List.length_set, List.length_cons, List.length_nil, List.length_map]; omega))) | apply get_set_self | refine get_set (by (first | omega | (simp only [List.length_append, List.length_set, List.length_cons, List.length_nil, List.length_map]; omega))) ?_ | refine get_app ?_ | (apply Ext.get (by assumption)) | (refine Fr.get (by assumption) (by omega) ?_))); done))
   | (refine and_step ?_ ?_; focus (with_unfolding_all decide)))
  (try dsimp only [List.set_cons_zero, List.set_cons_succ, isNon, Bool.not_true, Bool.not_false, beq_self_eq_true, List.length_cons, List.length_nil])))
theorem ext_ok {k : Nat} {S : St} {n : Nat} {x y : D} {g o : Nat → Option Int} {l : Option Int} {Q : QD} (hn : n < 1000) (hx : RowIs S x n g) (hy : RowIs S y n o)
    (q : ∀ d S', RowIs S' d n (fun j => omax (g j) (oadd l (o j))) → (d = x ∨ ∃ xs, d = .tup xs) → Ext S S' → Q d S') : callW T (k + 1) i_extended [x, oD l, y] S Q := by
  refine call_of T_extended rfl ?_
  dsimp only [f_extended, b_extended, startD, List.map, List.length_cons, List.length_nil, Nat.reduceAdd, Nat.reduceSub, List.replicate, List.cons_append, List.nil_append, List.append_nil]
  walk_at "r"
  cases l with
  | none =>
    refine if_bT rfl ?_
    walk_at "r"
    exact q x S (by unfold RowIs at hx ⊢; rw [hx]; congr 1; apply rowD_congr; intro j _; cases g j <;> rfl) (Or.inl rfl) (Ext.refl _)
  | some l =>
    refine if_bF rfl ?_
    walk_at "r"
    refine ⟨_, _, itemsOf_ext (Ext.new ..) hx, itemsOf_ext (Ext.new ..) hy, ?_⟩
    refine for_inv (callW_mono T _) (fun i σ S' => ∃ k4 k5, σ = [some x, some (.int l), some y, some (.ref S.length), k4, k5] ∧ S'[S.length]? = some (.lst (rowD i fun j => omax (g j) (oadd (some l) (o j)))) ∧ Ext S S') ⟨_, _, rfl, get_new, Ext.new ..⟩ (fun i σ S' h => by obtain ⟨_, _, _, _, h⟩ := h; exact ⟨itemsOf_ext h hx, itemsOf_ext h hy⟩) ?_ ?_
    · rintro i z σ S' hz ⟨k4, k5, rfl, hf, e⟩
      have hi : i < n := by
        have := (List.getElem?_eq_some_iff.1 hz).1
        rw [List.length_zipWith, rowD_len, rowD_len] at this; omega
      rw [List.getElem?_zipWith, rowD_get hi, rowD_get hi] at hz
      cases hz
      have grow : ∀ d, d = oD (omax (g i) (oadd (some l) (o i))) → (S'.set S.length (.lst (rowD i (fun j => omax (g j) (oadd (some l) (o j))) ++ [d])))[S.length]? = some (.lst (rowD (i + 1) fun j => omax (g j) (oadd (some l) (o j)))) := fun d hd => by
        rw [get_set_self hf, hd]; congr 2
        unfold rowD; rw [List.range_succ, List.map_append]; rfl
      refine ⟨_, rfl, ?_⟩
      walk_at "R"
      cases ho : o i with
      | none =>
        rw [ho] at grow
        walk_at "R"
        refine ⟨lstD_lst hf, ?_⟩
        walk_at "R"
        refine m_append hf (by rw [rowD_len]; unfold sizeLine; omega) ?_
        walk_at "R"
        exact ⟨_, _, rfl, grow _ (by cases g i <;> rfl), e.set _ (by omega)⟩
      | some w =>
        rw [ho] at grow
        cases hg : g i with
        | none =>
          rw [hg] at grow
          refine if_nT rfl ?_
          walk_at "R"
          refine ⟨lstD_lst hf, ?_⟩
          walk_at "R"
          refine b_add ?_
          walk_at "R"
          refine m_append hf (by rw [rowD_len]; unfold sizeLine; omega) ?_
          walk_at "R"
          exact ⟨_, _, rfl, grow _ rfl, e.set _ (by omega)⟩
        | some v =>
          rw [hg] at grow
          refine if_nT rfl ?_
          walk_at "R"
          refine if_bF rfl ?_
          walk_at "R"
          refine b_add ?_
          refine c_lt ?_
          walk_at "R"
          refine if_d (fun h => ?_) (fun h => ?_)
          · walk_at "R"
            refine ⟨lstD_lst hf, ?_⟩
            walk_at "R"
            refine b_add ?_
            walk_at "R"
            refine m_append hf (by rw [rowD_len]; unfold sizeLine; omega) ?_
            walk_at "R"
            exact ⟨_, _, rfl, grow _ (by show _ = oD (some (if v < l + w then l + w else v)); rw [if_pos h]; rfl), e.set _ (by omega)⟩
          · walk_at "R"
            refine ⟨lstD_lst hf, ?_⟩
            walk_at "R"
            refine m_append hf (by rw [rowD_len]; unfold sizeLine; omega) ?_
            walk_at "R"
            exact ⟨_, _, rfl, grow _ (by show _ = oD (some (if v < l + w then l + w else v)); rw [if_neg h]), e.set _ (by omega)⟩
    · rintro σ S' ⟨k4, k5, rfl, hf, e⟩
      rw [List.length_zipWith, rowD_len, rowD_len, Nat.min_self] at hf
      walk_at "r"
      exact q _ _ rfl (Or.inr ⟨_, rfl⟩) e
theorem tightened_ok {k : Nat} {S : St} {n : Nat} {G : F} {i j w : Int} {Q : QD} (hn : n < 1000) (i0 : -(n : Int) ≤ i) (i1 : i < n) (j0 : -(n : Int) ≤ j) (j1 : j < n)
    (qn : 0 < (oadd (G (pyI n j) (pyI n i)) (some w)).getD 0 → Q .non S)
    (qs : ¬ 0 < (oadd (G (pyI n j) (pyI n i)) (some w)).getD 0 → ∀ S', Ext S S' → Q (tabD n (tight (pyI n i) (pyI n j) w G)) S') :
    callW T (k + 2) i_tightened [tabD n G, .tup [.int i, .int j, .int w]] S Q := by
  refine call_of T_tightened rfl ?_
  dsimp only [f_tightened, b_tightened, startD, List.map, List.length_cons, List.length_nil, Nat.reduceAdd, Nat.reduceSub, List.replicate, List.cons_append, List.nil_append, List.append_nil]
  walk_at "r"
  refine ⟨_, rfl, ?_⟩
  walk_at "r"
  refine tabD_at j0 j1 ?_
  walk_at "r"
  refine ix_tup (rowD_py i0 i1) ?_
  walk_at "q"
  refine ss_if (callW_mono T _) (fun b S' => S' = S ∧ (b = true ↔ 0 < (oadd (G (pyI n j) (pyI n i)) (some w)).getD 0)) ?_ ?_ ?_
  · walk_at "r"
    cases e : G (pyI n j) (pyI n i) with
    | none =>
      refine if_bF rfl ?_
      walk_at "r"
      exact ⟨rfl, (fun h => by cases h), fun h => absurd h (by show ¬ (0 : Int) < 0; decide)⟩
    | some v =>
      refine if_bT rfl ?_
      walk_at "r"
      refine b_add ?_
      walk_at "r"
      exact ⟨rfl, decide_eq_true_iff⟩
  · rintro S' ⟨rfl, h⟩
    walk_at "r"
    exact qn (h.1 rfl)
  rintro S' ⟨rfl, h⟩
  have h' : ¬ 0 < (oadd (G (pyI n j) (pyI n i)) (some w)).getD 0 := fun g => by have := h.2 g; cases this
  walk_at "r"
  refine tabD_at j0 j1 ?_
  walk_at "r"
  refine ⟨_, rfl, ?_⟩
  refine for_inv (callW_mono T _) (fun u σ S2 => ∃ k5 k9, σ = [some (tabD n G), some (.tup [.int i, .int j, .int w]), some (oD (G (pyI n j) (pyI n i))), some (.tup (rowD n (G (pyI n j)))), some (.ref S'.length), k5, some (.int i), some (.int j), some (.int w), k9] ∧
    S2[S'.length]? = some (.lst ((List.range u).map fun u => D.tup (rowD n (tight (pyI n i) (pyI n j) w G u)))) ∧ Ext S' S2) ⟨_, _, rfl, get_new, Ext.new ..⟩ (fun i σ S' h => still_tup ..) ?_ ?_
  · rintro u x σ S2 hx ⟨k5, k9, rfl, hr, e⟩
    have hu : u < n := by have := (List.getElem?_eq_some_iff.1 hx).1; rw [List.length_map, List.length_range] at this; exact this
    rw [List.getElem?_map, List.getElem?_range hu] at hx
    cases hx
    refine ⟨_, rfl, ?_⟩
    walk_at "r"
    refine ix_tup (rowD_py i0 i1) ?_
    walk_at "r"
    refine ss_cut (callW_mono T _) (fun σ' S3 => S2 = S3 ∧ σ' = [some (tabD n G), some (.tup [.int i, .int j, .int w]), some (oD (G (pyI n j) (pyI n i))), some (.tup (rowD n (G (pyI n j)))), some (.ref S'.length), some (.tup (rowD n (G u))), some (.int i), some (.int j), some (.int w), some (oD (oadd (G u (pyI n i)) (some w)))]) ?_ ?_
    · walk_at "r"
      cases e1 : G u (pyI n i) with
      | none =>
        refine if_nF rfl ?_
        walk_at "r"
        exact ⟨rfl, rfl⟩
      | some a =>
        refine if_nT rfl ?_
        walk_at "r"
        refine b_add ?_
        walk_at "r"
        exact ⟨rfl, rfl⟩
    rintro σ' S3 ⟨rfl, rfl⟩
    walk_at "r"
    refine ⟨lstD_lst hr, ?_⟩
    walk_at "r"
    refine ext_ok (n := n) (g := G u) (o := G (pyI n j)) hn rfl rfl fun d S3 hd hd' e3 => ?_
    walk_at "r"
    obtain ⟨xs, rfl⟩ : ∃ xs, d = .tup xs := by
      rcases hd' with rfl | h
      · exact ⟨_, rfl⟩
      · exact h
    cases hd
    refine m_append (e3.get hr) (by rw [List.length_map, List.length_range]; unfold sizeLine; omega) ?_
    walk_at "r"
    refine ⟨_, _, rfl, ?_, (e.trans e3).set _ (Nat.le_refl _)⟩
    rw [get_set_self (e3.get hr)]
    congr 2
    rw [List.range_succ, List.map_append]; rfl
  · rintro σ S2 ⟨k5, k9, rfl, hr, e⟩
    rw [List.length_map, List.length_range] at hr
    walk_at "r"
    exact qs h' _ e
theorem cut_neg1 {xs : List D} {n : Nat} (h : xs.length = n + 1) : cutD xs none (some (-1)) = xs.take n := by
  unfold cutD
  rw [h]
  show (xs.drop 0).take ((-1 + ((n + 1 : Nat) : Int)).toNat - 0) = _
  rw [List.drop_zero, show (-1 + ((n + 1 : Nat) : Int)).toNat - 0 = n by omega]
theorem earliest_of_ok {k : Nat} {S : St} {m : Nat} {G : F} {Q : QD} (q : Q (.tup (rowD m (G m))) S) : callW T (k + 1) i_earliest_of [tabD (m + 1) G] S Q := by
  refine call_of T_earliest_of rfl ?_
  dsimp only [f_earliest_of, b_earliest_of, startD, List.map, List.length_cons, List.length_nil, Nat.reduceAdd, Nat.reduceSub, List.replicate, List.cons_append, List.nil_append, List.append_nil]
  walk_at "r"
  refine tabD_at (by omega) (by omega) ?_
  rw [show pyI (m + 1) (-1) = m by unfold pyI; rw [if_neg (by omega)]; omega]
  walk_at "r"
  rw [cut_row]
  exact q
theorem with_difference_ok {k : Nat} {S : St} {n : Nat} {G : F} {i j x : Int} {Q : QD} (hn : n < 1000) (i0 : -(n : Int) ≤ i) (i1 : i < n) (j0 : -(n : Int) ≤ j) (j1 : j < n)
    (qn : pin n i j x G = none → ∀ S', Ext S S' → Q .non S') (qs : ∀ H, pin n i j x G = some H → ∀ S', Ext S S' → Q (tabD n H) S') : callW T (k + 3) i_with_difference [tabD n G, .int i, .int j, .int x] S Q := by
  refine call_of T_with_difference rfl ?_
  dsimp only [f_with_difference, b_with_difference, startD, List.map, List.length_cons, List.length_nil, Nat.reduceAdd, Nat.reduceSub, List.replicate, List.cons_append, List.nil_append, List.append_nil]
  unfold pin at qn qs
  walk_at "r"
  refine tightened_ok hn i0 i1 j0 j1 (fun h => ?_) (fun h S1 e1 => ?_)
  · rw [if_pos h] at qn
    walk_at "r"
    exact qn rfl _ (Ext.refl _)
  · rw [if_neg h] at qn qs
    walk_at "r"
    refine if_bF rfl ?_
    walk_at "r"
    refine tightened_ok hn j0 j1 i0 i1 (fun h2 => ?_) (fun h2 S2 e2 => ?_)
    · rw [if_pos h2] at qn
      exact qn rfl _ e1
    · rw [if_neg h2] at qs
      exact qs _ rfl _ (e1.trans e2)
theorem schedule_at_ok {k : Nat} {S : St} {m : Nat} {G : F} {i j x : Int} {Q : QD} (hn : m < 999) (i0 : -1 ≤ i) (i1 : i < m) (j0 : -1 ≤ j) (j1 : j < m)
    (qn : pin (m + 1) i j x G = none → ∀ S', Ext S S' → Q .non S') (qs : ∀ H, pin (m + 1) i j x G = some H → ∀ S', Ext S S' → Q (.tup (rowD m (H m))) S') : callW T (k + 4) i_schedule_at [tabD (m + 1) G, .int i, .int j, .int x] S Q := by
  refine call_of T_schedule_at rfl ?_
  dsimp only [f_schedule_at, b_schedule_at, startD, List.map, List.length_cons, List.length_nil, Nat.reduceAdd, Nat.reduceSub, List.replicate, List.cons_append, List.nil_append, List.append_nil]
  walk_at "r"
  refine with_difference_ok (n := m + 1) (by omega) (by omega) (by omega) (by omega) (by omega) (fun h S1 e1 => ?_) (fun H h S1 e1 => ?_)
  · walk_at "r"
    exact qn h _ e1
  · walk_at "r"
    refine if_bF rfl ?_
    walk_at "r"
    refine earliest_of_ok ?_
    exact qs H h _ e1
theorem are_rigid_ok {k : Nat} {S : St} {m : Nat} {G : F} {x y : Int} {Q : QD} (hx : x ∈ nds m) (hy : y ∈ nds m) (q : Q (.bl (rig m G x y)) S) : callW T (k + 1) i_are_rigid [tabD (m + 1) G, .int x, .int y] S Q := by
  refine call_of T_are_rigid rfl ?_
  dsimp only [f_are_rigid, b_are_rigid, startD, List.map, List.length_cons, List.length_nil, Nat.reduceAdd, Nat.reduceSub, List.replicate, List.cons_append, List.nil_append, List.append_nil]
  obtain ⟨x0, x1⟩ := mem_nds.1 hx
  obtain ⟨y0, y1⟩ := mem_nds.1 hy
  unfold rig gg at q
  walk_at "q"
  refine tabD_at (by omega) (by omega) ?_
  walk_at "q"
  refine ix_tup (rowD_py (by omega) (by omega)) ?_
  walk_at "q"
  refine tabD_at (by omega) (by omega) ?_
  walk_at "q"
  refine ix_tup (rowD_py (by omega) (by omega)) ?_
  walk_at "q"
  cases e1 : G (pyI (m + 1) x) (pyI (m + 1) y) with
  | none =>
    rw [e1] at q
    refine if_nF rfl ?_
    walk_at "q"
    exact q
  | some a =>
    refine if_nT rfl ?_
    walk_at "q"
    cases e2 : G (pyI (m + 1) y) (pyI (m + 1) x) with
    | none =>
      rw [e1, e2] at q
      refine if_nF rfl ?_
      walk_at "q"
      exact q
    | some b =>
      rw [e1, e2] at q
      refine if_nT rfl ?_
      walk_at "q"
      refine b_add ?_
      refine c_eqI ?_
      exact q
theorem groups_of_ok {k : Nat} {S : St} {m : Nat} {G : F} {Q : QD} (hm : m ≤ 8) (g : GdT m G) (q : ∀ S', Ext S S' → Q (.tup ((hds m G).map (grpD m G))) S') : callW T (k + 2) i_groups_of [tabD (m + 1) G] S Q := by
  refine call_of T_groups_of rfl ?_
  dsimp only [f_groups_of, b_groups_of, startD, List.map, List.length_cons, List.length_nil, Nat.reduceAdd, Nat.reduceSub, List.replicate, List.cons_append, List.nil_append, List.append_nil]
  walk_at "q"
  refine l_lenTab ?_
  walk_at "q"
  rw [show ((m + 1 : Nat) : Int) - 1 = m by omega]
  refine r_two (by omega) ?_
  rw [nds_rg]
  refine for_inv (callW_mono T _) (fun c σ S' => ∃ k3 k4, σ = [some (tabD (m + 1) G), some (.int m), some (.ref S.length), k3, k4, none, none] ∧ S'[S.length]? = some (.lst ((((nds m).take c).filter fun i => decide (hd m G i = i)).map (grpD m G))) ∧ Ext S S')
    ⟨_, _, rfl, get_new, Ext.new ..⟩ (fun _ _ _ _ => trivial) ?_ ?_
  · rintro c x σ S1 hx ⟨k3, k4, rfl, hgr, e1⟩
    obtain ⟨i, hi, rfl⟩ := get_of_map hx
    have hin := List.mem_of_getElem? hi
    have hc := (List.getElem?_eq_some_iff.1 hi).1
    rw [nds_len] at hc
    have hnx := filter_next (p := fun i => decide (hd m G i = i)) hi
    have hll : (((nds m).take c).filter fun i => decide (hd m G i = i)).length ≤ c := Nat.le_trans (List.length_filter_le _ _) (by rw [List.length_take]; omega)
    refine ⟨_, rfl, ?_⟩
    walk_at "q"
    refine r_two (by omega) ⟨by rw [rgD_len]; unfold sizeLine; omega, ?_⟩
    rw [nds_rg]
    refine lc_filtE (callW_mono T _) D.int (prD m G) (rig m G i) (fun _ _ => trivial) ?_ ?_
    · intro j hj S2 e2
      obtain ⟨j0, j1⟩ := mem_nds.1 hj
      refine ⟨_, rfl, ?_, fun _ S3 e3 => ?_⟩
      · walk_at "q"
        refine are_rigid_ok hin hj ?_
        walk_at "q"
        exact ⟨rfl, Ext.refl _⟩
      · walk_at "q"
        refine tabD_at (by omega) (by omega) ?_
        walk_at "q"
        refine ix_tup (rowD_py (by omega) (by omega)) ?_
        have he : G (pyI (m + 1) (-1)) (pyI (m + 1) j) = some (ear m G j) := (ear_ok g hj).1
        rw [he]
        walk_at "q"
        exact ⟨rfl, Ext.refl _⟩
    intro S2 e2
    walk_at "q"
    refine b_sortN get_new ?_
    have hg2 : (S2 ++ [MO.lst (((nds m).filter (rig m G i)).map (prD m G))] ++ [MO.lst ((sortN m G ((nds m).filter (rig m G i))).map (prD m G))])[(S2 ++ [MO.lst (((nds m).filter (rig m G i)).map (prD m G))]).length]? = some (.lst ((grp m G i).map (prD m G))) := get_new
    have e3 : Ext S1 (S2 ++ [MO.lst (((nds m).filter (rig m G i)).map (prD m G))] ++ [MO.lst ((sortN m G ((nds m).filter (rig m G i))).map (prD m G))]) := e2.trans ((Ext.new ..).trans (Ext.new ..))
    generalize (S2 ++ [MO.lst (((nds m).filter (rig m G i)).map (prD m G))]).length = r at *
    generalize S2 ++ [MO.lst (((nds m).filter (rig m G i)).map (prD m G))] ++ [MO.lst ((sortN m G ((nds m).filter (rig m G i))).map (prD m G))] = S3 at *
    obtain ⟨hd1, hd2, hd3, hd4⟩ := hd_at g hin
    walk_at "q"
    refine ix_ref hg2 (atI_int (d := prD m G (hd m G i)) (by decide) (by rw [List.getElem?_map, show (0 : Int).toNat = 0 from rfl, hd1]; rfl)) ?_
    unfold prD
    walk_at "q"
    refine if_d (fun h => ?_) (fun h => ?_)
    · walk_at "q"
      have hgr3 := e3.get hgr
      refine ⟨lstD_lst hgr3, ?_⟩
      walk_at "q"
      refine ⟨_, seqOf_lst hg2, by rw [List.length_map]; have := grp_len (m := m) (G := G) i; unfold sizeLine; omega, ?_⟩
      refine lc_mapE (callW_mono T _) (prD m G) D.int (fun S' e' => still_ref (e'.get hg2)) ?_ ?_
      · intro j hj S4 e4
        refine ⟨_, rfl, ?_⟩
        walk_at "q"
        exact ⟨rfl, Ext.refl _⟩
      intro S4 e4
      have hgr4 := e4.get hgr3
      walk_at "q"
      refine m_append (get_app hgr4) (by rw [List.length_map]; unfold sizeLine; omega) ?_
      walk_at "q"
      refine ⟨_, _, rfl, ?_, ((e1.trans (e3.trans e4)).app _).set _ (Nat.le_refl _)⟩
      rw [get_set_self (get_app hgr4), hnx, if_pos (decide_eq_true h), List.map_append]
      rfl
    · walk_at "q"
      refine ⟨_, _, rfl, ?_, e1.trans e3⟩
      rw [e3.get hgr, hnx, if_neg (by rw [decide_eq_false h]; decide), List.append_nil]
  · rintro σ S1 ⟨k3, k4, rfl, hgr, e1⟩
    rw [List.length_map, List.take_of_length_le (Nat.le_refl _)] at hgr
    walk_at "r"
    exact q _ e1
def explK (m : Nat) (G : F) (i j k : Int) : Bool := decide (k ≠ i) && (decide (k ≠ j) && match gg m G i k, gg m G k j, gg m G i j with
  | some a, some b, some c => decide (a + b = c)
  | _, _, _ => false)
theorem expl_eq (m : Nat) (G : F) (i j : Int) : expl m G i j = (hds m G).any (explK m G i j) := rfl
theorem is_explained_ok {k h : Nat} {S : St} {m : Nat} {G : F} {i j d : Int} {Q : QD} (hi : i ∈ nds m) (hj : j ∈ nds m) (hh : S[h]? = some (.lst ((hds m G).map D.int))) (hd : gg m G i j = some d)
    (q : Q (.bl (expl m G i j)) S) : callW T (k + 1) i_is_explained [tabD (m + 1) G, .ref h, .int i, .int j] S Q := by
  refine call_of T_is_explained rfl ?_
  dsimp only [f_is_explained, b_is_explained, startD, List.map, List.length_cons, List.length_nil, Nat.reduceAdd, Nat.reduceSub, List.replicate, List.cons_append, List.nil_append, List.append_nil]
  obtain ⟨i0, i1⟩ := mem_nds.1 hi
  obtain ⟨j0, j1⟩ := mem_nds.1 hj
  rw [expl_eq] at q
  walk_at "q"
  refine ⟨_, seqOf_lst hh, ?_⟩
  refine for_inv (callW_mono T _) (fun c σ S' => S = S' ∧ ((hds m G).take c).any (explK m G i j) = false ∧ ∃ k4 k5 k6, σ = [some (tabD (m + 1) G), some (.ref h), some (.int i), some (.int j), k4, k5, k6]) ⟨rfl, rfl, _, _, _, rfl⟩ (fun c σ S' h' => by obtain ⟨rfl, _⟩ := h'; exact still_ref hh) ?_ ?_
  · rintro c x σ S' hx ⟨rfl, hk, k4, k5, k6, rfl⟩
    obtain ⟨x, hx', rfl⟩ := get_of_map hx
    have hm := List.mem_of_getElem? hx'
    obtain ⟨hxn, -⟩ := mem_hds.1 hm
    obtain ⟨x0, x1⟩ := mem_nds.1 hxn
    have good : explK m G i j x = true → (hds m G).any (explK m G i j) = true := fun h => List.any_eq_true.2 ⟨x, hm, h⟩
    have next : explK m G i j x = false → ((hds m G).take (c + 1)).any (explK m G i j) = false := fun h => by
      rw [take_next hx', List.any_append, hk]; show (explK m G i j x || false) = false; rw [h]; rfl
    refine ⟨_, rfl, ?_⟩
    walk_at "q"
    refine if_n (fun h1 => ?_) (fun h1 => ?_)
    · walk_at "q"
      refine if_n (fun h2 => ?_) (fun h2 => ?_)
      · have hP : explK m G i j x = match gg m G i x, gg m G x j, gg m G i j with
          | some a, some b, some c => decide (a + b = c)
          | _, _, _ => false := by
          show (decide (x ≠ i) && (decide (x ≠ j) && _)) = _
          rw [decide_eq_true h1, decide_eq_true h2]; rfl
        rw [hP, hd] at good next
        walk_at "q"
        refine tabD_at (by omega) (by omega) ?_
        walk_at "q"
        refine ix_tup (rowD_py (by omega) (by omega)) ?_
        walk_at "q"
        refine tabD_at (by omega) (by omega) ?_
        walk_at "q"
        refine ix_tup (rowD_py (by omega) (by omega)) ?_
        walk_at "q"
        unfold gg at good next hd
        cases e1 : G (pyI (m + 1) i) (pyI (m + 1) x) with
        | none =>
          rw [e1] at next
          refine if_nF rfl ?_
          walk_at "q"
          exact ⟨rfl, next rfl, _, _, _, rfl⟩
        | some a =>
          refine if_nT rfl ?_
          walk_at "q"
          cases e2 : G (pyI (m + 1) x) (pyI (m + 1) j) with
          | none =>
            rw [e1, e2] at next
            refine if_nF rfl ?_
            walk_at "q"
            exact ⟨rfl, next rfl, _, _, _, rfl⟩
          | some b =>
            rw [e1, e2] at next good
            refine if_nT rfl ?_
            walk_at "q"
            refine b_add ?_
            walk_at "q"
            refine tabD_at (by omega) (by omega) ?_
            walk_at "q"
            refine ix_tup (rowD_py (by omega) (by omega)) ?_
            rw [hd]
            refine c_eqI ?_
            walk_at "q"
            refine if_d (fun h3 => ?_) (fun h3 => ?_)
            · walk_at "q"
              rw [good (decide_eq_true h3)] at q
              exact q
            · walk_at "q"
              exact ⟨rfl, next (decide_eq_false h3), _, _, _, rfl⟩
      · walk_at "q"
        exact ⟨rfl, next (by show (decide (x ≠ i) && (decide (x ≠ j) && _)) = false; rw [decide_eq_false (show ¬ x ≠ j from fun e => e h2), Bool.false_and, Bool.and_false]), _, _, _, rfl⟩
    · walk_at "q"
      exact ⟨rfl, next (by show (decide (x ≠ i) && _) = false; rw [decide_eq_false (show ¬ x ≠ i from fun e => e h1), Bool.false_and]), _, _, _, rfl⟩
  · rintro σ S' ⟨rfl, hk, k4, k5, k6, rfl⟩
    rw [List.length_map, List.take_of_length_le (Nat.le_refl _)] at hk
    rw [hk] at q
    walk_at "r"
    exact q
def prAD (a : Int × Int × Int) : D := .tup [.int a.1, .int a.2.1]
theorem core_of_ok {k : Nat} {S : St} {m : Nat} {G : F} {Q : QD} (hm : m ≤ 8) (g : GdT m G) (q : ∀ S', Ext S S' → Q (.tup ((core m G).map arcD)) S') : callW T (k + 3) i_core_of [tabD (m + 1) G] S Q := by
  refine call_of T_core_of rfl ?_
  dsimp only [f_core_of, b_core_of, startD, List.map, List.length_cons, List.length_nil, Nat.reduceAdd, Nat.reduceSub, List.replicate, List.cons_append, List.nil_append, List.append_nil]
  walk_at "q"
  refine groups_of_ok hm g fun S1 e1 => ?_
  walk_at "q"
  have hhl := hds_len m G
  refine ⟨_, rfl, by rw [List.length_map]; unfold sizeLine; omega, ?_⟩
  refine lc_mapE (callW_mono T _) (grpD m G) D.int (fun _ _ => still_tup ..) ?_ ?_
  · intro i hi S2 e2
    obtain ⟨hin, hih⟩ := mem_hds.1 hi
    refine ⟨_, rfl, ?_⟩
    unfold grpD
    walk_at "q"
    refine ix_tup (atI_map (atI_int (d := i) (by decide) ?_)) ?_
    · have := (hd_at g hin).1
      rw [hih] at this
      exact this
    exact ⟨rfl, Ext.refl _⟩
  intro S2 e2
  walk_at "q"
  have e3 : Ext S2 (S2 ++ [MO.lst ((hds m G).map D.int)] ++ [MO.lst []]) := (Ext.new ..).trans (Ext.new ..)
  have hh : (S2 ++ [MO.lst ((hds m G).map D.int)] ++ [MO.lst []])[S2.length]? = some (.lst ((hds m G).map D.int)) := get_app get_new
  have hp : (S2 ++ [MO.lst ((hds m G).map D.int)] ++ [MO.lst []])[(S2 ++ [MO.lst ((hds m G).map D.int)]).length]? = some (.lst []) := get_new
  have hpl : (S2 ++ [MO.lst ((hds m G).map D.int)]).length = S2.length + 1 := by simp
  have e02 := e1.trans e2
  have hS2 := e02.len
  generalize hpe : (S2 ++ [MO.lst ((hds m G).map D.int)]).length = p at *
  have e03 := e02.trans e3
  generalize S2 ++ [MO.lst ((hds m G).map D.int)] ++ [MO.lst []] = S3 at *
  clear e3 hpe
  refine ⟨_, rfl, ?_⟩
  -- the rings
  refine for_inv (callW_mono T _) (fun c σ S' => ∃ k4 k5 k8, σ = [some (tabD (m + 1) G), some (.tup ((hds m G).map (grpD m G))), some (.ref S2.length), some (.ref p), k4, k5, none, none, k8, none] ∧ S'[p]? = some (.lst ((((hds m G).take c).flatMap (rgF m G)).map prAD)) ∧ S'[S2.length]? = some (.lst ((hds m G).map D.int)) ∧ Ext S S')
    ⟨_, _, _, rfl, hp, hh, e03⟩ (fun _ _ _ _ => still_tup ..) ?_ ?_
  · rintro c x σ S4 hx ⟨k4, k5, k8, rfl, hp4, hh4, e4⟩
    obtain ⟨i, hi, rfl⟩ := get_of_map hx
    have hih := List.mem_of_getElem? hi
    have hc := (List.getElem?_eq_some_iff.1 hi).1
    have hpre : (((hds m G).take c).flatMap (rgF m G)).length ≤ 81 := Nat.le_trans (flat_len (b := m + 1) fun x _ => rg_len m G x) (sq_le hm (by rw [List.length_take]; omega))
    have hnx := flat_next (f := rgF m G) hi
    have hgl := grp_len (m := m) (G := G) i
    generalize ((hds m G).take c).flatMap (rgF m G) = pre at *
    have hrg : rgF m G i = if 1 < (grp m G i).length then (List.range (grp m G i).length).map (ringA m G (grp m G i)) else [] := rfl
    rw [hrg] at hnx
    refine ⟨_, rfl, ?_⟩
    unfold grpD
    walk_at "q"
    rw [List.length_map]
    refine if_d (fun h => ?_) (fun h => ?_)
    · rw [if_pos (by omega)] at hnx
      rw [hnx]
      walk_at "q"
      refine ⟨_, rfl, ?_⟩
      refine for_inv (callW_mono T _) (fun t σ S' => ∃ k5 k8, σ = [some (tabD (m + 1) G), some (.tup ((hds m G).map (grpD m G))), some (.ref S2.length), some (.ref p), some (.tup ((grp m G i).map D.int)), k5, none, none, k8, none] ∧ S'[p]? = some (.lst ((pre ++ (List.range t).map (ringA m G (grp m G i))).map prAD)) ∧ S'[S2.length]? = some (.lst ((hds m G).map D.int)) ∧ Ext S S')
        ⟨_, _, rfl, by rw [hp4]; simp, hh4, e4⟩ (fun _ _ _ _ => still_tup ..) ?_ ?_
      · rintro t y σ S5 hy ⟨k5, k8, rfl, hp5, hh5, e5⟩
        obtain ⟨z, hz, rfl⟩ := enm_get hy
        obtain ⟨z, hz', rfl⟩ := get_of_map hz
        have ht := (List.getElem?_eq_some_iff.1 hz').1
        obtain ⟨y, z2, hy', hz2, my, mz⟩ := ring_at ht
        rw [hz'] at hz2
        cases hz2
        refine ⟨_, rfl, ?_⟩
        walk_at "q"
        refine ⟨lstD_lst hp5, ?_⟩
        walk_at "q"
        refine ix_tup (atI_map hy') ?_
        walk_at "q"
        refine m_append hp5 (by rw [List.length_map, List.length_append, List.length_map, List.length_range]; unfold sizeLine; omega) ?_
        walk_at "q"
        refine ⟨_, _, rfl, ?_, get_set (by omega) hh5, e5.set _ (by omega)⟩
        rw [get_set_self hp5, List.range_succ, List.map_append, List.map_append, List.map_append, List.map_append, ← List.append_assoc]
        congr 3
        show _ = [prAD (ringA m G (grp m G i) t)]
        unfold ringA prAD
        rw [hy', hz']
        rfl
      · rintro σ S5 ⟨k5, k8, rfl, hp5, hh5, e5⟩
        rw [List.length_zipWith, List.length_range, Nat.min_self, List.length_map] at hp5
        walk_at "q"
        exact ⟨_, _, _, rfl, hp5, hh5, e5⟩
    · rw [if_neg (by omega), List.append_nil] at hnx
      rw [hnx]
      walk_at "q"
      exact ⟨_, _, _, rfl, hp4, hh4, e4⟩
  rintro σ S4 ⟨k4, k5, k8, rfl, hp4, hh4, e4⟩
  rw [List.length_map, List.take_of_length_le (Nat.le_refl _)] at hp4
  have hRl : ((hds m G).flatMap (rgF m G)).length ≤ 81 := Nat.le_trans (flat_len (b := m + 1) fun x _ => rg_len m G x) (sq_le hm hhl)
  have hcd := coreAll_def m G
  generalize (hds m G).flatMap (rgF m G) = R at *
  walk_at "q"
  refine ⟨_, seqOf_lst hh4, ?_⟩
  refine for_inv (callW_mono T _) (fun c σ S' => ∃ k5 k7, σ = [some (tabD (m + 1) G), some (.tup ((hds m G).map (grpD m G))), some (.ref S2.length), some (.ref p), k4, k5, none, k7, k8, none] ∧ S'[p]? = some (.lst ((R ++ ((hds m G).take c).flatMap (lkF m G)).map prAD)) ∧ S'[S2.length]? = some (.lst ((hds m G).map D.int)) ∧ Ext S S')
    ⟨_, _, rfl, by rw [hp4]; simp, hh4, e4⟩ (fun c σ S' h => by obtain ⟨_, _, _, _, h, _⟩ := h; exact still_ref h) ?_ ?_
  · rintro c x σ S5 hx ⟨k5, k7, rfl, hp5, hh5, e5⟩
    obtain ⟨i, hi, rfl⟩ := get_of_map hx
    obtain ⟨hin, -⟩ := mem_hds.1 (List.mem_of_getElem? hi)
    obtain ⟨i0, i1⟩ := mem_nds.1 hin
    have hpre : (((hds m G).take c).flatMap (lkF m G)).length ≤ 81 := Nat.le_trans (flat_len (b := m + 1) fun x _ => lk_len m G x) (sq_le hm (by rw [List.length_take]; omega))
    have hnx := flat_next (f := lkF m G) hi
    generalize ((hds m G).take c).flatMap (lkF m G) = pre at *
    rw [hnx]
    refine ⟨_, rfl, ?_⟩
    walk_at "q"
    refine ⟨_, seqOf_lst hh5, ?_⟩
    refine for_inv (callW_mono T _) (fun t σ S' => ∃ k7, σ = [some (tabD (m + 1) G), some (.tup ((hds m G).map (grpD m G))), some (.ref S2.length), some (.ref p), k4, some (.int i), none, k7, k8, none] ∧ S'[p]? = some (.lst ((R ++ (pre ++ (((hds m G).take t).filter (lkC m G i)).map (lkA m G i))).map prAD)) ∧ S'[S2.length]? = some (.lst ((hds m G).map D.int)) ∧ Ext S S')
      ⟨_, rfl, by rw [hp5]; simp, hh5, e5⟩ (fun c σ S' h => by obtain ⟨_, _, _, h, _⟩ := h; exact still_ref h) ?_ ?_
    · rintro t y σ S6 hy ⟨k7, rfl, hp6, hh6, e6⟩
      obtain ⟨j, hj, rfl⟩ := get_of_map hy
      obtain ⟨hjn, -⟩ := mem_hds.1 (List.mem_of_getElem? hj)
      obtain ⟨j0, j1⟩ := mem_nds.1 hjn
      have hfl : (((hds m G).take t).filter (lkC m G i)).length ≤ 9 := Nat.le_trans (List.length_filter_le _ _) (by rw [List.length_take]; omega)
      have hnx2 := filter_next (p := lkC m G i) hj
      refine ⟨_, rfl, ?_⟩
      refine ss_last (s_if (callW_mono T _) (fun b S' => S6 = S' ∧ b = lkC m G i j) ?_ ?_ ?_)
      · walk_at "q"
        refine if_n (fun h1 => ?_) (fun h1 => ?_)
        · walk_at "q"
          refine tabD_at (by omega) (by omega) ?_
          walk_at "q"
          refine ix_tup (rowD_py (by omega) (by omega)) ?_
          walk_at "q"
          cases hd : G (pyI (m + 1) i) (pyI (m + 1) j) with
          | none =>
            refine if_nF rfl ?_
            walk_at "q"
            refine ⟨rfl, ?_⟩
            unfold lkC gg
            rw [hd]
            show false = (decide (i ≠ j) && (false && _))
            rw [Bool.false_and, Bool.and_false]
          | some d =>
            refine if_nT rfl ?_
            walk_at "q"
            refine is_explained_ok hin hjn hh6 hd ?_
            walk_at "q"
            refine ⟨rfl, ?_⟩
            unfold lkC gg
            rw [hd, decide_eq_true h1]; simp
        · walk_at "q"
          refine ⟨rfl, ?_⟩
          unfold lkC
          rw [decide_eq_false (show ¬ i ≠ j from fun e => e h1), Bool.false_and, decide_eq_true h1]
          rfl
      · rintro S' ⟨rfl, hb⟩
        rw [← hb, if_pos rfl] at hnx2
        walk_at "q"
        refine ⟨lstD_lst hp6, ?_⟩
        walk_at "q"
        refine m_append hp6 (by rw [List.length_map, List.length_append, List.length_append, List.length_map]; unfold sizeLine; omega) ?_
        walk_at "q"
        refine ⟨_, rfl, ?_, get_set (by omega) hh6, e6.set _ (by omega)⟩
        rw [get_set_self hp6, hnx2]
        simp only [List.map_append, List.append_assoc]
        rfl
      · rintro S' ⟨rfl, hb⟩
        rw [← hb, if_neg (by decide), List.append_nil] at hnx2
        walk_at "q"
        exact ⟨_, rfl, by rw [hp6, hnx2], hh6, e6⟩
    · rintro σ S6 ⟨k7, rfl, hp6, hh6, e6⟩
      rw [List.length_map, List.take_of_length_le (Nat.le_refl _)] at hp6
      walk_at "q"
      exact ⟨_, _, rfl, hp6, hh6, e6⟩
  rintro σ S5 ⟨k5, k7, rfl, hp5, hh5, e5⟩
  rw [List.length_map, List.take_of_length_le (Nat.le_refl _), ← hcd] at hp5
  have hcl : (coreAll m G).length ≤ 162 := by
    rw [hcd, List.length_append]
    have := Nat.le_trans (flat_len (f := lkF m G) (xs := hds m G) (b := m + 1) fun x _ => lk_len m G x) (sq_le hm hhl)
    omega
  walk_at "q"
  refine ⟨_, seqOf_lst hp5, by rw [List.length_map]; unfold sizeLine; omega, ?_⟩
  refine lc_mapE (callW_mono T _) prAD arcD (fun S' e' => still_ref (e'.get hp5)) ?_ ?_
  · rintro ⟨i, j, w⟩ ha S6 e6
    obtain ⟨a1, a2, a3⟩ := coreAll_ok g _ ha
    dsimp only at a1 a2 a3
    obtain ⟨i0, i1⟩ := mem_nds.1 a1
    obtain ⟨j0, j1⟩ := mem_nds.1 a2
    refine ⟨_, rfl, ?_⟩
    walk_at "q"
    refine tabD_at (by omega) (by omega) ?_
    walk_at "q"
    refine ix_tup (rowD_py (by omega) (by omega)) ?_
    have he : G (pyI (m + 1) i) (pyI (m + 1) j) = some w := a3
    rw [he]
    walk_at "q"
    exact ⟨rfl, Ext.refl _⟩
  intro S6 e6
  walk_at "q"
  refine b_sortA get_new ?_
  have e7 : Ext S6 (S6 ++ [MO.lst ((coreAll m G).map arcD)] ++ [MO.lst ((sortA (coreAll m G)).map arcD)]) := (Ext.new ..).trans (Ext.new ..)
  have hs : (S6 ++ [MO.lst ((coreAll m G).map arcD)] ++ [MO.lst ((sortA (coreAll m G)).map arcD)])[(S6 ++ [MO.lst ((coreAll m G).map arcD)]).length]? = some (.lst ((sortA (coreAll m G)).map arcD)) := get_new
  generalize (S6 ++ [MO.lst ((coreAll m G).map arcD)]).length = s at *
  generalize S6 ++ [MO.lst ((coreAll m G).map arcD)] ++ [MO.lst ((sortA (coreAll m G)).map arcD)] = S7 at *
  walk_at "q"
  refine ⟨_, seqOf_lst hs, by rw [List.length_map, sortA_len]; unfold sizeLine; omega, ?_⟩
  refine lc_filtE (callW_mono T _) arcD arcD kept (fun S' e' => still_ref (e'.get hs)) ?_ ?_
  · rintro ⟨i, j, w⟩ ha S8 e8
    refine ⟨_, rfl, ?_, fun _ S9 e9 => ?_⟩
    · unfold arcD
      walk_at "q"
      refine if_n (fun h1 => ?_) (fun h1 => ?_)
      · walk_at "q"
        refine ⟨?_, Ext.refl _⟩
        unfold kept; simp [h1]
      · walk_at "q"
        refine ⟨?_, Ext.refl _⟩
        unfold kept; simp [h1]
    · walk_at "q"
      exact ⟨rfl, Ext.refl _⟩
  intro S8 e8
  walk_at "q"
  exact q _ ((e5.trans (e6.trans (e7.trans e8))).app _)
theorem covers_ok {k : Nat} {S : St} {m : Nat} {G1 G2 : F} {Q : QD} (hm : m ≤ 8) (q : ∀ b, (b = true ↔ ∀ i j, i < m + 1 → j < m + 1 → ole (G1 i j) (G2 i j)) → Q (.bl b) S) : callW T (k + 1) i_covers [tabD (m + 1) G1, tabD (m + 1) G2] S Q := by
  refine call_of T_covers rfl ?_
  dsimp only [f_covers, b_covers, startD, List.map, List.length_cons, List.length_nil, Nat.reduceAdd, Nat.reduceSub, List.replicate, List.cons_append, List.nil_append, List.append_nil]
  walk_at "q"
  refine ⟨_, _, rfl, rfl, ?_⟩
  refine for_inv (callW_mono T _) (fun c σ S' => S' = S ∧ (∀ i j, i < c → j < m + 1 → ole (G1 i j) (G2 i j)) ∧ ∃ k2 k3 k4 k5, σ = [some (tabD (m + 1) G1), some (tabD (m + 1) G2), k2, k3, k4, k5])
    ⟨rfl, fun i j h => absurd h (Nat.not_lt_zero _), _, _, _, _, rfl⟩ (fun _ _ _ _ => ⟨rfl, rfl⟩) ?_ ?_
  · rintro c x σ S' hx ⟨rfl, hc, k2, k3, k4, k5, rfl⟩
    obtain ⟨d, e, hd, he, rfl⟩ := zip_get hx
    obtain ⟨hcn, rfl⟩ := tabR_of hd
    obtain ⟨-, rfl⟩ := tabR_of he
    refine ⟨_, rfl, ?_⟩
    walk_at "q"
    refine ⟨_, _, rfl, rfl, ?_⟩
    refine for_inv (callW_mono T _) (fun a σ S2 => S2 = S' ∧ (∀ j, j < a → ole (G1 c j) (G2 c j)) ∧ ∃ k4 k5, σ = [some (tabD (m + 1) G1), some (tabD (m + 1) G2), some (.tup (rowD (m + 1) (G1 c))), some (.tup (rowD (m + 1) (G2 c))), k4, k5])
      ⟨rfl, fun j h => absurd h (Nat.not_lt_zero _), _, _, rfl⟩ (fun _ _ _ _ => ⟨rfl, rfl⟩) ?_ ?_
    · rintro a x σ S2 hx ⟨rfl, ha, k4, k5, rfl⟩
      obtain ⟨d, e, hd, he, rfl⟩ := zip_get hx
      obtain ⟨han, rfl⟩ := rowD_of hd
      obtain ⟨-, rfl⟩ := rowD_of he
      refine ⟨_, rfl, ?_⟩
      have go : ole (G1 c a) (G2 c a) → ∀ j, j < a + 1 → ole (G1 c j) (G2 c j) := fun h j hj => by
        by_cases e : j = a
        · subst e; exact h
        · exact ha j (by omega)
      have no : ¬ ole (G1 c a) (G2 c a) → Q (.bl false) S2 := fun h => q _ ⟨(fun e => by cases e), (fun e => absurd (e c a hcn han) h)⟩
      cases e1 : G1 c a with
      | none =>
        rw [e1] at go
        dsimp only [oD]
        walk_at "q"
        exact ⟨rfl, go trivial, _, _, rfl⟩
      | some w =>
        cases e2 : G2 c a with
        | none =>
          rw [e1, e2] at no
          dsimp only [oD]
          walk_at "q"
          exact no fun h => h
        | some b =>
          rw [e1, e2] at no go
          dsimp only [oD]
          walk_at "q"
          refine if_d (fun h => ?_) (fun h => ?_)
          · walk_at "q"
            exact no fun g => by have g : w ≤ b := g; omega
          · walk_at "q"
            exact ⟨rfl, go (by show w ≤ b; omega), _, _, rfl⟩
    · rintro σ S2 ⟨rfl, ha, k4, k5, rfl⟩
      rw [List.length_zipWith, rowD_len, rowD_len, Nat.min_self] at ha
      refine ⟨rfl, fun i j hi hj => ?_, _, _, _, _, rfl⟩
      by_cases e : i = c
      · subst e; exact ha j hj
      · exact hc i j (by omega) hj
  · rintro σ S' ⟨rfl, hc, k2, k3, k4, k5, rfl⟩
    rw [List.length_zipWith, List.length_map, List.length_map, List.length_range, Nat.min_self] at hc
    walk_at "q"
    exact q _ ⟨fun _ => hc, fun _ => rfl⟩
theorem parting_at_ok {k : Nat} {S : St} {m : Nat} {G1 G2 : F} {i j : Int} {Q : QD} (hm : m ≤ 8) (i0 : -1 ≤ i) (i1 : i < m) (j0 : -1 ≤ j) (j1 : j < m)
    (hne : G1 (pyI (m + 1) i) (pyI (m + 1) j) ≠ G2 (pyI (m + 1) i) (pyI (m + 1) j)) (q : ∀ S', Ext S S' → Q (prtD m G1 G2 i j) S') : callW T (k + 5) i_parting_at [tabD (m + 1) G1, tabD (m + 1) G2, .int i, .int j] S Q := by
  refine call_of T_parting_at rfl ?_
  dsimp only [f_parting_at, b_parting_at, startD, List.map, List.length_cons, List.length_nil, Nat.reduceAdd, Nat.reduceSub, List.replicate, List.cons_append, List.nil_append, List.append_nil]
  have ixT : ∀ (G : F) (a b : Int) (S' : St) (Q' : QD), -1 ≤ a → a < m → -1 ≤ b → b < m → Q' (oD (G (pyI (m + 1) a) (pyI (m + 1) b))) S' → ixW (tabD (m + 1) G) (.int a) S' (fun x S2 => ixW x (.int b) S2 Q') := fun G a b S' Q' a0 a1 b0 b1 h => by
    refine tabD_at (by omega) (by omega) ?_
    exact ix_tup (rowD_py (by omega) (by omega)) h
  refine ss_par ?_
  walk_at "q"
  refine ss_cut (callW_mono T _) (fun σ' S' => S' = S ∧ ∃ (G U : F) (s : Int), ((isL (G1 (pyI (m + 1) i) (pyI (m + 1) j)) (G2 (pyI (m + 1) i) (pyI (m + 1) j)) = true ∧ G = G1 ∧ U = G2 ∧ s = 0) ∨ (isL (G1 (pyI (m + 1) i) (pyI (m + 1) j)) (G2 (pyI (m + 1) i) (pyI (m + 1) j)) = false ∧ G = G2 ∧ U = G1 ∧ s = 1)) ∧
    σ' = [some (tabD (m + 1) G1), some (tabD (m + 1) G2), some (.int i), some (.int j), none, some (.int s), some (tabD (m + 1) G), some (tabD (m + 1) U)]) ?_ ?_
  · walk_at "q"
    refine tabD_at (by omega) (by omega) ?_
    walk_at "q"
    refine ix_tup (rowD_py (by omega) (by omega)) ?_
    cases e2 : G2 (pyI (m + 1) i) (pyI (m + 1) j) with
    | none =>
      dsimp only [oD]
      walk_at "q"
      refine ⟨rfl, G2, G1, 1, Or.inr ⟨?_, rfl, rfl, rfl⟩, rfl⟩
      cases e1 : G1 (pyI (m + 1) i) (pyI (m + 1) j) with
      | none => rw [e1, e2] at hne; exact absurd rfl hne
      | some w => rfl
    | some v =>
      dsimp only [oD]
      walk_at "q"
      refine tabD_at (by omega) (by omega) ?_
      walk_at "q"
      refine ix_tup (rowD_py (by omega) (by omega)) ?_
      cases e1 : G1 (pyI (m + 1) i) (pyI (m + 1) j) with
      | none =>
        dsimp only [oD]
        walk_at "q"
        exact ⟨rfl, G1, G2, 0, Or.inl ⟨rfl, rfl, rfl, rfl⟩, rfl⟩
      | some w =>
        rw [e1, e2] at hne
        dsimp only [oD]
        walk_at "q"
        refine tabD_at (by omega) (by omega) ?_
        walk_at "q"
        refine ix_tup (rowD_py (by omega) (by omega)) ?_
        rw [e2]
        dsimp only [oD]
        walk_at "q"
        refine tabD_at (by omega) (by omega) ?_
        walk_at "q"
        refine ix_tup (rowD_py (by omega) (by omega)) ?_
        rw [e1]
        dsimp only [oD]
        walk_at "q"
        have hwv : w ≠ v := fun h => hne (by rw [h])
        refine if_d (fun h => ?_) (fun h => ?_)
        · walk_at "q"
          exact ⟨rfl, G2, G1, 1, Or.inr ⟨decide_eq_false (by omega), rfl, rfl, rfl⟩, rfl⟩
        · walk_at "q"
          exact ⟨rfl, G1, G2, 0, Or.inl ⟨decide_eq_true (by omega), rfl, rfl, rfl⟩, rfl⟩
  rintro σ' S0 ⟨rfl, G, U, s, hs, rfl⟩
  have hGU : G (pyI (m + 1) i) (pyI (m + 1) j) ≠ U (pyI (m + 1) i) (pyI (m + 1) j) := by
    rcases hs with ⟨_, rfl, rfl, _⟩ | ⟨_, rfl, rfl, _⟩
    · exact hne
    · exact hne.symm
  have hD : prtD m G1 G2 i j = .tup [.int s, pinD m i j (pxF m G U i j) G] := by
    unfold prtD
    rcases hs with ⟨h, rfl, rfl, rfl⟩ | ⟨h, rfl, rfl, rfl⟩
    · rw [if_pos h]
    · rw [h, if_neg (by decide)]
  rw [hD] at q
  refine ss_set ?_
  refine s_set ?_
  walk_at "q"
  refine tabD_at (by omega) (by omega) ?_
  walk_at "q"
  refine ix_tup (rowD_py (by omega) (by omega)) ?_
  walk_at "q"
  refine ss_cut (callW_mono T _) (fun σ' S' => S' = S0 ∧
    σ' = [some (tabD (m + 1) G1), some (tabD (m + 1) G2), some (.int i), some (.int j), some (.int (pxF m G U i j)), some (.int s), some (tabD (m + 1) G), some (tabD (m + 1) U)]) ?_ ?_
  · unfold pxF
    cases e1 : G (pyI (m + 1) i) (pyI (m + 1) j) with
    | some x =>
      dsimp only [oD]
      walk_at "q"
      exact ⟨rfl, rfl⟩
    | none =>
      cases e2 : U (pyI (m + 1) i) (pyI (m + 1) j) with
      | none => rw [e1, e2] at hGU; exact absurd rfl hGU
      | some u =>
        dsimp only [oD]
        walk_at "q"
        refine tabD_at (by omega) (by omega) ?_
        walk_at "q"
        refine ix_tup (rowD_py (by omega) (by omega)) ?_
        rw [e2]
        dsimp only [oD]
        walk_at "q"
        refine tabD_at (by omega) (by omega) ?_
        walk_at "q"
        refine ix_tup (rowD_py (by omega) (by omega)) ?_
        cases e3 : G (pyI (m + 1) j) (pyI (m + 1) i) with
        | none =>
          dsimp only [oD]
          walk_at "q"
          exact ⟨rfl, rfl⟩
        | some y =>
          dsimp only [oD]
          walk_at "q"
          refine tabD_at (by omega) (by omega) ?_
          walk_at "q"
          refine ix_tup (rowD_py (by omega) (by omega)) ?_
          rw [e3]
          dsimp only [oD]
          walk_at "q"
          refine ⟨rfl, ?_⟩
          rw [show (if -y < u - 1 then -y else u - 1) = min ((some u).getD 0 - 1) (-y) by show _ = min (u - 1) (-y); omega]
  rintro σ' S3 ⟨rfl, rfl⟩
  generalize pxF m G U i j = x at *
  walk_at "q"
  unfold pinD at q
  refine schedule_at_ok (by omega) i0 i1 j0 j1 (fun h S' e => ?_) (fun H h S' e => ?_)
  · rw [h] at q
    walk_at "q"
    exact q _ e
  · rw [h] at q
    walk_at "q"
    exact q _ e
theorem fst_none {m : Nat} {G1 G2 : F} {a : Nat} (h : ∀ i j : Int, -1 ≤ i → i < -1 + (a : Int) → -1 ≤ j → j < m → G1 (pyI (m + 1) i) (pyI (m + 1) j) = G2 (pyI (m + 1) i) (pyI (m + 1) j)) (ha : a = m + 1) : agr (m + 1) G1 G2 :=
  agr_py fun i j i0 i1 j0 j1 => h i j i0 (by omega) j0 j1
theorem parting_ok {k : Nat} {S : St} {m : Nat} {G1 G2 : F} {Q : QD} (hm : m ≤ 8) (qn : agr (m + 1) G1 G2 → Q .non S)
    (q : ∀ i j, Fst m G1 G2 i j → ∀ S', Ext S S' → Q (prtD m G1 G2 i j) S') : callW T (k + 6) i_parting [tabD (m + 1) G1, tabD (m + 1) G2] S Q := by
  refine call_of T_parting rfl ?_
  dsimp only [f_parting, b_parting, startD, List.map, List.length_cons, List.length_nil, Nat.reduceAdd, Nat.reduceSub, List.replicate, List.cons_append, List.nil_append, List.append_nil]
  generalize hT1 : tabD (m + 1) G1 = T1
  generalize hT2 : tabD (m + 1) G2 = T2
  have hlen : ∀ (S' : St) (Q' : QD), Q' (.int ((m + 1 : Nat) : Int)) S' → bltW .len [T1] S' Q' := fun S' Q' h => by
    rw [← hT1]
    refine l_lenT ?_
    rw [List.length_map, List.length_range]; exact h
  walk_at "q"
  refine hlen _ _ ?_
  walk_at "q"
  rw [show ((m + 1 : Nat) : Int) - 1 = m by omega]
  refine r_two (by omega) ?_
  refine for_inv (callW_mono T _) (fun a σ S' => S' = S ∧ (∀ i j : Int, -1 ≤ i → i < -1 + (a : Int) → -1 ≤ j → j < m → G1 (pyI (m + 1) i) (pyI (m + 1) j) = G2 (pyI (m + 1) i) (pyI (m + 1) j)) ∧ ∃ k3 k4, σ = [some T1, some T2, some (.int m), k3, k4])
    ⟨rfl, fun i j h h' => by omega, _, _, rfl⟩ (fun _ _ _ _ => trivial) ?_ ?_
  · rintro a x σ S0 hx ⟨rfl, ha, k3, k4, rfl⟩
    obtain ⟨han, rfl⟩ := rgD_get hx
    refine ⟨_, rfl, ?_⟩
    walk_at "q"
    refine r_two (by omega) ?_
    refine for_inv (callW_mono T _) (fun b σ S' => S' = S0 ∧ (∀ j : Int, -1 ≤ j → j < -1 + (b : Int) → G1 (pyI (m + 1) (-1 + (a : Int))) (pyI (m + 1) j) = G2 (pyI (m + 1) (-1 + (a : Int))) (pyI (m + 1) j)) ∧ ∃ k4, σ = [some T1, some T2, some (.int m), some (.int (-1 + (a : Int))), k4])
      ⟨rfl, fun j h h' => by omega, _, rfl⟩ (fun _ _ _ _ => trivial) ?_ ?_
    · rintro b x σ S2 hx ⟨rfl, hb, k4, rfl⟩
      obtain ⟨hbn, rfl⟩ := rgD_get hx
      refine ⟨_, rfl, ?_⟩
      walk_at "q"
      rw [← hT1]
      refine tabD_at (by omega) (by omega) ?_
      walk_at "q"
      refine ix_tup (rowD_py (by omega) (by omega)) ?_
      walk_at "q"
      rw [← hT2]
      refine tabD_at (by omega) (by omega) ?_
      walk_at "q"
      refine ix_tup (rowD_py (by omega) (by omega)) ?_
      walk_at "q"
      refine c_neO ?_
      walk_at "q"
      refine if_n (fun h => ?_) (fun h => ?_)
      · walk_at "q"
        refine parting_at_ok hm (by omega) (by omega) (by omega) (by omega) h fun S' e => ?_
        refine q _ _ ⟨by omega, by omega, by omega, by omega, h, fun i' j' i0 i1 j0 j1 hlt => ?_⟩ _ e
        rcases hlt with h1 | ⟨rfl, h1⟩
        · exact ha i' j' i0 h1 j0 j1
        · exact hb j' j0 h1
      · walk_at "q"
        refine ⟨rfl, fun j j0 j1 => ?_, _, rfl⟩
        by_cases e : j = -1 + (b : Int)
        · subst e; exact h
        · exact hb j j0 (by omega)
    · rintro σ S2 ⟨rfl, hb, k4, rfl⟩
      rw [rgD_len] at hb
      refine ⟨rfl, fun i j i0 i1 j0 j1 => ?_, _, _, rfl⟩
      by_cases e : i = -1 + (a : Int)
      · subst e; exact hb j j0 (by omega)
      · exact ha i j i0 (by omega) j0 j1
  · rintro σ S0 ⟨rfl, ha, k3, k4, rfl⟩
    rw [rgD_len] at ha
    walk_at "q"
    exact qn (fst_none ha (by omega))
theorem tape_ok {k : Nat} {ns : List Int} {Q : QD} (q : ∀ S', Tp S' → Q (.ref 2) S') : callW T (k + 1) i__law_tape [.ref 0] [.fro (ns.map D.int)] Q := by
  refine call_of T__law_tape rfl ?_
  dsimp only [f__law_tape, b__law_tape, startD, List.map, List.length_cons, List.length_nil, Nat.reduceAdd, Nat.reduceSub, List.replicate, List.cons_append, List.nil_append, List.append_nil]
  walk_at "r"
  refine ⟨ns.map D.int, rfl, ?_⟩
  refine for_inv (callW_mono T _) (fun i σ S' => S' = [.fro (ns.map D.int)] ∧ ∃ c k4, 0 ≤ c ∧ σ = [some (.ref 0), some (.int c), k4]) ⟨rfl, 7, _, by decide, rfl⟩ (fun i σ S' h => by rw [h.1]; rfl) ?_ ?_
  · rintro i x σ S' hx ⟨rfl, c, k4, hc, rfl⟩
    rw [List.getElem?_map] at hx
    cases hn : ns[i]? with
    | none => rw [hn] at hx; cases hx
    | some y =>
      rw [hn] at hx
      cases hx
      refine ⟨_, rfl, ?_⟩
      walk_at "r"
      exact ⟨rfl, _, _, (fmod_rng _ _ (by decide)).1, rfl⟩
  · rintro σ S' ⟨rfl, c, k4, hc, rfl⟩
    walk_at "r"
    refine ⟨ns.map D.int, rfl, ?_⟩
    walk_at "r"
    exact q _ ⟨ns, 0, 0, c, rfl, rfl, by decide, by decide, hc⟩

theorem draw_ok {k : Nat} {S : St} {m : Int} {Q : QD} (tp : Tp S) (hm : m < 2 ^ 30)
    (q : ∀ r S', Fr S S' → Tp S' → 0 ≤ r → r < max m 1 → Q (.int r) S') : callW T (k + 1) i__law_draw [.ref 2, .int m] S Q := by
  refine call_of T__law_draw rfl ?_
  dsimp only [f__law_draw, b__law_draw, startD, List.map, List.length_cons, List.length_nil, Nat.reduceAdd, Nat.reduceSub, List.replicate, List.cons_append, List.nil_append, List.append_nil]
  obtain ⟨ns, a, b, c, h1, h2, ha, hb, hc⟩ := tp
  walk_at "r"
  refine ss_cut (callW_mono T k) (fun σ' S' => ∃ a c' b' n p, σ' = [some (.ref 2), some (.int m), n, p] ∧ Fr S S' ∧ S'[1]? = some (.lst (ns.map D.int)) ∧ S'[2]? = some (.lst [.ref 1, .int a, .int b', .int c']) ∧ 0 ≤ a ∧ 0 ≤ b' ∧ 0 ≤ c') ?_ ?_
  · walk_at "r"
    refine if_d (fun hb0 => ?_) (fun hb0 => ?_)
    · walk_at "r"
      refine ss_cut (callW_mono T k) (fun σ' S' => ∃ c' n, σ' = [some (.ref 2), some (.int m), some (.int n), some (.int a)] ∧ Fr S S' ∧ S'[1]? = some (.lst (ns.map D.int)) ∧ S'[2]? = some (.lst [.ref 1, .int a, .int b, .int c']) ∧ 0 ≤ n ∧ 0 ≤ c') ?_ ?_
      · walk_at "r"
        rw [List.length_map]
        refine if_d (fun hl => ?_) (fun hl => ?_)
        · walk_at "r"
          have hl' : a.toNat < ns.length := by omega
          refine ix_ref (by walk_at "lk") (atI_int ha (by rw [List.getElem?_map, List.getElem?_eq_getElem hl']; rfl)) ?_
          walk_at "r"
          exact ⟨c, _, rfl, Fr.refl S, h1, by subst hb0; exact h2, by split <;> omega, hc⟩
        · walk_at "r"

          obtain ⟨r0, r1⟩ := fmod_rng (c * 48271 + a + 1) 2147483647 (by decide)
          exact ⟨_, _, rfl, (Fr.refl S).setT _, by walk_at "lk", by subst hb0; exact get_set_self h2, r0, r0⟩
      · rintro σ' S' ⟨c', n, rfl, fr, g1, g2, hn, hc'⟩
        walk_at "r"
        refine ss_cons ?_
        walk_at "r"
        refine b_pow ⟨by decide, by decide, by decide⟩ ?_
        walk_at "r"
        refine if_d (fun hl => ?_) (fun hl => ?_)
        · walk_at "r"
          have hm1 : (if 1 > m then 1 else m) = max m 1 := by omega
          rw [hm1]
          obtain ⟨r0, r1⟩ := fmod_rng (((n * 48271 + a * 69621 + 5).fmod 2147483647 * 69621).fmod 2147483629) (max m 1) (by omega)
          exact q _ _ (fr.setT _) ⟨ns, a + 1, b, c', by walk_at "lk", get_set_self g2, by omega, hb, hc'⟩ r0 r1
        · walk_at "r"
          exact ⟨a + 1, c', n, _, _, rfl, (fr.setT _).setT _, by walk_at "lk", get_set_self (get_set_self g2), by omega, hn, hc'⟩
    · walk_at "r"
      exact ⟨a, c, b, _, _, rfl, Fr.refl S, h1, h2, ha, hb, hc⟩
  · rintro σ' S' ⟨a, c', b', n, p, rfl, fr, g1, g2, ha, hb, hc⟩
    walk_at "r"
    have hm1 : (if 1 > m then 1 else m) = max m 1 := by omega
    have hm2 : (if 2 > m then 2 else m) = max m 2 := by omega
    rw [hm2]
    refine b_fdiv (by omega) ?_
    walk_at "r"
    rw [hm1]
    obtain ⟨r0, r1⟩ := fmod_rng b' (max m 1) (by omega)
    exact q _ _ (fr.setT _) ⟨ns, a, b'.fdiv (max m 2), c', by walk_at "lk", get_set_self g2, ha, Int.fdiv_nonneg hb (by omega), hc⟩ r0 r1

theorem pickL {k : Nat} {S : St} {n : Nat} {xs : List D} {Q : QD} (tp : Tp S) (h : S[n]? = some (.lst xs)) (hn : n ≠ 2) (h0 : 0 < xs.length) (h1 : xs.length < 2 ^ 30)
    (q : ∀ d S', d ∈ xs → Fr S S' → Tp S' → Q d S') : callW T (k + 2) i__law_pick [.ref 2, .ref n] S Q := by
  refine call_of T__law_pick rfl ?_
  dsimp only [f__law_pick, b__law_pick, startD, List.map, List.length_cons, List.length_nil, Nat.reduceAdd, Nat.reduceSub, List.replicate, List.cons_append, List.nil_append, List.append_nil]
  walk_at "r"
  refine draw_ok tp (by omega) fun r S' fr tp' r0 r1 => ?_
  have hr : r.toNat < xs.length := by omega
  refine ix_ref (by walk_at "lk") (atI_int r0 (List.getElem?_eq_getElem hr)) ?_
  exact q _ _ (List.getElem_mem hr) fr tp'
theorem pickT {k : Nat} {S : St} {xs : List D} {Q : QD} (tp : Tp S) (h0 : 0 < xs.length) (h1 : xs.length < 2 ^ 30)
    (q : ∀ d S', d ∈ xs → Fr S S' → Tp S' → Q d S') : callW T (k + 2) i__law_pick [.ref 2, .tup xs] S Q := by
  refine call_of T__law_pick rfl ?_
  dsimp only [f__law_pick, b__law_pick, startD, List.map, List.length_cons, List.length_nil, Nat.reduceAdd, Nat.reduceSub, List.replicate, List.cons_append, List.nil_append, List.append_nil]
  walk_at "r"
  refine draw_ok tp (by omega) fun r S' fr tp' r0 r1 => ?_
  have hr : r.toNat < xs.length := by omega
  refine ix_tup (atI_int r0 (List.getElem?_eq_getElem hr)) ?_
  exact q _ _ (List.getElem_mem hr) fr tp'
theorem turns_ok {k : Nat} {S : St} {m : Int} {Q : QD} (tp : Tp S) (h0 : 0 ≤ m) (h1 : m < 2 ^ 20)
    (q : ∀ n ks S', S.length ≤ n → S'[n]? = some (.lst ks) → (∀ d ∈ ks, ∃ i, d = .int i ∧ 0 ≤ i ∧ i < m) → Fr S S' → Tp S' → Q (.ref n) S') : callW T (k + 2) i__law_turns [.ref 2, .int m] S Q := by
  refine call_of T__law_turns rfl ?_
  dsimp only [f__law_turns, b__law_turns, startD, List.map, List.length_cons, List.length_nil, Nat.reduceAdd, Nat.reduceSub, List.replicate, List.cons_append, List.nil_append, List.append_nil]
  have hS := tp.len
  walk_at "r"
  refine r_one (by omega) ⟨by omega, ?_⟩
  walk_at "r"
  refine r_one (by omega) ?_
  have hn2 : (S ++ [MO.lst (rgD 0 m)]).length = S.length + 1 := by simp
  rw [hn2]
  refine for_inv (callW_mono T _) (fun i σ S' => ∃ ls ks k4, σ = [some (.ref 2), some (.int m), some (.ref S.length), some (.ref (S.length + 1)), k4] ∧
    S'[S.length]? = some (.lst ls) ∧ S'[S.length + 1]? = some (.lst ks) ∧ ls.length + i = m.toNat ∧ ks.length = i ∧
    (∀ d ∈ ls, ∃ i, d = .int i ∧ 0 ≤ i ∧ i < m) ∧ (∀ d ∈ ks, ∃ i, d = .int i ∧ 0 ≤ i ∧ i < m) ∧ Fr S S' ∧ Tp S') ?_ ?_ ?_ ?_
  · refine ⟨rgD 0 m, [], none, rfl, get_app get_new, get_new' hn2.symm, by rw [rgD_len]; omega, rfl, ?_, (fun d hd => by cases hd), ((Fr.refl S).app _).app _, (tp.app _).app _⟩
    intro d hd
    obtain ⟨i, hi, e⟩ := List.getElem_of_mem hd
    obtain ⟨h2, e2⟩ := rgD_get (List.getElem?_eq_some_iff.2 ⟨hi, e⟩)
    exact ⟨_, e2, by omega, by omega⟩
  · intros; exact trivial
  · rintro i x σ S' hx ⟨ls, ks, k4, rfl, hl, hk, hll, hkl, al, ak, fr, tp'⟩
    obtain ⟨hi, rfl⟩ := rgD_get hx
    refine ⟨_, rfl, ?_⟩
    walk_at "r"
    refine ⟨lstD_lst hk, ?_⟩
    walk_at "r"
    refine ⟨lstD_lst hl, ?_⟩
    walk_at "r"
    refine draw_ok tp' (by omega) fun r S2 fr2 tp2 r0 r1 => ?_
    have hr : r.toNat < ls.length := by omega
    walk_at "r"
    refine m_popI (by walk_at "lk") (by omega) (seqIndex_ok r0 (by omega)) (List.getElem?_eq_getElem hr) ?_
    walk_at "r"
    have hk2 : S2[S.length + 1]? = some (.lst ks) := by walk_at "lk"
    refine m_append (get_set (by omega) hk2) (by unfold sizeLine; omega) ?_
    walk_at "r"
    have hl2 : S2[S.length]? = some (.lst ls) := by walk_at "lk"
    refine ⟨ls.eraseIdx r.toNat, ks ++ [ls[r.toNat]], _, rfl, get_set (by omega) (get_set_self hl2), get_set_self (get_set (by omega) hk2), ?_, by simp [hkl], ?_, ?_, ((fr.trans fr2).set _ (by omega)).set _ (by omega), (tp2.set _ (by omega)).set _ (by omega)⟩
    · rw [List.length_eraseIdx_of_lt hr]; omega
    · intro d hd; exact al d (List.mem_of_mem_eraseIdx hd)
    · intro d hd
      rw [List.mem_append, List.mem_singleton] at hd
      rcases hd with hd | rfl
      · exact ak d hd
      · exact al _ (List.getElem_mem hr)
  · rintro σ S' ⟨ls, ks, k4, rfl, hl, hk, hll, hkl, al, ak, fr, tp'⟩
    rw [rgD_len] at hkl
    walk_at "r"
    refine draw_ok (tp'.app _) (by omega) fun r S2 fr2 tp2 r0 r1 => ?_
    have hS2 := fr2.len
    rw [List.length_append] at hS2
    have h3 : S2[S'.length]? = some (.lst [.int m, .int m, .int 1]) := fr2.get (by have := tp'.len; omega) get_new
    obtain ⟨j, hj⟩ : ∃ j, L2.atI [D.int m, D.int m, D.int 1] r = some (.int j) := by
      have : r = 0 ∨ r = 1 ∨ r = 2 := by omega
      rcases this with rfl | rfl | rfl <;> exact ⟨_, rfl⟩
    refine ix_ref h3 hj ?_
    walk_at "r"
    have hf := fr.len
    refine q _ _ _ (by omega) get_new (fun d hd => ak d (mem_cut hd)) (((fr.app _).trans fr2).app _) (tp2.app _)
theorem shuffled_ok {k : Nat} {S : St} {a : Nat} {xs : List D} {Q : QD} (tp : Tp S) (ha : S[a]? = some (.lst xs)) (ha2 : a ≠ 2) (hl : xs.length < 1000)
    (q : ∀ n ys S', S.length ≤ n → S'[n]? = some (.lst ys) → ys.length = xs.length → (∀ d ∈ ys, d ∈ xs) → Fr S S' → Tp S' → Q (.ref n) S') : callW T (k + 2) i__law_shuffled [.ref 2, .ref a] S Q := by
  refine call_of T__law_shuffled rfl ?_
  dsimp only [f__law_shuffled, b__law_shuffled, startD, List.map, List.length_cons, List.length_nil, Nat.reduceAdd, Nat.reduceSub, List.replicate, List.cons_append, List.nil_append, List.append_nil]
  have hS := tp.len
  walk_at "r"
  have hn2 : (S ++ [MO.lst xs]).length = S.length + 1 := by simp
  rw [hn2]
  refine r_one (by omega) ?_
  refine for_inv (callW_mono T _) (fun i σ S' => ∃ ls ks k4, σ = [some (.ref 2), some (.ref a), some (.ref S.length), some (.ref (S.length + 1)), k4] ∧
    S'[S.length]? = some (.lst ls) ∧ S'[S.length + 1]? = some (.lst ks) ∧ ls.length + i = xs.length ∧ ks.length = i ∧
    (∀ d ∈ ls, d ∈ xs) ∧ (∀ d ∈ ks, d ∈ xs) ∧ Fr S S' ∧ Tp S') ?_ ?_ ?_ ?_
  · exact ⟨xs, [], none, rfl, get_app get_new, get_new' hn2.symm, rfl, rfl, (fun d hd => hd), (fun d hd => by cases hd), ((Fr.refl S).app _).app _, (tp.app _).app _⟩
  · intros; exact trivial
  · rintro i x σ S' hx ⟨ls, ks, k4, rfl, hl, hk, hll, hkl, al, ak, fr, tp'⟩
    obtain ⟨hi, rfl⟩ := rgD_get hx
    refine ⟨_, rfl, ?_⟩
    walk_at "r"
    refine ⟨lstD_lst hk, ?_⟩
    walk_at "r"
    refine ⟨lstD_lst hl, ?_⟩
    walk_at "r"
    refine draw_ok tp' (by omega) fun r S2 fr2 tp2 r0 r1 => ?_
    have hr : r.toNat < ls.length := by omega
    walk_at "r"
    refine m_popI (by walk_at "lk") (by omega) (seqIndex_ok r0 (by omega)) (List.getElem?_eq_getElem hr) ?_
    walk_at "r"
    have hk2 : S2[S.length + 1]? = some (.lst ks) := by walk_at "lk"
    refine m_append (get_set (by omega) hk2) (by unfold sizeLine; omega) ?_
    walk_at "r"
    have hl2 : S2[S.length]? = some (.lst ls) := by walk_at "lk"
    refine ⟨ls.eraseIdx r.toNat, ks ++ [ls[r.toNat]], _, rfl, get_set (by omega) (get_set_self hl2), get_set_self (get_set (by omega) hk2), ?_, by simp [hkl], ?_, ?_, ((fr.trans fr2).set _ (by omega)).set _ (by omega), (tp2.set _ (by omega)).set _ (by omega)⟩
    · rw [List.length_eraseIdx_of_lt hr]; omega
    · intro d hd; exact al d (List.mem_of_mem_eraseIdx hd)
    · intro d hd
      rw [List.mem_append, List.mem_singleton] at hd
      rcases hd with hd | rfl
      · exact ak d hd
      · exact al _ (List.getElem_mem hr)
  · rintro σ S' ⟨ls, ks, k4, rfl, hl, hk, hll, hkl, al, ak, fr, tp'⟩
    rw [rgD_len] at hkl
    walk_at "r"
    exact q _ _ _ (by omega) hk (by omega) ak fr tp'
theorem same_ok : ∀ (k : Nat) (d : D) (S : St) (Q : QD), plD k d → Q (.bl true) S → callW T (k + 1) i__law_same [d, d] S Q
  | k, .ref n, S, Q, h, q => by cases k <;> exact h.elim
  | k, .non, S, Q, h, q => by
    refine call_of T__law_same rfl ?_
    dsimp only [f__law_same, b__law_same, startD, List.map, List.length_cons, List.length_nil, Nat.reduceAdd, Nat.reduceSub, List.replicate, List.cons_append, List.nil_append, List.append_nil]
    walk_at "R"
    exact q
  | k, .bl b, S, Q, h, q => by
    refine call_of T__law_same rfl ?_
    dsimp only [f__law_same, b__law_same, startD, List.map, List.length_cons, List.length_nil, Nat.reduceAdd, Nat.reduceSub, List.replicate, List.cons_append, List.nil_append, List.append_nil]
    walk_at "R"
    rw [beq_self_eq_true]
    exact q
  | k, .int b, S, Q, h, q => by
    refine call_of T__law_same rfl ?_
    dsimp only [f__law_same, b__law_same, startD, List.map, List.length_cons, List.length_nil, Nat.reduceAdd, Nat.reduceSub, List.replicate, List.cons_append, List.nil_append, List.append_nil]
    walk_at "R"
    rw [decide_eq_true rfl]
    exact q
  | k, .str b, S, Q, h, q => by
    refine call_of T__law_same rfl ?_
    dsimp only [f__law_same, b__law_same, startD, List.map, List.length_cons, List.length_nil, Nat.reduceAdd, Nat.reduceSub, List.replicate, List.cons_append, List.nil_append, List.append_nil]
    walk_at "R"
    refine c_eq (eqB_self rfl (by cases k <;> exact h) (by simp [PyData.eqv])) ?_
    walk_at "R"
    exact q
  | 0, .tup xs, S, Q, h, q => h.elim
  | k + 1, .tup xs, S, Q, h, q => by
    have hx := h.1
    refine call_of T__law_same rfl ?_
    dsimp only [f__law_same, b__law_same, startD, List.map, List.length_cons, List.length_nil, Nat.reduceAdd, Nat.reduceSub, List.replicate, List.cons_append, List.nil_append, List.append_nil]
    walk_at "R"
    rw [decide_eq_true rfl]
    walk_at "R"
    refine r_one (by omega) ?_
    refine for_inv (callW_mono T _) (fun i σ S' => S' = S ∧ ∃ k4, σ = [some (.tup xs), some (.tup xs), k4]) ⟨rfl, _, rfl⟩ (fun _ _ _ _ => trivial) ?_ ?_
    · rintro i x σ S' hx ⟨rfl, k4, rfl⟩
      obtain ⟨hi, rfl⟩ := rgD_get hx
      have hi' : i < xs.length := by omega
      refine ⟨_, rfl, ?_⟩
      walk_at "R"
      refine ix_tup (atI_int (by omega) (by rw [show ((0 : Int) + (i : Int)).toNat = i by omega]; exact List.getElem?_eq_getElem hi')) ?_
      walk_at "R"
      refine ix_tup (atI_int (by omega) (by rw [show ((0 : Int) + (i : Int)).toNat = i by omega]; exact List.getElem?_eq_getElem hi')) ?_
      walk_at "R"
      refine same_ok k _ _ _ (h.2 _ (List.getElem_mem hi')) ?_
      walk_at "R"
      exact ⟨rfl, _, rfl⟩
    · rintro σ S' ⟨rfl, k4, rfl⟩
      walk_at "R"
      exact q
theorem rows_ok {k : Nat} {S : St} {m a : Nat} {as : List (Int × Int × Int)} {Q : QD} (hm : m ≤ 8) (ha : S[a]? = some (.lst (as.map arcD))) (ao : ∀ x ∈ as, okA m x)
    (hn : (∃ i, i < m + 1 ∧ 0 < (lk (m + 1) (m + 1) (netF m as) i i).getD 0) → ∀ S', Ext S S' → Q .non S')
    (hr : (∀ i, i < m + 1 → ¬ 0 < (lk (m + 1) (m + 1) (netF m as) i i).getD 0) → ∀ r b S', S.length ≤ r → S.length ≤ b → Rws S' r b (m + 1) (lk (m + 1) (m + 1) (netF m as)) → Ext S S' → Q (.ref r) S') :
    callW T (k + 1) i__law_net_rows [.int m, .ref a] S Q := by
  refine call_of T__law_net_rows rfl ?_
  dsimp only [f__law_net_rows, b__law_net_rows, startD, List.map, List.length_cons, List.length_nil, Nat.reduceAdd, Nat.reduceSub, List.replicate, List.cons_append, List.nil_append, List.append_nil]
  walk_at "r"
  refine r_one (by omega) ?_
  generalize hn' : m + 1 = n at *
  have hmn : ((m : Int) + 1 - 0).toNat = n := by omega
  -- the rows, none of them filled
  refine for_inv (callW_mono T _) (fun i σ S' => ∃ k3, σ = [some (.int m), some (.ref a), some (.ref S.length), k3, none, none, none] ∧ S'[S.length]? = some (.lst (refsD (S.length + 2) i)) ∧
    (∀ i', i' < i → S'[S.length + 2 + 2 * i']? = some (.lst (rowD n fun _ => none))) ∧ S'.length = S.length + 1 + 2 * i ∧ Ext S S') ?_ (fun _ _ _ _ => trivial) ?_ ?_
  · exact ⟨none, rfl, get_new, (fun _ h => by omega), by simp, Ext.new ..⟩
  · rintro i x σ S' hx ⟨k3, rfl, h1, h2, h3, h4⟩
    obtain ⟨hi, rfl⟩ := rgD_get hx
    rw [hmn] at hi
    refine ⟨_, rfl, ?_⟩
    walk_at "r"
    refine ⟨lstD_lst h1, ?_⟩
    walk_at "r"
    refine b_mulL get_new (by omega) (by simp only [List.length_cons, List.length_nil]; unfold sizeLine; omega) ?_
    walk_at "r"
    refine m_append (get_app (get_app h1)) (by rw [refsD_len]; unfold sizeLine; omega) ?_
    walk_at "r"
    have hl : (S' ++ [MO.lst [D.non]]).length = S.length + 2 + 2 * i := by rw [List.length_append, List.length_singleton, h3]; omega
    rw [hl, show ((m : Int) + 1).toNat = n by omega, rowD_none]
    refine ⟨_, rfl, ?_, ?_, ?_, ((h4.app _).app _).set _ (Nat.le_refl _)⟩
    · rw [get_set_self (get_app (get_app h1))]
      congr 2
      unfold refsD
      rw [List.range_succ, List.map_append]; rfl
    · intro i' hi'
      by_cases e : i' = i
      · subst e; exact get_set (by omega) (get_new' hl.symm)
      · exact get_set (by omega) (get_app (get_app (h2 i' (by omega))))
    · rw [List.length_set, List.length_append, hl, List.length_singleton]; omega
  rintro σ S1 ⟨k3, rfl, h1, h2, h3, h4⟩
  rw [rgD_len, hmn] at h1 h2
  have R0 : Rws S1 S.length (S.length + 2) n (ini m 0) := ⟨h1, h2, fun i hi => by omega⟩
  clear h1 h2 h3
  have hS := lt_of_get ha
  walk_at "r"
  refine r_one (by omega) ?_
  generalize hb : S.length + 2 = b at *
  generalize hrr : S.length = r at *
  -- zeros
  refine for_inv (callW_mono T _) (fun i σ S' => ∃ k3, σ = [some (.int m), some (.ref a), some (.ref r), k3, none, none, none] ∧ Rws S' r b n (ini m i) ∧ Ext S S') ⟨k3, rfl, R0, h4⟩ (fun _ _ _ _ => trivial) ?_ ?_
  · rintro i x σ S' hx ⟨k3, rfl, R, e⟩
    obtain ⟨hi, rfl⟩ := rgD_get hx
    rw [hmn] at hi
    refine ⟨_, rfl, ?_⟩
    walk_at "r"
    refine ix_ref R.top (refsD_at (by omega) (by omega)) ?_
    walk_at "r"
    have hp : pyI n (0 + (i : Int)) = i := by unfold pyI; rw [if_pos (by omega)]; omega
    have hq : pyI n (m : Int) = m := by unfold pyI; rw [if_pos (by omega)]; omega
    rw [hp]
    refine st_ix (R.row i hi) (ixN_int (by omega) (by rw [rowD_len]; omega)) ?_
    walk_at "r"
    have R2 := R.upd (v := some 0) hi hi
    rw [show (0 + (i : Int)).toNat = i by omega]
    refine ix_ref R2.top (refsD_at (by omega) (by omega)) ?_
    walk_at "r"
    rw [hq]
    refine st_ix (R2.row m (by omega)) (ixN_int (by omega) (by rw [rowD_len]; omega)) ?_
    walk_at "r"
    have R3 := R2.upd (i := m) (v := some 0) (by omega) hi
    rw [show (0 + (i : Int)).toNat = i by omega]
    exact ⟨_, rfl, R3, (e.set _ (by omega)).set _ (by omega)⟩
  rintro σ S2 ⟨k3, rfl, R, e⟩
  rw [rgD_len, hmn] at R
  have ha2 := e.get ha
  walk_at "r"
  refine ⟨_, seqOf_lst ha2, ?_⟩
  -- the arcs
  refine for_inv (callW_mono T _) (fun i σ S' => ∃ k3 k5 k6, σ = [some (.int m), some (.ref a), some (.ref r), k3, none, k5, k6] ∧ Rws S' r b n (arcs ((as.map (natA n)).take i) (ini m n)) ∧ Ext S S') ⟨k3, _, _, rfl, R, e⟩ (fun i σ S' h => by obtain ⟨_, _, _, _, _, h⟩ := h; exact still_ref (h.get ha)) ?_ ?_
  · rintro i x σ S' hx ⟨k3, k5, k6, rfl, R, e⟩
    obtain ⟨⟨p, q, w⟩, hx', rfl⟩ := get_of_map hx
    obtain ⟨⟨p0, p1⟩, q0, q1⟩ := ao _ (List.mem_of_getElem? hx')
    dsimp only at p0 p1 q0 q1
    have step := arcs_take (ini m n) (as.map (natA n)) i (natA n (p, q, w)) (by rw [List.getElem?_map, hx']; rfl)
    have hP : pyI n p < n := pyI_lt (by omega) (by omega)
    have hQ : pyI n q < n := pyI_lt (by omega) (by omega)
    generalize arcs ((as.map (natA n)).take i) (ini m n) = f at *
    have done : f (pyI n p) (pyI n q) = omax (f (pyI n p) (pyI n q)) (some w) → Rws S' r b n (arcs ((as.map (natA n)).take (i + 1)) (ini m n)) := fun h => by
      rw [step]; exact R.same fun i' j' _ _ => upd_same f _ _ _ h i' j'
    have setit : omax (f (pyI n p) (pyI n q)) (some w) = some w → Rws (S'.set (b + 2 * pyI n p) (.lst ((rowD n (f (pyI n p))).set (pyI n q) (.int w)))) r b n (arcs ((as.map (natA n)).take (i + 1)) (ini m n)) := fun h => by
      rw [step]
      have := R.upd (v := some w) hP hQ
      show Rws _ r b n (FNet.upd f (pyI n p) (pyI n q) (omax (f (pyI n p) (pyI n q)) (some w)))
      rw [h]; exact this
    refine ⟨_, rfl, ?_⟩
    walk_at "r"
    refine ix_ref R.top (refsD_at (by omega) (by omega)) ?_
    walk_at "r"
    refine ix_ref (R.row _ hP) (rowD_py (by omega) (by omega)) ?_
    walk_at "r"
    cases hv : f (pyI n p) (pyI n q) with
    | none =>
      rw [hv] at setit
      walk_at "r"
      refine ix_ref R.top (refsD_at (by omega) (by omega)) ?_
      walk_at "r"
      refine st_ix (R.row _ hP) (by rw [rowD_len]; exact ixN_py (by omega) (by omega)) ?_
      walk_at "r"
      exact ⟨_, _, _, rfl, setit rfl, e.set _ (by omega)⟩
    | some v =>
      rw [hv] at setit done
      refine if_bF rfl ?_
      walk_at "r"
      refine ix_ref R.top (refsD_at (by omega) (by omega)) ?_
      walk_at "r"
      refine ix_ref (R.row _ hP) (rowD_py (by omega) (by omega)) ?_
      walk_at "r"
      rw [hv]
      refine c_lt ?_
      walk_at "r"
      refine if_d (fun h => ?_) (fun h => ?_)
      · walk_at "r"
        refine ix_ref R.top (refsD_at (by omega) (by omega)) ?_
        walk_at "r"
        refine st_ix (R.row _ hP) (by rw [rowD_len]; exact ixN_py (by omega) (by omega)) ?_
        walk_at "r"
        exact ⟨_, _, _, rfl, setit (by show some _ = _; rw [if_pos h]), e.set _ (by omega)⟩
      · walk_at "r"
        exact ⟨_, _, _, rfl, done (by show _ = some _; rw [if_neg h]), e⟩
  rintro σ S3 ⟨k3, k5, k6, rfl, R, e⟩
  rw [List.length_map, List.take_of_length_le (by rw [List.length_map]; exact Nat.le_refl _)] at R
  have hF : arcs (as.map (natA n)) (ini m n) = netF m as := by unfold netF; rw [hn']
  rw [hF] at R
  walk_at "r"
  refine r_one (by omega) ?_
  -- the longest ways
  refine for_inv (callW_mono T _) (fun k σ S' => ∃ k3 k4 k5 k6, σ = [some (.int m), some (.ref a), some (.ref r), k3, k4, k5, k6] ∧ Rws S' r b n (lk n k (netF m as)) ∧ Ext S S') ⟨k3, _, _, _, rfl, R, e⟩ (fun _ _ _ _ => trivial) ?_ ?_
  · rintro mid x σ S4 hx ⟨k3, k4, k5, k6, rfl, R, e⟩
    obtain ⟨hk, rfl⟩ := rgD_get hx
    rw [hmn] at hk
    have hpk : pyI n (0 + (mid : Int)) = mid := by unfold pyI; rw [if_pos (by omega)]; omega
    refine ⟨_, rfl, ?_⟩
    walk_at "r"
    refine r_one (by omega) ?_
    refine for_inv (callW_mono T _) (fun i σ S' => ∃ k3 k5 k6, σ = [some (.int m), some (.ref a), some (.ref r), k3, some (.int (0 + (mid : Int))), k5, k6] ∧ Rws S' r b n (li n mid i (lk n mid (netF m as))) ∧ Ext S S') ⟨_, _, _, rfl, R, e⟩ (fun _ _ _ _ => trivial) ?_ ?_
    · rintro i x σ S5 hx ⟨k3, k5, k6, rfl, R, e⟩
      obtain ⟨hi, rfl⟩ := rgD_get hx
      rw [hmn] at hi
      have hpi : pyI n (0 + (i : Int)) = i := by unfold pyI; rw [if_pos (by omega)]; omega
      have next : lj mid i n (li n mid i (lk n mid (netF m as))) = li n mid (i + 1) (lk n mid (netF m as)) := rfl
      rw [← next]
      generalize li n mid i (lk n mid (netF m as)) = g at *
      refine ⟨_, rfl, ?_⟩
      walk_at "r"
      refine ix_ref R.top (refsD_at (by omega) (by omega)) ?_
      walk_at "r"
      rw [hpi]
      refine ix_ref (R.row i hi) (rowD_py (by omega) (by omega)) ?_
      rw [hpk]
      walk_at "r"
      cases hik : g i mid with
      | none =>
        walk_at "r"
        exact ⟨_, _, _, rfl, R.same fun i' j' _ _ => by rw [lj_none hik], e⟩
      | some wik =>
        refine if_bT rfl ?_
        walk_at "r"
        refine r_one (by omega) ?_
        refine for_inv (callW_mono T _) (fun j σ S' => ∃ k5 k6, σ = [some (.int m), some (.ref a), some (.ref r), some (.int (0 + (i : Int))), some (.int (0 + (mid : Int))), k5, k6] ∧ Rws S' r b n (lj mid i j g) ∧ Ext S S') ⟨_, _, rfl, R, e⟩ (fun _ _ _ _ => trivial) ?_ ?_
        · rintro j x σ S6 hx ⟨k5, k6, rfl, R, e⟩
          obtain ⟨hj, rfl⟩ := rgD_get hx
          rw [hmn] at hj
          have hpj : pyI n (0 + (j : Int)) = j := by unfold pyI; rw [if_pos (by omega)]; omega
          have next : stp mid i j (lj mid i j g) = lj mid i (j + 1) g := rfl
          rw [← next]
          have hge := lj_le mid i j g i mid
          rw [hik] at hge
          generalize lj mid i j g = h at *
          obtain ⟨u, hu⟩ : ∃ u, h i mid = some u := by cases e1 : h i mid with | none => rw [e1] at hge; exact hge.elim | some u => exact ⟨u, rfl⟩
          have keep : h i j = omax (h i j) (oadd (h i mid) (h mid j)) → Rws S6 r b n (stp mid i j h) := fun q => R.same fun i' j' _ _ => upd_same h i j _ q i' j'
          have change : ∀ v, omax (h i j) (oadd (h i mid) (h mid j)) = some v → Rws (S6.set (b + 2 * i) (.lst ((rowD n (h i)).set j (.int v)))) r b n (stp mid i j h) := fun v q => by
            unfold stp; rw [q]; exact R.upd (v := some v) hi hj
          refine ⟨_, rfl, ?_⟩
          walk_at "r"
          refine ix_ref R.top (refsD_at (by omega) (by omega)) ?_
          walk_at "r"
          rw [hpk]
          refine ix_ref (R.row mid hk) (rowD_py (by omega) (by omega)) ?_
          rw [hpj]
          walk_at "r"
          cases hkj : h mid j with
          | none =>
            rw [hkj] at keep
            walk_at "r"
            exact ⟨_, _, rfl, keep (by rw [hu]; cases h i j <;> rfl), e⟩
          | some w =>
            rw [hkj, hu] at keep change
            refine if_bT rfl ?_
            walk_at "r"
            refine ix_ref R.top (refsD_at (by omega) (by omega)) ?_
            walk_at "r"
            rw [hpi]
            refine ix_ref (R.row i hi) (rowD_py (by omega) (by omega)) ?_
            rw [hpj]
            walk_at "r"
            have sets : ∀ (v : Int) (C : Nat → List D → St → QD → Prop) (N : Sg → St → Prop) (rt : QD) (bk ct : Sg → St → Prop), omax (h i j) (oadd (some u) (some w)) = some v → v = u + w → (∀ S', Rws S' r b n (stp mid i j h) → Ext S S' → N [some (.int m), some (.ref a), some (.ref r), some (.int (0 + (i : Int))), some (.int (0 + (mid : Int))), some (.int (0 + (j : Int))), k6] S') →
                wSs C (.cons (.setIx (.ix (.var 2) (.var 3)) (.var 5) (.bin .add (.ix (.ix (.var 2) (.var 3)) (.var 4)) (.ix (.ix (.var 2) (.var 4)) (.var 5)))) .nil) { nx := N, rt := rt, bk := bk, ct := ct } [some (.int m), some (.ref a), some (.ref r), some (.int (0 + (i : Int))), some (.int (0 + (mid : Int))), some (.int (0 + (j : Int))), k6] S6 := by
              intro v C N rt bk ct hv ev hN
              walk_at "r"
              refine ix_ref R.top (refsD_at (by omega) (by omega)) ?_
              walk_at "r"
              rw [hpi]
              refine ix_ref (R.row i hi) (rowD_py (by omega) (by omega)) ?_
              rw [hpk, hu]
              walk_at "r"
              refine ix_ref R.top (refsD_at (by omega) (by omega)) ?_
              walk_at "r"
              rw [hpk]
              refine ix_ref (R.row mid hk) (rowD_py (by omega) (by omega)) ?_
              rw [hpj, hkj]
              refine b_add ?_
              walk_at "r"
              refine ix_ref R.top (refsD_at (by omega) (by omega)) ?_
              walk_at "r"
              rw [hpi]
              refine st_ix (R.row i hi) (ixN_int (by omega) (by rw [rowD_len]; omega)) ?_
              rw [show (0 + (j : Int)).toNat = j by omega, ← ev]
              walk_at "r"
              exact hN _ (change v hv) (e.set _ (by omega))
            cases hij : h i j with
            | none =>
              refine if_bT rfl ?_
              refine ex_truB ?_
              refine if_bT rfl ?_
              refine sets (u + w) _ _ _ _ _ (by rw [hij]; rfl) rfl fun S' R' e' => ⟨_, _, rfl, R', e'⟩
            | some v =>
              refine if_bF rfl ?_
              walk_at "r"
              refine ix_ref R.top (refsD_at (by omega) (by omega)) ?_
              walk_at "r"
              rw [hpi]
              refine ix_ref (R.row i hi) (rowD_py (by omega) (by omega)) ?_
              rw [hpj, hij]
              walk_at "r"
              refine ix_ref R.top (refsD_at (by omega) (by omega)) ?_
              walk_at "r"
              rw [hpi]
              refine ix_ref (R.row i hi) (rowD_py (by omega) (by omega)) ?_
              rw [hpk, hu]
              walk_at "r"
              refine ix_ref R.top (refsD_at (by omega) (by omega)) ?_
              walk_at "r"
              rw [hpk]
              refine ix_ref (R.row mid hk) (rowD_py (by omega) (by omega)) ?_
              rw [hpj, hkj]
              refine b_add ?_
              refine c_lt ?_
              walk_at "r"
              refine if_d (fun hlt => ?_) (fun hlt => ?_)
              · refine sets (u + w) _ _ _ _ _ (by rw [hij]; show some _ = _; rw [if_pos hlt]) rfl fun S' R' e' => ⟨_, _, rfl, R', e'⟩
              · walk_at "r"
                exact ⟨_, _, rfl, keep (by rw [hij]; show _ = some _; rw [if_neg hlt]), e⟩
        · rintro σ S6 ⟨k5, k6, rfl, R, e⟩
          rw [rgD_len, hmn] at R
          exact ⟨_, _, _, rfl, R, e⟩
    · rintro σ S5 ⟨k3, k5, k6, rfl, R, e⟩
      rw [rgD_len, hmn] at R
      exact ⟨_, _, _, _, rfl, R, e⟩
  rintro σ S4 ⟨k3, k4, k5, k6, rfl, R, e⟩
  rw [rgD_len, hmn] at R
  have dg : ∀ i, i < n → ∃ u, lk n n (netF m as) i i = some u := fun i hi => by
    have h1 : ole (some 0) (netF m as i i) := by
      have := arcs_max (as.map (natA (m + 1))) (ini m (m + 1)) (fun _ _ => none) (ini m (m + 1)) (fun i j => by cases ini m (m + 1) i j <;> rfl) i i
      unfold netF
      rw [this, ini_at, if_pos ⟨by omega, Or.inl rfl⟩]
      exact ole_maxR _ _
    have h2 := ole_trans h1 (lk_le n n (netF m as) i i)
    cases e1 : lk n n (netF m as) i i with
    | none => rw [e1] at h2; exact h2.elim
    | some u => exact ⟨u, rfl⟩
  walk_at "r"
  refine r_one (by omega) ?_
  refine for_inv (callW_mono T _) (fun i σ S' => S4 = S' ∧ (∀ i', i' < i → ¬ 0 < (lk n n (netF m as) i' i').getD 0) ∧ ∃ k3, σ = [some (.int m), some (.ref a), some (.ref r), k3, k4, k5, k6]) ⟨rfl, (fun _ h => by omega), _, rfl⟩ (fun _ _ _ _ => trivial) ?_ ?_
  · rintro i x σ S' hx ⟨rfl, hno, k3, rfl⟩
    obtain ⟨hi, rfl⟩ := rgD_get hx
    rw [hmn] at hi
    have hpi : pyI n (0 + (i : Int)) = i := by unfold pyI; rw [if_pos (by omega)]; omega
    obtain ⟨u, hu⟩ := dg i hi
    refine ⟨_, rfl, ?_⟩
    walk_at "r"
    refine ix_ref R.top (refsD_at (by omega) (by omega)) ?_
    walk_at "r"
    rw [hpi]
    refine ix_ref (R.row i hi) (rowD_py (by omega) (by omega)) ?_
    rw [hpi, hu]
    walk_at "r"
    refine c_gt ?_
    walk_at "r"
    refine if_d (fun h => ?_) (fun h => ?_)
    · walk_at "r"
      exact hn ⟨i, hi, by rw [hu]; exact h⟩ _ e
    · walk_at "r"
      refine ⟨rfl, fun i' hi' => ?_, _, rfl⟩
      by_cases e1 : i' = i
      · subst e1; rw [hu]; exact h
      · exact hno i' (by omega)
  · rintro σ S' ⟨rfl, hno, k3, rfl⟩
    rw [rgD_len, hmn] at hno
    walk_at "r"
    exact hr hno r b _ (Nat.le_refl _) (by omega) R e

theorem nt_none {k : Nat} {S : St} {Q : QD} (q : Q .non S) : callW T (k + 1) i__law_net_table [.non] S Q := by
  refine call_of T__law_net_table rfl ?_
  dsimp only [f__law_net_table, b__law_net_table, startD, List.map, List.length_cons, List.length_nil, Nat.reduceAdd, Nat.reduceSub, List.replicate, List.cons_append, List.nil_append, List.append_nil]
  walk_at "r"
  exact q
theorem nt_some {k : Nat} {S : St} {r n : Nat} {f : F} {Q : QD} (hn : n < 1000) (TB : Tab S r n f) (q : ∀ S', Ext S S' → Q (tabD n f) S') : callW T (k + 1) i__law_net_table [.ref r] S Q := by
  refine call_of T__law_net_table rfl ?_
  dsimp only [f__law_net_table, b__law_net_table, startD, List.map, List.length_cons, List.length_nil, Nat.reduceAdd, Nat.reduceSub, List.replicate, List.cons_append, List.nil_append, List.append_nil]
  obtain ⟨ds, hds, hdl, hrow⟩ := TB.get
  walk_at "r"
  refine ⟨ds, seqOf_lst hds, by rw [hdl]; unfold sizeLine; omega, ?_⟩
  refine lc_all (callW_mono T _) (fun j acc S'' => S = S'' ∧ acc = (List.range j).map fun i => D.tup (rowD n (f i))) ⟨rfl, rfl⟩ (fun i acc S'' h => by rw [← h.1]; exact still_ref hds) ?_ ?_
  · rintro j x acc S'' hx ⟨rfl, rfl⟩
    obtain ⟨hj, ex⟩ := List.getElem?_eq_some_iff.1 hx
    have hrj := hrow j hj
    rw [ex] at hrj
    refine ⟨_, rfl, ?_⟩
    walk_at "r"
    refine tup_row hrj ?_
    exact ⟨rfl, by rw [List.range_succ, List.map_append]; rfl⟩
  · rintro acc S'' ⟨rfl, rfl⟩
    walk_at "r"
    rw [hdl]
    exact q _ (Ext.new ..)
theorem net_tight_ok {k : Nat} {S : St} {r n : Nat} {G : F} {i j w : Int} {Q : QD} (hn : n < 1000) (i0 : -(n : Int) ≤ i) (i1 : i < n) (j0 : -(n : Int) ≤ j) (j1 : j < n) (TB : Tab S r n G)
    (qn : 0 < (oadd (G (pyI n j) (pyI n i)) (some w)).getD 0 → Q .non S)
    (qs : ¬ 0 < (oadd (G (pyI n j) (pyI n i)) (some w)).getD 0 → ∀ r' S', Ext S S' → S.length ≤ r' → Tab S' r' n (tight (pyI n i) (pyI n j) w G) → Q (.ref r') S') :
    callW T (k + 1) i__law_net_tight [.ref r, .tup [.int i, .int j, .int w]] S Q := by
  refine call_of T__law_net_tight rfl ?_
  dsimp only [f__law_net_tight, b__law_net_tight, startD, List.map, List.length_cons, List.length_nil, Nat.reduceAdd, Nat.reduceSub, List.replicate, List.cons_append, List.nil_append, List.append_nil]
  obtain ⟨ds, hds, hdl, hrow⟩ := TB.get
  have hj : pyI n j < n := pyI_lt j0 j1
  have hi : pyI n i < n := pyI_lt i0 i1
  have dsat : ∀ x : Int, -(n : Int) ≤ x → x < n → ∃ d, L2.atI ds x = some d ∧ RowIs S d n (G (pyI n x)) := fun x h0 h1 => by
    have hp : pyI ds.length x < ds.length := by rw [hdl]; exact pyI_lt h0 h1
    refine ⟨ds[pyI ds.length x], atI_py (by omega) (by omega), ?_⟩
    have := hrow (pyI ds.length x) hp
    rwa [show pyI n x = pyI ds.length x by rw [hdl]]
  obtain ⟨dj, edj, rj⟩ := dsat j j0 j1
  walk_at "q"
  refine ⟨_, rfl, ?_⟩
  walk_at "q"
  refine ss_if (callW_mono T _) (fun b S' => S' = S ∧ (b = true ↔ 0 < (oadd (G (pyI n j) (pyI n i)) (some w)).getD 0)) ?_ ?_ ?_
  · walk_at "r"
    refine ix_ref hds edj ?_
    walk_at "r"
    refine ix_rowp rj i0 i1 ?_
    walk_at "r"
    cases e : G (pyI n j) (pyI n i) with
    | none =>
      refine if_bF rfl ?_
      walk_at "r"
      exact ⟨rfl, (fun h => by cases h), fun h => absurd h (by show ¬ (0 : Int) < 0; decide)⟩
    | some v =>
      refine if_bT rfl ?_
      walk_at "r"
      refine ix_ref hds edj ?_
      walk_at "r"
      refine ix_rowp rj i0 i1 ?_
      rw [e]
      walk_at "r"
      refine b_add ?_
      walk_at "r"
      exact ⟨rfl, decide_eq_true_iff⟩
  · rintro S' ⟨rfl, h⟩
    walk_at "r"
    exact qn (h.1 rfl)
  rintro S' ⟨rfl, h⟩
  have h' : ¬ 0 < (oadd (G (pyI n j) (pyI n i)) (some w)).getD 0 := fun g => by have := h.2 g; cases this
  have hS := lt_of_get hds
  walk_at "r"
  refine ⟨ds, seqOf_lst (get_app hds), ?_⟩
  refine for_inv (callW_mono T _) (fun u σ S2 => ∃ k3 k7 k8 k9 es, σ = [some (.ref r), some (.tup [.int i, .int j, .int w]), some (.ref S'.length), k3, some (.int i), some (.int j), some (.int w), k7, k8, k9] ∧
    S2[S'.length]? = some (.lst es) ∧ es.length = u ∧ (∀ v (h : v < es.length), ∃ q, es[v] = .ref q ∧ S'.length < q ∧ S2[q]? = some (.lst (rowD n (tight (pyI n i) (pyI n j) w G v)))) ∧ Ext S' S2) ⟨_, _, _, _, [], rfl, get_new, rfl, (fun _ h => by cases h), Ext.new ..⟩
    (fun u σ S2 h => by obtain ⟨_, _, _, _, _, _, _, _, _, e⟩ := h; exact still_ref (e.get hds)) ?_ ?_
  · rintro u x σ S2 hx ⟨k3, k7, k8, k9, es, rfl, hes, hel, hrows, e⟩
    obtain ⟨hu, ex⟩ := List.getElem?_eq_some_iff.1 hx
    have hun : u < n := by omega
    have hxr := (hrow u hu).ext e
    rw [ex] at hxr
    have hlen := e.len
    have hSl := lt_of_get hes
    refine ⟨_, rfl, ?_⟩
    walk_at "r"
    refine list_row hxr ?_
    walk_at "r"
    rw [hdl]
    refine r_one (by omega) ?_
    generalize hp : S2.length = p at *
    have hnew : (S2 ++ [MO.lst (rowD n (G u))])[p]? = some (.lst (rowD n (G u))) := get_new' hp.symm
    have e2 : Ext S2 (S2 ++ [MO.lst (rowD n (G u))]) := Ext.new ..
    have hnl : (S2 ++ [MO.lst (rowD n (G u))]).length = p + 1 := by rw [List.length_append, hp]; rfl
    generalize S2 ++ [MO.lst (rowD n (G u))] = U at *
    refine for_inv (callW_mono T _) (fun v σ S3 => ∃ k8 k9, σ = [some (.ref r), some (.tup [.int i, .int j, .int w]), some (.ref S'.length), some x, some (.int i), some (.int j), some (.int w), some (.ref p), k8, k9] ∧
      S3[p]? = some (.lst (rowD n fun v' => if v' < v then tight (pyI n i) (pyI n j) w G u v' else G u v')) ∧ Ext S2 S3) ⟨_, _, rfl, by rw [hnew]; congr 2, e2⟩ (fun _ _ _ _ => trivial) ?_ ?_
    · rintro v y σ S3 hy ⟨k8, k9, rfl, hp3, e3⟩
      obtain ⟨hv, rfl⟩ := rgD_get hy
      have hvn : v < n := by omega
      have hpv : pyI n (0 + (v : Int)) = v := by unfold pyI; rw [if_pos (by omega)]; omega
      have hx3 := hxr.ext e3
      have rj3 := rj.ext (e.trans e3)
      have hds3 := (e.trans e3).get hds
      have hcur : L2.atI (rowD n fun v' => if v' < v then tight (pyI n i) (pyI n j) w G u v' else G u v') (0 + (v : Int)) = some (oD (G u v)) := by
        rw [rowD_py (by omega) (by omega), hpv, if_neg (Nat.lt_irrefl v)]
      have keep : tight (pyI n i) (pyI n j) w G u v = G u v → S3[p]? = some (.lst (rowD n fun v' => if v' < v + 1 then tight (pyI n i) (pyI n j) w G u v' else G u v')) := fun ht => by
        rw [hp3]; congr 2; apply rowD_congr; intro v' _
        by_cases h1 : v' < v
        · rw [if_pos h1, if_pos (by omega)]
        · rw [if_neg h1]
          by_cases h2 : v' < v + 1
          · rw [if_pos h2, show v' = v by omega, ht]
          · rw [if_neg h2]
      have put : ∀ c : Int, tight (pyI n i) (pyI n j) w G u v = some c → (S3.set p (.lst ((rowD n fun v' => if v' < v then tight (pyI n i) (pyI n j) w G u v' else G u v').set v (.int c))))[p]? = some (.lst (rowD n fun v' => if v' < v + 1 then tight (pyI n i) (pyI n j) w G u v' else G u v')) := fun c ht => by
        rw [get_set_self hp3]
        have := rowD_set (g := fun v' => if v' < v then tight (pyI n i) (pyI n j) w G u v' else G u v') (v := some c) hvn
        rw [show D.int c = oD (some c) from rfl, this]
        congr 2; apply rowD_congr; intro v' _
        by_cases h0 : v' = v
        · rw [if_pos h0, if_pos (by omega), h0, ht]
        · rw [if_neg h0]
          by_cases h1 : v' < v
          · rw [if_pos h1, if_pos (by omega)]
          · rw [if_neg h1, if_neg (by omega)]
      have tdef : tight (pyI n i) (pyI n j) w G u v = omax (G u v) (oadd (oadd (G u (pyI n i)) (some w)) (G (pyI n j) v)) := rfl
      refine ⟨_, rfl, ?_⟩
      walk_at "r"
      refine ix_rowp hx3 i0 i1 ?_
      walk_at "r"
      cases e1 : G u (pyI n i) with
      | none =>
        refine if_bF rfl ?_
        walk_at "r"
        exact ⟨_, _, rfl, keep (by rw [tdef, e1]; cases G u v <;> rfl), e3⟩
      | some a =>
        refine if_bT rfl ?_
        walk_at "r"
        refine ix_ref hds3 edj ?_
        walk_at "r"
        refine ix_rowp rj3 (by omega) (by omega) ?_
        rw [hpv]
        walk_at "r"
        cases e4 : G (pyI n j) v with
        | none =>
          refine if_bF rfl ?_
          walk_at "r"
          exact ⟨_, _, rfl, keep (by rw [tdef, e1, e4]; cases G u v <;> rfl), e3⟩
        | some b =>
          refine if_bT rfl ?_
          walk_at "r"
          refine ix_rowp hx3 i0 i1 ?_
          rw [e1]
          walk_at "r"
          refine b_add ?_
          walk_at "r"
          refine ix_ref hds3 edj ?_
          walk_at "r"
          refine ix_rowp rj3 (by omega) (by omega) ?_
          rw [hpv, e4]
          refine b_add ?_
          walk_at "R"
          refine ix_ref hp3 hcur ?_
          walk_at "R"
          cases e5 : G u v with
          | none =>
            walk_at "R"
            refine st_ix hp3 (by rw [rowD_len]; exact ixN_int (by omega) (by omega)) ?_
            walk_at "R"
            rw [show (0 + (v : Int)).toNat = v by omega]
            exact ⟨_, _, rfl, put _ (by rw [tdef, e1, e4, e5]; rfl), e3.set _ (by omega)⟩
          | some c =>
            refine if_bF rfl ?_
            walk_at "R"
            refine ix_ref hp3 hcur ?_
            rw [e5]
            walk_at "R"
            refine c_lt ?_
            walk_at "R"
            refine if_d (fun hlt => ?_) (fun hlt => ?_)
            · walk_at "R"
              refine st_ix hp3 (by rw [rowD_len]; exact ixN_int (by omega) (by omega)) ?_
              walk_at "R"
              rw [show (0 + (v : Int)).toNat = v by omega]
              exact ⟨_, _, rfl, put _ (by rw [tdef, e1, e4, e5]; show some _ = _; rw [if_pos hlt]), e3.set _ (by omega)⟩
            · walk_at "R"
              exact ⟨_, _, rfl, keep (by rw [tdef, e1, e4, e5]; show some _ = _; rw [if_neg hlt]), e3⟩
    · rintro σ S3 ⟨k8, k9, rfl, hp3, e3⟩
      rw [rgD_len, show ((n : Int) - 0).toNat = n by omega] at hp3
      have hes3 := e3.get hes
      walk_at "r"
      refine ⟨lstD_lst hes3, ?_⟩
      walk_at "r"
      refine m_append hes3 (by unfold sizeLine; omega) ?_
      walk_at "r"
      have eS : Ext S' (S3.set S'.length (.lst (es ++ [.ref p]))) := (e.trans e3).set _ (Nat.le_refl _)
      refine ⟨_, _, _, _, _, rfl, get_set_self hes3, by rw [List.length_append, hel]; rfl, fun v hv => ?_, eS⟩
      by_cases hv' : v < es.length
      · obtain ⟨q, eq1, eq2, eq3⟩ := hrows v hv'
        exact ⟨q, by rw [List.getElem_append_left hv']; exact eq1, eq2, get_set (by omega) (e3.get eq3)⟩
      · have hvl : v = es.length := by rw [List.length_append, List.length_singleton] at hv; omega
        subst hvl
        refine ⟨p, by simp, by omega, get_set (by omega) ?_⟩
        rw [hp3, hel]
        congr 2
        apply rowD_congr
        intro v' hv'
        rw [if_pos hv']
  · rintro σ S2 ⟨k3, k7, k8, k9, es, rfl, hes, hel, hrows, e⟩
    walk_at "r"
    exact qs h' _ _ e (Nat.le_refl _) ⟨es, hes, by omega, fun v hv => by obtain ⟨q, eq1, _, eq3⟩ := hrows v hv; rw [eq1]; exact seqOf_lst eq3⟩
theorem early_ok {k : Nat} {S : St} {r b m : Nat} {f : F} {Q : QD} (R : Rws S r b (m + 1) f) (q : ∀ S', Ext S S' → Q (.tup (rowD m (f m))) S') : callW T (k + 1) i__law_net_early [.ref r] S Q := by
  refine call_of T__law_net_early rfl ?_
  dsimp only [f__law_net_early, b__law_net_early, startD, List.map, List.length_cons, List.length_nil, Nat.reduceAdd, Nat.reduceSub, List.replicate, List.cons_append, List.nil_append, List.append_nil]
  walk_at "r"
  refine ix_ref R.top (refsD_at (by omega) (by omega)) ?_
  rw [show pyI (m + 1) (-1) = m by unfold pyI; rw [if_neg (by omega)]; omega]
  walk_at "r"
  refine sl_ref (R.row m (by omega)) ?_
  walk_at "r"
  rw [cut_row]
  exact q _ (Ext.new ..)
theorem early_tab {k : Nat} {S : St} {r m : Nat} {f : F} {Q : QD} (TB : Tab S r (m + 1) f) (q : ∀ S', Ext S S' → Q (.tup (rowD m (f m))) S') : callW T (k + 1) i__law_net_early [.ref r] S Q := by
  refine call_of T__law_net_early rfl ?_
  dsimp only [f__law_net_early, b__law_net_early, startD, List.map, List.length_cons, List.length_nil, Nat.reduceAdd, Nat.reduceSub, List.replicate, List.cons_append, List.nil_append, List.append_nil]
  obtain ⟨ds, hds, hdl, hrow⟩ := TB.get
  have hp : pyI ds.length (-1) = m := by unfold pyI; rw [if_neg (by omega)]; omega
  have hlast := hrow m (by omega)
  walk_at "r"
  refine ix_ref hds (atI_py (by omega) (by omega)) ?_
  have e0 : ds[pyI ds.length (-1)]'(by omega) = ds[m]'(by omega) := by congr 1
  rw [e0]
  generalize ds[m]'(by omega) = d at *
  walk_at "r"
  cases d with
  | ref n =>
    refine ⟨_, hlast, ?_⟩
    walk_at "r"
    rw [cut_row]
    exact q _ (Ext.new ..)
  | tup xs =>
    cases hlast
    walk_at "r"
    rw [cut_row]
    exact q _ (Ext.refl _)
  | _ => cases hlast
theorem net_at_ok {k : Nat} {S : St} {r m : Nat} {G : F} {i j x : Int} {Q : QD} (hn : m < 999) (i0 : -1 ≤ i) (i1 : i < m) (j0 : -1 ≤ j) (j1 : j < m) (TB : Tab S r (m + 1) G)
    (qn : pin (m + 1) i j x G = none → ∀ S', Ext S S' → Q .non S') (qs : ∀ H, pin (m + 1) i j x G = some H → ∀ S', Ext S S' → Q (.tup (rowD m (H m))) S') : callW T (k + 2) i__law_net_at [.ref r, .int i, .int j, .int x] S Q := by
  refine call_of T__law_net_at rfl ?_
  dsimp only [f__law_net_at, b__law_net_at, startD, List.map, List.length_cons, List.length_nil, Nat.reduceAdd, Nat.reduceSub, List.replicate, List.cons_append, List.nil_append, List.append_nil]
  unfold pin at qn qs
  walk_at "r"
  refine net_tight_ok (n := m + 1) (by omega) (by omega) (by omega) (by omega) (by omega) TB (fun h => ?_) (fun h r1 S1 e1 hr1 T1 => ?_)
  · rw [if_pos h] at qn
    walk_at "R"
    exact qn rfl _ (Ext.refl _)
  · rw [if_neg h] at qn qs
    walk_at "R"
    refine net_tight_ok (n := m + 1) (by omega) (by omega) (by omega) (by omega) (by omega) T1 (fun h2 => ?_) (fun h2 r2 S2 e2 hr2 T2 => ?_)
    · rw [if_pos h2] at qn
      walk_at "R"
      exact qn rfl _ e1
    · rw [if_neg h2] at qs
      walk_at "R"
      refine early_tab T2 fun S3 e3 => ?_
      exact qs _ rfl _ ((e1.trans e2).trans e3)
theorem kept_ok {k : Nat} {S : St} {m a : Nat} {gs : List Int} {as : List (Int × Int × Int)} {Q : QD} (hm : m ≤ 8) (hg : gs.length = m) (ha : S[a]? = some (.lst (as.map arcD))) (ao : ∀ x ∈ as, okA m x)
    (q : ∀ b, (b = true ↔ Kept gs as) → Q (.bl b) S) : callW T (k + 1) i__law_net_kept [.int m, .ref a, .tup (gs.map D.int)] S Q := by
  refine call_of T__law_net_kept rfl ?_
  dsimp only [f__law_net_kept, b__law_net_kept, startD, List.map, List.length_cons, List.length_nil, Nat.reduceAdd, Nat.reduceSub, List.replicate, List.cons_append, List.nil_append, List.append_nil]
  walk_at "r"
  refine b_addT (by rw [List.length_map, List.length_singleton]; unfold sizeLine; omega) ?_
  walk_at "r"
  rw [show gs.map D.int ++ [D.int 0] = (gs ++ [0]).map D.int by rw [List.map_append]; rfl]
  refine ⟨_, intsOf_map _, by rw [List.length_append, List.length_singleton]; omega, ?_⟩
  walk_at "r"
  have hmin : (minOf (gs ++ [0]) < 0) ↔ ∃ g ∈ gs, g < 0 := by
    have : ∀ (xs : List Int), (∃ g ∈ xs ++ [0], g < 0) ↔ ∃ g ∈ xs, g < 0 := fun xs => by
      constructor
      · rintro ⟨g, hg, h⟩
        rw [List.mem_append, List.mem_singleton] at hg
        rcases hg with hg | rfl
        · exact ⟨g, hg, h⟩
        · omega
      · rintro ⟨g, hg, h⟩; exact ⟨g, List.mem_append_left _ hg, h⟩
    cases gs with
    | nil => constructor
             · intro h; exact absurd h (by decide)
             · rintro ⟨g, hg, _⟩; cases hg
    | cons g gs =>
      show ((gs ++ [0]).foldl min g < 0) ↔ _
      rw [min_neg, this gs]
      constructor
      · rintro (h | ⟨y, hy, h⟩)
        · exact ⟨g, List.mem_cons_self .., h⟩
        · exact ⟨y, List.mem_cons_of_mem _ hy, h⟩
      · rintro ⟨y, hy, h⟩
        rcases List.mem_cons.1 hy with rfl | hy
        · exact Or.inl h
        · exact Or.inr ⟨y, hy, h⟩
  refine if_d (fun h => ?_) (fun h => ?_)
  · walk_at "r"
    refine q false ⟨(fun h => by cases h), fun K => ?_⟩
    obtain ⟨g, hg, h⟩ := hmin.1 h
    have := K.1 g hg
    omega
  walk_at "r"
  refine ⟨_, seqOf_lst ha, ?_⟩
  have hpos : ∀ g ∈ gs, 0 ≤ g := fun g hg => Int.not_lt.1 fun h' => h (hmin.2 ⟨g, hg, h'⟩)
  have hlen : ((gs ++ [0]).length : Int) = m + 1 := by rw [List.length_append, List.length_singleton]; omega
  refine for_inv (callW_mono T _) (fun i σ S' => S = S' ∧ (∀ i' a, i' < i → as[i']? = some a → ∀ x y, L2.atI (gs ++ [0]) a.1 = some x → L2.atI (gs ++ [0]) a.2.1 = some y → x + a.2.2 ≤ y) ∧ ∃ k3 k4 k5, σ = [some (.int m), some (.ref a), some (.tup ((gs ++ [0]).map D.int)), k3, k4, k5]) ⟨rfl, (fun _ _ h => by omega), _, _, _, rfl⟩ (fun i σ S' h => by rw [← h.1]; exact still_ref ha) ?_ ?_
  · rintro i x σ S' hx ⟨rfl, hk, k3, k4, k5, rfl⟩
    obtain ⟨⟨p, q', w⟩, hx', rfl⟩ := get_of_map hx
    obtain ⟨⟨p0, p1⟩, q0, q1⟩ := ao _ (List.mem_of_getElem? hx')
    dsimp only at p0 p1 q0 q1
    obtain ⟨u, hu⟩ := atI_len (xs := gs ++ [0]) (i := p) (by omega) (by omega)
    obtain ⟨v, hv⟩ := atI_len (xs := gs ++ [0]) (i := q') (by omega) (by omega)
    refine ⟨_, rfl, ?_⟩
    walk_at "r"
    refine ix_tup (atI_map hv) ?_
    walk_at "r"
    refine ix_tup (atI_map hu) ?_
    walk_at "r"
    refine if_d (fun h => ?_) (fun h => ?_)
    · walk_at "r"
      refine q false ⟨(fun h => by cases h), fun K => ?_⟩
      have := K.2 _ (List.mem_of_getElem? hx') u v hu hv
      dsimp only at this
      omega
    · walk_at "r"
      refine ⟨rfl, fun i' a hi' ha' x y hx1 hy1 => ?_, _, _, _, rfl⟩
      by_cases e : i' = i
      · subst e
        rw [hx'] at ha'; cases ha'
        rw [hu] at hx1; rw [hv] at hy1; cases hx1; cases hy1
        dsimp only; omega
      · exact hk i' a (by omega) ha' x y hx1 hy1
  · rintro σ S' ⟨rfl, hk, k3, k4, k5, rfl⟩
    walk_at "r"
    refine q true ⟨fun _ => ⟨hpos, fun a ha' => ?_⟩, fun _ => rfl⟩
    obtain ⟨i, hi, e⟩ := List.getElem_of_mem ha'
    exact hk i a (by rw [List.length_map]; exact hi) (List.getElem?_eq_some_iff.2 ⟨hi, e⟩)
def keptV (v : List Int) (a : Int × Int × Int) : Bool := decide (a.2.2 ≤ val v a.2.1 - val v a.1)
def extV (us : List Int) (as : List (Int × Int × Int)) (k : Nat) (b : List Int) (n : Nat) : List (List Int) :=
  ((List.range n).map fun (t : Nat) => b ++ [(t : Int)]).filter fun v => as.all fun a => !(decide (max a.1 a.2.1 = (k : Int))) || keptV v a
def walkF (us : List Int) (as : List (Int × Int × Int)) : Nat → List (List Int)
  | 0 => [[]]
  | k + 1 => (walkF us as k).flatMap fun b => extV us as k b ((us[k]?).getD 0 + 1).toNat
def tupV (v : List Int) : D := .tup (v.map D.int)
theorem extV_succ (us : List Int) (as : List (Int × Int × Int)) (k : Nat) (b : List Int) (n : Nat) : extV us as k b (n + 1) = extV us as k b n ++ if (as.all fun a => !(decide (max a.1 a.2.1 = (k : Int))) || keptV (b ++ [(n : Int)]) a) = true then [b ++ [(n : Int)]] else [] := by
  unfold extV
  rw [List.range_succ, List.map_append, List.filter_append]
  congr 1
  simp only [List.map_cons, List.map_nil, List.filter_cons, List.filter_nil]
theorem extV_len (us : List Int) (as : List (Int × Int × Int)) (k : Nat) (b : List Int) (n : Nat) : (extV us as k b n).length ≤ n := by
  unfold extV
  refine Nat.le_trans (List.length_filter_le _ _) ?_
  rw [List.length_map, List.length_range]; exact Nat.le_refl _
theorem flatw_len {α β : Type} (f : α → List β) (c : Nat) (h : ∀ x, (f x).length ≤ c) : ∀ xs : List α, (xs.flatMap f).length ≤ c * xs.length
  | [] => by simp
  | x :: xs => by
    rw [List.flatMap_cons, List.length_append, List.length_cons, Nat.mul_succ]
    have := flatw_len f c h xs
    have := h x
    omega
theorem walkF_len {us : List Int} {as : List (Int × Int × Int)} (hu : ∀ u ∈ us, u ≤ 6) : ∀ k, (walkF us as k).length ≤ 7 ^ k
  | 0 => by show 1 ≤ 1; omega
  | k + 1 => by
    have ih := walkF_len (as := as) hu k
    have h0 : ((us[k]?).getD 0 + 1).toNat ≤ 7 := by
      cases e : us[k]? with
      | none => show ((0 : Int) + 1).toNat ≤ 7; decide
      | some u => have := hu u (List.mem_of_getElem? e); show (u + 1).toNat ≤ 7; omega
    have := flatw_len (fun b => extV us as k b ((us[k]?).getD 0 + 1).toNat) 7 (fun b => Nat.le_trans (extV_len ..) h0) (walkF us as k)
    show ((walkF us as k).flatMap _).length ≤ 7 ^ (k + 1)
    rw [Nat.pow_succ]
    omega
theorem val_app (b : List Int) (t : Int) (i : Int) (h : i < b.length) : val (b ++ [t]) i = val b i := by
  unfold val
  by_cases h0 : i < 0
  · rw [if_pos h0, if_pos h0]
  · rw [if_neg h0, if_neg h0, List.getElem?_append_left (by omega)]
theorem kept_app (b : List Int) (t : Int) (a : Int × Int × Int) (h : max a.1 a.2.1 < b.length) : keptV (b ++ [t]) a = keptV b a := by
  unfold keptV
  rw [val_app b t _ (by omega), val_app b t _ (by omega)]
/-- what the walk finds -/
theorem walkF_mem {us : List Int} {as : List (Int × Int × Int)} : ∀ (k : Nat) (v : List Int), v ∈ walkF us as k ↔ v.length = k ∧ (∀ (i : Nat) (x : Int), v[i]? = some x → 0 ≤ x ∧ x ≤ (us[i]?).getD 0) ∧ (∀ a ∈ as, 0 ≤ max a.1 a.2.1 → max a.1 a.2.1 < k → keptV v a = true)
  | 0, v => by
    show v ∈ [[]] ↔ _
    rw [List.mem_singleton]
    constructor
    · rintro rfl
      exact ⟨rfl, (fun i x h => by cases h), fun a _ h1 h2 => by omega⟩
    · rintro ⟨h, _⟩
      exact List.length_eq_zero_iff.1 h
  | k + 1, v => by
    show v ∈ (walkF us as k).flatMap _ ↔ _
    rw [List.mem_flatMap]
    constructor
    · rintro ⟨b, hb, hv⟩
      obtain ⟨hl, hbox, hk⟩ := (walkF_mem k b).1 hb
      unfold extV at hv
      obtain ⟨hv1, hv2⟩ := List.mem_filter.1 hv
      obtain ⟨t, ht, rfl⟩ := List.mem_map.1 hv1
      rw [List.mem_range] at ht
      rw [List.all_eq_true] at hv2
      refine ⟨by rw [List.length_append, hl]; rfl, fun i x hx => ?_, fun a ha h0 h1 => ?_⟩
      · rcases Nat.lt_or_ge i k with hi | hi
        · rw [List.getElem?_append_left (by omega)] at hx
          exact hbox i x hx
        · rw [List.getElem?_append_right (by omega)] at hx
          have hik : i = k := by
            rcases Nat.lt_or_ge k i with h | h
            · rw [List.getElem?_eq_none (by rw [List.length_singleton]; omega)] at hx; cases hx
            · omega
          subst hik
          rw [hl, Nat.sub_self] at hx
          cases hx
          omega
      · by_cases hm : max a.1 a.2.1 = (k : Int)
        · have := hv2 a ha
          rw [decide_eq_true hm] at this
          simpa using this
        · rw [kept_app b _ a (by omega)]
          exact hk a ha h0 (by omega)
    · rintro ⟨hl, hbox, hk⟩
      have hkl : k < v.length := by omega
      have hv : v = v.take k ++ [v[k]] := by
        rw [List.take_append_getElem hkl, List.take_of_length_le (by omega)]
      have htl : (v.take k).length = k := by rw [List.length_take]; omega
      have ht := hbox k v[k] (List.getElem?_eq_getElem hkl)
      refine ⟨v.take k, (walkF_mem k _).2 ⟨htl, fun i x hx => ?_, fun a ha h0 h1 => ?_⟩, ?_⟩
      · refine hbox i x ?_
        rw [List.getElem?_take] at hx
        split at hx
        · exact hx
        · cases hx
      · have := hk a ha h0 (by omega)
        rw [hv, kept_app _ _ a (by rw [htl]; exact h1)] at this
        exact this
      · unfold extV
        refine List.mem_filter.2 ⟨List.mem_map.2 ⟨v[k].toNat, ?_, ?_⟩, ?_⟩
        · rw [List.mem_range]; omega
        · rw [Int.toNat_of_nonneg ht.1]; exact hv.symm
        · rw [List.all_eq_true]
          intro a ha
          by_cases hm : max a.1 a.2.1 = (k : Int)
          · rw [hk a ha (by omega) (by omega)]; simp
          · rw [decide_eq_false hm]; rfl
theorem pl_ints : ∀ is : List Int, (∀ d ∈ is.map D.int, plD 60 d) := fun is d hd => by
  obtain ⟨i, -, rfl⟩ := List.mem_map.1 hd; exact trivial
theorem arcD_pl (a : Int × Int × Int) : plD 60 (arcD a) := by
  refine ⟨by show 3 < 2 ^ 30; decide, fun d hd => ?_⟩
  unfold arcD at hd
  simp only [List.mem_cons, List.not_mem_nil, or_false] at hd
  rcases hd with rfl | rfl | rfl <;> exact trivial
theorem maxI (i j : Int) : (if j > i then j else i) = max i j := by split <;> omega
theorem filter_arcs {p : D → Bool} {r : Int × Int × Int → Bool} (h : ∀ a, p (arcD a) = r a) (as : List (Int × Int × Int)) : (as.map arcD).filter p = (as.filter r).map arcD := by
  rw [List.filter_map]
  congr 1
  apply List.filter_congr
  intro a _
  exact h a
theorem val_at {b : List Int} {t : Int} {i : Int} (h0 : -1 ≤ i) (h1 : i ≤ b.length) : L2.atI ((b ++ [t, 0]).map D.int) i = some (.int (val (b ++ [t]) i)) := by
  refine atI_map ?_
  unfold L2.atI val
  by_cases h : i < 0
  · have e : i = -1 := by omega
    subst e
    rw [ixN_neg (by decide) (by rw [List.length_append]; simp; omega), if_pos (by decide)]
    show (b ++ [t, 0])[(-1 + ((b ++ [t, 0]).length : Int)).toNat]? = some 0
    have : (-1 + ((b ++ [t, 0]).length : Int)).toNat = b.length + 1 := by rw [List.length_append]; simp; omega
    rw [this, List.getElem?_append_right (by omega)]
    simp
  · rw [ixN_int (by omega) (by rw [List.length_append]; simp; omega), if_neg h]
    show (b ++ [t, 0])[i.toNat]? = some (((b ++ [t])[i.toNat]?).getD 0)
    have hl : i.toNat < (b ++ [t]).length := by rw [List.length_append, List.length_singleton]; omega
    rw [show b ++ [t, 0] = (b ++ [t]) ++ [0] by simp, List.getElem?_append_left hl, List.getElem?_eq_getElem hl]
    rfl
theorem net_walk_ok {k : Nat} {S : St} {m a t : Nat} {as : List (Int × Int × Int)} {us : List Int} {Q : QD} (hm : m ≤ 3) (ha : S[a]? = some (.lst (as.map arcD))) (ao : ∀ x ∈ as, okA m x) (hal : as.length < 1000)
    (ht : S[t]? = some (.lst (us.map D.int))) (hul : us.length = m) (hu6 : ∀ u ∈ us, u ≤ 6) (hu0 : ∀ u ∈ us, -1000 ≤ u) (h0 : ∀ x ∈ as, max x.1 x.2.1 < 0 → x.2.2 ≤ 0)
    (q : ∀ n S', S.length ≤ n → S'[n]? = some (.lst ((walkF us as m).map tupV)) → Ext S S' → Q (.ref n) S') : callW T (k + 1) i__law_net_walk [.int m, .ref a, .ref t] S Q := by
  refine call_of T__law_net_walk rfl ?_
  dsimp only [f__law_net_walk, b__law_net_walk, startD, List.map, List.length_cons, List.length_nil, Nat.reduceAdd, Nat.reduceSub, List.replicate, List.cons_append, List.nil_append, List.append_nil]
  have hS := lt_of_get ha
  have hSt := lt_of_get ht
  walk_at "q"
  refine ss_if (callW_mono T _) (fun b S' => b = false ∧ Ext S S') ?_ (fun S' h => by cases h.1) ?_
  · walk_at "r"
    refine ⟨_, seqOf_lst ha, by rw [List.length_map]; unfold sizeLine; omega, ?_⟩
    refine lc_filter (callW_mono T _) (fun _ => false) (still_ref ha) ?_ ?_
    · intro x hx
      obtain ⟨⟨i, j, w⟩, hx', rfl⟩ := List.mem_map.1 hx
      have hz := h0 _ hx'
      dsimp only at hz
      refine ⟨_, rfl, ?_, ?_⟩
      · unfold arcD
        walk_at "r"
        rw [maxI]
        refine if_d (fun h => ?_) (fun h => ?_)
        · walk_at "r"
          exact ⟨decide_eq_false (by have := hz h; omega), rfl⟩
        · walk_at "r"
          exact ⟨decide_eq_false h, rfl⟩
      · walk_at "r"
        exact ⟨rfl, rfl⟩
    · have e0 : (as.map arcD).filter (fun _ => false) = [] := by simp
      rw [e0]
      walk_at "r"
      refine c_ne (eqB_nilL (xs := []) (get_app get_new) get_new (fun d hd => by cases hd)) ?_
      walk_at "r"
      exact ⟨rfl, (Ext.new ..).trans (Ext.new ..)⟩
  rintro S1 ⟨-, e1⟩
  walk_at "r"
  refine r_one (by omega) ?_
  have hS1 := e1.len
  refine for_inv (callW_mono T _) (fun i σ S' => ∃ f k4 k5 k6 k7 k8 k10, σ = [some (.int m), some (.ref a), some (.ref t), some (.ref f), k4, k5, k6, k7, k8, none, k10] ∧ S.length ≤ f ∧ S'[f]? = some (.lst ((walkF us as i).map tupV)) ∧ Ext S S')
    ⟨_, _, _, _, _, _, _, rfl, hS1, get_new, e1.app _⟩ (fun _ _ _ _ => trivial) ?_ ?_
  · rintro kk x σ S2 hx ⟨f, k4, k5, k6, k7, k8, k10, rfl, hf, hfs, e2⟩
    obtain ⟨hi, rfl⟩ := rgD_get hx
    have hkk : kk < m := by omega
    have ha2 := e2.get ha
    have ht2 := e2.get ht
    refine ⟨_, rfl, ?_⟩
    walk_at "r"
    refine ⟨_, seqOf_lst ha2, by rw [List.length_map]; unfold sizeLine; omega, ?_⟩
    have own_eq : (as.map arcD).filter (fun d => match d with | .tup [.int i, .int j, .int _] => decide (max i j = (kk : Int)) | _ => false) = (as.filter fun x => decide (max x.1 x.2.1 = (kk : Int))).map arcD := filter_arcs (fun _ => rfl) as
    refine lc_filter (callW_mono T _) (fun d => match d with | .tup [.int i, .int j, .int _] => decide (max i j = (kk : Int)) | _ => false) (still_ref ha2) ?_ ?_
    · intro x hx
      obtain ⟨⟨i, j, w⟩, hx', rfl⟩ := List.mem_map.1 hx
      refine ⟨_, rfl, ?_, ?_⟩
      · unfold arcD
        walk_at "r"
        rw [maxI, show (0 : Int) + (kk : Int) = kk by omega]
        exact ⟨rfl, rfl⟩
      · walk_at "r"
        exact ⟨rfl, rfl⟩
    rw [own_eq]
    generalize ho : (as.filter fun x => decide (max x.1 x.2.1 = (kk : Int))) = ow
    walk_at "r"
    have hV : (S2 ++ [MO.lst (ow.map arcD)]).length = S2.length + 1 := by simp
    rw [hV]
    have hl2 := lt_of_get hfs
    refine ⟨_, seqOf_lst (get_app (get_app hfs)), ?_⟩
    have hbig : (walkF us as kk).length ≤ 7 ^ kk := walkF_len hu6 kk
    have h7 : 7 ^ kk ≤ 49 := by
      have : kk = 0 ∨ kk = 1 ∨ kk = 2 := by omega
      rcases this with rfl | rfl | rfl <;> decide
    have hukk : kk < us.length := by omega
    have hun := hu6 _ (List.getElem_mem hukk)
    have hun0 := hu0 _ (List.getElem_mem hukk)
    refine for_inv (callW_mono T _) (fun i σ S3 => ∃ k7 k8 k10, σ = [some (.int m), some (.ref a), some (.ref t), some (.ref f), some (.int (0 + (kk : Int))), some (.ref S2.length), some (.ref (S2.length + 1)), k7, k8, none, k10] ∧
      S3[S2.length]? = some (.lst (ow.map arcD)) ∧ S3[S2.length + 1]? = some (.lst ((((walkF us as kk).take i).flatMap fun b => extV us as kk b ((us[kk]?).getD 0 + 1).toNat).map tupV)) ∧ Ext S2 S3)
      ⟨_, _, _, rfl, get_app get_new, get_new' hV.symm, (Ext.new ..).trans (Ext.new ..)⟩ (fun i σ S3 h => by obtain ⟨_, _, _, _, _, _, h⟩ := h; exact still_ref (h.get hfs)) ?_ ?_
    · rintro i x σ S3 hx ⟨k7, k8, k10, rfl, h1, h2, e3⟩
      obtain ⟨b, hb, rfl⟩ := get_of_map hx
      have hbl : b.length = kk := ((walkF_mem kk b).1 (List.mem_of_getElem? hb)).1
      have hib := (List.getElem?_eq_some_iff.1 hb).1
      have htk := take_next hb
      have hprev := flatw_len (fun b => extV us as kk b ((us[kk]?).getD 0 + 1).toNat) 7 (fun b => Nat.le_trans (extV_len ..) (by rw [List.getElem?_eq_getElem hukk]; show (us[kk] + 1).toNat ≤ 7; omega)) ((walkF us as kk).take i)
      rw [List.length_take] at hprev
      have ht3 := e3.get ht2
      refine ⟨_, rfl, ?_⟩
      walk_at "r"
      refine ix_ref ht3 (atI_map (atI_int (by omega) (by rw [show (0 + (kk : Int)).toNat = kk by omega]; exact List.getElem?_eq_getElem hukk))) ?_
      walk_at "r"
      refine r_one (by omega) ?_
      generalize hpv : ((walkF us as kk).take i).flatMap (fun b => extV us as kk b ((us[kk]?).getD 0 + 1).toNat) = pv at *
      refine for_inv (callW_mono T _) (fun j σ S4 => ∃ k8 k10, σ = [some (.int m), some (.ref a), some (.ref t), some (.ref f), some (.int (0 + (kk : Int))), some (.ref S2.length), some (.ref (S2.length + 1)), some (tupV b), k8, none, k10] ∧
        S4[S2.length]? = some (.lst (ow.map arcD)) ∧ S4[S2.length + 1]? = some (.lst ((pv ++ extV us as kk b j).map tupV)) ∧ Ext S2 S4)
        ⟨_, _, rfl, h1, by rw [h2]; show _ = some (MO.lst ((pv ++ []).map tupV)); rw [List.append_nil], e3⟩ (fun _ _ _ _ => trivial) ?_ ?_
      · rintro j y σ S4 hy ⟨k8, k10, rfl, h1, h2, e4⟩
        obtain ⟨hj, rfl⟩ := rgD_get hy
        unfold tupV
        refine ⟨_, rfl, ?_⟩
        walk_at "r"
        refine b_addT (by rw [List.length_map]; simp; unfold sizeLine; omega) ?_
        walk_at "r"
        rw [show b.map D.int ++ [D.int (0 + (j : Int)), D.int 0] = (b ++ [(j : Int), 0]).map D.int by rw [List.map_append, show (0 : Int) + (j : Int) = j by omega]; rfl]
        refine ⟨_, seqOf_lst h1, by rw [List.length_map]; have := List.length_filter_le (fun x : Int × Int × Int => decide (max x.1 x.2.1 = (kk : Int))) as; rw [ho] at this; unfold sizeLine; omega, ?_⟩
        have hown : ∀ x ∈ ow, (-1 ≤ x.1 ∧ x.1 ≤ (b.length : Int)) ∧ -1 ≤ x.2.1 ∧ x.2.1 ≤ (b.length : Int) := fun x hx => by
          rw [← ho] at hx
          obtain ⟨hx1, hx2⟩ := List.mem_filter.1 hx
          have := ao x hx1
          have := of_decide_eq_true hx2
          unfold okA at *
          omega
        have bad_eq : (ow.map arcD).filter (fun d => match d with | .tup [.int i, .int j', .int w] => decide (val (b ++ [(j : Int)]) j' - val (b ++ [(j : Int)]) i < w) | _ => false) = (ow.filter fun x => decide (val (b ++ [(j : Int)]) x.2.1 - val (b ++ [(j : Int)]) x.1 < x.2.2)).map arcD := filter_arcs (fun _ => rfl) ow
        refine lc_filter (callW_mono T _) (fun d => match d with | .tup [.int i, .int j', .int w] => decide (val (b ++ [(j : Int)]) j' - val (b ++ [(j : Int)]) i < w) | _ => false) (still_ref h1) ?_ ?_
        · intro x hx
          obtain ⟨⟨i', j', w⟩, hx', rfl⟩ := List.mem_map.1 hx
          obtain ⟨⟨i0, i1⟩, j0, j1⟩ := hown _ hx'
          refine ⟨_, rfl, ?_, ?_⟩
          · unfold arcD
            walk_at "r"
            refine ix_tup (val_at j0 j1) ?_
            walk_at "r"
            refine ix_tup (val_at i0 i1) ?_
            walk_at "r"
            exact ⟨rfl, rfl⟩
          · walk_at "r"
            exact ⟨rfl, rfl⟩
        rw [bad_eq]
        generalize hbd : (ow.filter fun x => decide (val (b ++ [(j : Int)]) x.2.1 - val (b ++ [(j : Int)]) x.1 < x.2.2)) = bd
        walk_at "r"
        refine c_eq (eqB_nilL (xs := bd.map arcD) (get_app get_new) get_new (fun d hd => by obtain ⟨x, _, rfl⟩ := List.mem_map.1 hd; exact arcD_pl x)) ?_
        walk_at "r"
        have hall : (as.all fun a => !(decide (max a.1 a.2.1 = (kk : Int))) || keptV (b ++ [(j : Int)]) a) = (bd.map arcD).isEmpty := by
          rw [List.isEmpty_map, ← hbd, ← ho]
          rw [Bool.eq_iff_iff, List.all_eq_true, List.isEmpty_iff, List.filter_eq_nil_iff]
          constructor
          · intro h x hx
            obtain ⟨hx1, hx2⟩ := List.mem_filter.1 hx
            have := h x hx1
            rw [hx2] at this
            unfold keptV at this
            simp at this ⊢
            omega
          · intro h x hx
            by_cases hm : max x.1 x.2.1 = (kk : Int)
            · have := h x (List.mem_filter.2 ⟨hx, decide_eq_true hm⟩)
              unfold keptV
              simp at this ⊢
              right; omega
            · rw [decide_eq_false hm]; rfl
        have hsz : (pv ++ extV us as kk b j).length < 1000 := by
          rw [List.length_append]
          have := extV_len us as kk b j
          omega
        have h2' := get_app (X := [MO.lst []]) (get_app (X := [MO.lst (bd.map arcD)]) h2)
        have eU : Ext S2 (S4 ++ [MO.lst (bd.map arcD)] ++ [MO.lst []]) := (e4.app _).app _
        have h1' := get_app (X := [MO.lst []]) (get_app (X := [MO.lst (bd.map arcD)]) h1)
        have hl4 := lt_of_get h2
        refine if_b (fun h => ?_) (fun h => ?_)
        · walk_at "r"
          refine ⟨lstD_lst h2', ?_⟩
          walk_at "r"
          refine b_addT (by rw [List.length_map]; simp; unfold sizeLine; omega) ?_
          walk_at "r"
          refine m_append h2' (by rw [List.length_map]; unfold sizeLine; omega) ?_
          walk_at "r"
          refine ⟨_, _, rfl, get_set (by omega) h1', ?_, eU.set _ (by omega)⟩
          rw [get_set_self h2', extV_succ, hall, if_pos h]
          congr 2
          simp
          rfl
        · walk_at "r"
          refine ⟨_, _, rfl, h1', ?_, eU⟩
          rw [h2', extV_succ, hall, if_neg (by rw [h]; decide), List.append_nil]
          rfl
      · rintro σ S4 ⟨k8, k10, rfl, h1, h2, e4⟩
        rw [rgD_len, show (us[kk] + 1 - 0).toNat = ((us[kk]?).getD 0 + 1).toNat by rw [List.getElem?_eq_getElem hukk]; show _ = (us[kk] + 1).toNat; omega] at h2
        refine ⟨_, _, _, rfl, h1, ?_, e4⟩
        rw [htk, List.flatMap_append, hpv, h2]
        simp
    · rintro σ S3 ⟨k7, k8, k10, rfl, h1, h2, e3⟩
      rw [List.length_map, List.take_of_length_le (Nat.le_refl _)] at h2
      walk_at "r"
      have := e3.len
      exact ⟨_, _, _, _, _, _, _, rfl, by omega, get_new, (e2.trans e3).app _⟩
  · rintro σ S2 ⟨f, k4, k5, k6, k7, k8, k10, rfl, hf, hfs, e2⟩
    rw [rgD_len, show ((m : Int) - 0).toNat = m by omega] at hfs
    walk_at "r"
    exact q _ _ hf hfs e2
def hrD (x : Int × Nat) : D := .tup [.int x.1, .ref x.2]
def lstP (S : St) (n : Nat) : List PyData := match S[n]? with
  | some (.lst xs) => (toPs xs).getD []
  | _ => []
def hrP (S : St) (x : Int × Nat) : PyData := .tuple [.int x.1, .list (lstP S x.2)]
theorem toPs_ints : ∀ is : List Int, toPs (is.map D.int) = some (is.map PyData.int)
  | [] => by rw [List.map_nil, toPs]; rfl
  | i :: is => by rw [List.map_cons, toPs, toP, toPs_ints is]; rfl
theorem lstP_eq {S : St} {n : Nat} {is : List Int} (h : S[n]? = some (.lst (is.map D.int))) : lstP S n = is.map PyData.int := by
  unfold lstP; rw [h]; show (toPs (is.map D.int)).getD [] = _; rw [toPs_ints]; rfl
theorem toPR_hr {S : St} {x : Int × Nat} (h : ∃ is : List Int, S[x.2]? = some (.lst (is.map D.int))) : toPR S (hrD x) = some (hrP S x) := by
  obtain ⟨is, h⟩ := h
  unfold hrD hrP
  rw [lstP_eq h, toPR, toPRs, toPRs, toPRs, toPR, toPR, seqOf_lst h]
  show (Option.map PyData.tuple _) = _
  simp only [Option.bind_some, toPs_ints, Option.map_some]
theorem toPRs_hrs {S : St} : ∀ {hr : List (Int × Nat)}, (∀ x ∈ hr, ∃ is : List Int, S[x.2]? = some (.lst (is.map D.int))) → toPRs S (hr.map hrD) = some (hr.map (hrP S))
  | [], _ => by rw [List.map_nil, toPRs]; rfl
  | a :: hr, h => by rw [List.map_cons, toPRs, toPR_hr (h a (List.mem_cons_self ..)), toPRs_hrs fun x hx => h x (List.mem_cons_of_mem _ hx)]; rfl
theorem alike_ints : ∀ xs ys : List Int, PySem.W.alikeAll (xs.map PyData.int) (ys.map PyData.int) = true
  | [], _ => by rw [List.map_nil, PySem.W.alikeAll]
  | _ :: _, [] => by rw [List.map_nil, List.map_cons, PySem.W.alikeAll]
  | x :: xs, y :: ys => by rw [List.map_cons, List.map_cons, PySem.W.alikeAll, PySem.W.alike, alike_ints xs ys]; rfl
theorem depth_ints : ∀ xs : List Int, PyData.depthAll (xs.map PyData.int) ≤ 1
  | [] => by rw [List.map_nil, PyData.depthAll]; decide
  | x :: xs => by
    have := depth_ints xs
    rw [List.map_cons, PyData.depthAll, PyData.depth]
    omega
theorem fst_inj : ∀ {hr : List (Int × Nat)}, (hr.map Prod.fst).Nodup → ∀ a ∈ hr, ∀ b ∈ hr, a.1 = b.1 → a = b
  | [], _, a, ha, _, _, _ => by cases ha
  | x :: hr, nd, a, ha, b, hb, e => by
    rw [List.map_cons, List.nodup_cons] at nd
    rcases List.mem_cons.1 ha with h1 | h1 <;> rcases List.mem_cons.1 hb with h2 | h2
    · rw [h1, h2]
    · subst h1; exact absurd (List.mem_map.2 ⟨b, h2, e.symm⟩) nd.1
    · subst h2; exact absurd (List.mem_map.2 ⟨a, h1, e⟩) nd.1
    · exact fst_inj nd.2 a h1 b h2 e
def leH (a b : Int × Nat) : Bool := decide (a.1 ≤ b.1)
theorem b_sortH {n : Nat} {S : St} {hr : List (Int × Nat)} {Q : QD} (h : S[n]? = some (.lst (hr.map hrD))) (nd : (hr.map Prod.fst).Nodup) (hl : ∀ x ∈ hr, ∃ is : List Int, S[x.2]? = some (.lst (is.map D.int)))
    (q : Q (.ref S.length) (S ++ [.lst ((hr.mergeSort leH).map hrD)])) : bltW .sorted [.ref n] S Q := by
  have inj := fst_inj nd
  refine ⟨hr.map hrD, hr.map (hrP S), seqOf_lst h, toPRs_hrs hl, ?_, PySem.W.Sortable.tuples fun a => ⟨_, _, rfl⟩, fun p hp => ?_, ?_⟩
  · intro p hp p' hp'
    obtain ⟨a, ha, rfl⟩ := List.mem_map.1 hp
    obtain ⟨b, hb, rfl⟩ := List.mem_map.1 hp'
    obtain ⟨is, ea⟩ := hl a ha
    obtain ⟨js, eb⟩ := hl b hb
    unfold hrP
    rw [lstP_eq ea, lstP_eq eb]
    simp [PySem.W.alike, PySem.W.alikeAll, alike_ints]
  · obtain ⟨a, ha, rfl⟩ := List.mem_map.1 hp
    obtain ⟨is, ea⟩ := hl a ha
    unfold hrP
    rw [lstP_eq ea]
    have := depth_ints is
    simp only [PyData.depth, PyData.depthAll]
    omega
  · have e : sortD S (hr.map hrD) = (hr.mergeSort leH).map hrD := by
      unfold sortD
      refine (PySem.W.sort_maps hrD fun a ha b hb => ?_).symm
      rw [PySem.W.dataLe_eq]
      dsimp only
      rw [toPR_hr (hl a ha), toPR_hr (hl b hb)]
      show leH a b = !PySem.W.dataLt (hrP S b) (hrP S a)
      by_cases he : a = b
      · subst he
        unfold leH
        rw [PySem.W.dataLt_self, decide_eq_true (Int.le_refl _)]; rfl
      · have hne : a.1 ≠ b.1 := fun e => he (inj a ha b hb e)
        unfold hrP leH
        rw [PySem.W.dataLt_tuple, PySem.W.dataLt_cons (by simp [PySem.W.alike]), PySem.W.dataLt_int]
        simp only [PyData.eqv, beq_iff_eq]
        rw [if_neg (fun e => hne e.symm), Bool.eq_iff_iff, Bool.not_eq_true', decide_eq_true_iff, decide_eq_false_iff_not]
        omega
    rw [e]; exact q
/-- the groups as lists of the store -/
structure HRs (S : St) (m : Nat) (G : F) (hr : List (Int × Nat)) : Prop where
  mem : ∀ x ∈ hr, x.1 ∈ hds m G ∧ S[x.2]? = some (.lst ((grp m G x.1).map D.int))
  nd : (hr.map Prod.fst).Nodup
theorem HRs.ext {S S' : St} {m : Nat} {G : F} {hr : List (Int × Nat)} (h : HRs S m G hr) (e : Ext S S') : HRs S' m G hr := ⟨fun x hx => ⟨(h.mem x hx).1, e.get (h.mem x hx).2⟩, h.nd⟩
theorem c_notinI {S : St} {n : Nat} {ms : List Int} {i : Int} {Q : Bool → St → Prop} (h : S[n]? = some (.lst (ms.map D.int))) (q : Q (!decide (i ∈ ms)) S) : cmpW .notin (.int i) (.ref n) S Q := by
  refine Or.inl ⟨_, seqOf_lst h, rfl, ?_, ?_⟩
  · rw [List.all_eq_true]
    intro d hd
    obtain ⟨j, -, rfl⟩ := List.mem_map.1 hd
    rfl
  · have e : ((ms.map D.int).any fun z => eqF z (.int i)) = decide (i ∈ ms) := by
      rw [List.any_map, Bool.eq_iff_iff, List.any_eq_true, decide_eq_true_iff]
      constructor
      · rintro ⟨j, hj, h⟩
        have h : (j == i) = true := h
        rw [beq_iff_eq] at h
        rw [← h]; exact hj
      · intro h
        exact ⟨i, h, by show (i == i) = true; simp⟩
    rw [e]; exact q
theorem net_groups_ok {k : Nat} {S : St} {m r b : Nat} {G : F} {Q : QD} (hm : m ≤ 8) (g : GdT m G) (R : Rws S r b (m + 1) G)
    (q : ∀ t hr S', S'[t]? = some (.lst (hr.map fun x => D.ref x.2)) → hr.map Prod.fst = hds m G → HRs S' m G hr → S.length ≤ t → Ext S S' → Q (.ref t) S') : callW T (k + 1) i__law_net_groups [.ref r] S Q := by
  refine call_of T__law_net_groups rfl ?_
  dsimp only [f__law_net_groups, b__law_net_groups, startD, List.map, List.length_cons, List.length_nil, Nat.reduceAdd, Nat.reduceSub, List.replicate, List.cons_append, List.nil_append, List.append_nil]
  walk_at "q"
  have R0 := R.ext (Ext.new S [MO.lst []])
  have R1 := R0.ext (Ext.new (S ++ [MO.lst []]) [MO.lst []])
  refine l_lenR R1.top ?_
  rw [refsD_len]
  walk_at "q"
  rw [show ((m + 1 : Nat) : Int) - 1 = m by omega]
  refine r_two (by omega) ?_
  rw [nds_rg]
  have hV : (S ++ [MO.lst []]).length = S.length + 1 := by simp
  rw [hV]
  refine for_inv (callW_mono T _) (fun c σ S' => ∃ hr mt ms k3 k4, S'[S.length]? = some (.lst (hr.map fun x => D.ref x.2)) ∧ S'[mt]? = some (.lst (ms.map D.int)) ∧ S.length < mt ∧ ms.length ≤ 9 * c ∧ HRs S' m G hr ∧ (∀ x ∈ hr, S.length < x.2) ∧ hr.length ≤ c ∧ (∀ j ∈ nds m, j ∈ ms ↔ hd m G j ∈ hr.map Prod.fst) ∧ (∀ j ∈ (nds m).take c, hd m G j ∈ hr.map Prod.fst) ∧ Ext S S' ∧
    σ = [some (.ref r), some (.ref S.length), some (.ref mt), k3, k4, none, none, none])
    ⟨[], S.length + 1, [], _, _, get_app get_new, get_new' hV.symm, Nat.lt_succ_self _, Nat.zero_le _, ⟨(fun _ h => by cases h), List.nodup_nil⟩, (fun _ h => by cases h), Nat.zero_le _, (fun j _ => ⟨(fun h => by cases h), fun h => by cases h⟩), (fun _ h => by cases h), (Ext.new ..).trans (Ext.new ..), rfl⟩ (fun _ _ _ _ => trivial) ?_ ?_
  · rintro c x σ S1 hx ⟨hr, mt, ms, k3, k4, hgt, hmt, hmt0, hml, H, hx2, hrl, hmm, hcv, e1, rfl⟩
    obtain ⟨i, hi, rfl⟩ := get_of_map hx
    have hin := List.mem_of_getElem? hi
    obtain ⟨i0, i1⟩ := mem_nds.1 hin
    have hc := (List.getElem?_eq_some_iff.1 hi).1
    rw [nds_len] at hc
    refine ⟨_, rfl, ?_⟩
    walk_at "q"
    refine c_notinI hmt ?_
    walk_at "q"
    refine if_nb (fun h => ?_) (fun h => ?_)
    · have hnot : ¬ hd m G i ∈ hr.map Prod.fst := fun h' => by rw [decide_eq_true ((hmm i hin).2 h')] at h; cases h
      obtain ⟨hd1, hd2, hd3, hd4⟩ := hd_at g hin
      have hgl := grp_len (m := m) (G := G) i
      have RR := R.ext e1
      walk_at "q"
      refine l_lenR RR.top ?_
      rw [refsD_len]
      walk_at "q"
      rw [show ((m + 1 : Nat) : Int) - 1 = m by omega]
      refine r_two (by omega) ⟨by rw [rgD_len]; unfold sizeLine; omega, ?_⟩
      rw [nds_rg]
      refine lc_filtE (callW_mono T _) D.int D.int (fun j => (gg m G i j).isSome && (gg m G j i).isSome) (fun _ _ => trivial) ?_ ?_
      · intro j hj S2 e2
        obtain ⟨j0, j1⟩ := mem_nds.1 hj
        refine ⟨_, rfl, ?_, fun _ S3 _ => ?_⟩
        · walk_at "q"
          refine ix_ref (RR.ext e2).top (refsD_at (by omega) (by omega)) ?_
          walk_at "q"
          refine ix_ref ((RR.ext e2).row _ (pyI_lt (by omega) (by omega))) (rowD_py (by omega) (by omega)) ?_
          walk_at "q"
          unfold gg
          cases ea : G (pyI (m + 1) i) (pyI (m + 1) j) with
          | none =>
            refine if_nF rfl ?_
            walk_at "q"
            exact ⟨rfl, Ext.refl _⟩
          | some a =>
            refine if_nT rfl ?_
            walk_at "q"
            refine ix_ref (RR.ext e2).top (refsD_at (by omega) (by omega)) ?_
            walk_at "q"
            refine ix_ref ((RR.ext e2).row _ (pyI_lt (by omega) (by omega))) (rowD_py (by omega) (by omega)) ?_
            walk_at "q"
            refine ⟨?_, Ext.refl _⟩
            cases G (pyI (m + 1) j) (pyI (m + 1) i) <;> rfl
        · walk_at "q"
          exact ⟨rfl, Ext.refl _⟩
      intro S2 e2
      walk_at "q"
      have hfl := List.length_filter_le (fun j => (gg m G i j).isSome && (gg m G j i).isSome) (nds m)
      rw [nds_len] at hfl
      refine ⟨_, seqOf_lst get_new, by rw [List.length_map]; unfold sizeLine; omega, ?_⟩
      have e3 : Ext S1 (S2 ++ [MO.lst (((nds m).filter fun j => (gg m G i j).isSome && (gg m G j i).isSome).map D.int)]) := e2.trans (Ext.new ..)
      refine lc_filtE (callW_mono T _) D.int D.int (fun j => rig m G i j) (fun S' e' => still_ref (e'.get get_new)) ?_ ?_
      · intro j hj S4 e4
        obtain ⟨hj, hjc⟩ := List.mem_filter.1 hj
        obtain ⟨j0, j1⟩ := mem_nds.1 hj
        rw [Bool.and_eq_true] at hjc
        obtain ⟨a, ha⟩ := Option.isSome_iff_exists.1 hjc.1
        obtain ⟨b', hb⟩ := Option.isSome_iff_exists.1 hjc.2
        have R4 := RR.ext (e3.trans e4)
        have hrig : rig m G i j = decide (a + b' = 0) := by unfold rig; rw [ha, hb]
        unfold gg at ha hb
        refine ⟨_, rfl, ?_, fun _ S5 _ => ?_⟩
        · walk_at "q"
          refine ix_ref R4.top (refsD_at (by omega) (by omega)) ?_
          walk_at "q"
          refine ix_ref (R4.row _ (pyI_lt (by omega) (by omega))) (rowD_py (by omega) (by omega)) ?_
          rw [ha]
          walk_at "q"
          refine ix_ref R4.top (refsD_at (by omega) (by omega)) ?_
          walk_at "q"
          refine ix_ref (R4.row _ (pyI_lt (by omega) (by omega))) (rowD_py (by omega) (by omega)) ?_
          rw [hb]
          refine b_add ?_
          walk_at "q"
          exact ⟨hrig.symm, Ext.refl _⟩
        · walk_at "q"
          exact ⟨rfl, Ext.refl _⟩
      intro S4 e4
      have hff : (((nds m).filter fun j => (gg m G i j).isSome && (gg m G j i).isSome).filter fun j => rig m G i j) = (nds m).filter (rig m G i) := by
        rw [List.filter_filter]
        refine List.filter_congr fun j _ => ?_
        unfold rig
        cases gg m G i j with
        | none => rfl
        | some a => cases gg m G j i with
          | none => rfl
          | some b => simp
      rw [hff]
      have e5 := e3.trans e4
      walk_at "q"
      have hn5 : (S4 ++ [MO.lst (((nds m).filter (rig m G i)).map D.int)])[S4.length]? = some (.lst (((nds m).filter (rig m G i)).map D.int)) := get_new
      have hfl2 := List.length_filter_le (rig m G i) (nds m)
      rw [nds_len] at hfl2
      refine ⟨_, seqOf_lst hn5, by rw [List.length_map]; unfold sizeLine; omega, ?_⟩
      have e6 : Ext S1 (S4 ++ [MO.lst (((nds m).filter (rig m G i)).map D.int)]) := e5.trans (Ext.new ..)
      refine lc_mapE (callW_mono T _) D.int (prD m G) (fun S' e' => still_ref (e'.get hn5)) ?_ ?_
      · intro j hj S6 e7
        have hj := (List.mem_filter.1 hj).1
        obtain ⟨j0, j1⟩ := mem_nds.1 hj
        have R6 := RR.ext (e6.trans e7)
        refine ⟨_, rfl, ?_⟩
        walk_at "q"
        refine ix_ref R6.top (refsD_at (by omega) (by omega)) ?_
        walk_at "q"
        refine ix_ref (R6.row _ (pyI_lt (by omega) (by omega))) (rowD_py (by omega) (by omega)) ?_
        have he : G (pyI (m + 1) (-1)) (pyI (m + 1) j) = some (ear m G j) := (ear_ok g hj).1
        rw [he]
        walk_at "q"
        exact ⟨rfl, Ext.refl _⟩
      intro S6 e7
      walk_at "q"
      refine b_sortN get_new ?_
      have hn8 : (S6 ++ [MO.lst (((nds m).filter (rig m G i)).map (prD m G))] ++ [MO.lst ((sortN m G ((nds m).filter (rig m G i))).map (prD m G))])[(S6 ++ [MO.lst (((nds m).filter (rig m G i)).map (prD m G))]).length]? = some (.lst ((grp m G i).map (prD m G))) := get_new
      have e8 : Ext S1 (S6 ++ [MO.lst (((nds m).filter (rig m G i)).map (prD m G))] ++ [MO.lst ((sortN m G ((nds m).filter (rig m G i))).map (prD m G))]) := (e6.trans e7).trans ((Ext.new ..).trans (Ext.new ..))
      generalize (S6 ++ [MO.lst (((nds m).filter (rig m G i)).map (prD m G))]).length = s at *
      generalize S6 ++ [MO.lst (((nds m).filter (rig m G i)).map (prD m G))] ++ [MO.lst ((sortN m G ((nds m).filter (rig m G i))).map (prD m G))] = S8 at *
      walk_at "q"
      refine ⟨_, seqOf_lst hn8, by rw [List.length_map]; unfold sizeLine; omega, ?_⟩
      refine lc_mapE (callW_mono T _) (prD m G) D.int (fun S' e' => still_ref (e'.get hn8)) ?_ ?_
      · intro j hj S9 e9
        refine ⟨_, rfl, ?_⟩
        unfold prD
        walk_at "q"
        exact ⟨rfl, Ext.refl _⟩
      intro S9 e9
      have e19 := e8.trans e9
      have hl1 := e1.len
      have hl9 := e19.len
      have hm1 := lt_of_get hmt
      walk_at "q"
      have e10 : Ext S1 (S9 ++ [MO.lst ((grp m G i).map D.int)]) := e19.trans (Ext.new ..)
      refine ⟨lstD_lst (e10.get hgt), ?_⟩
      walk_at "q"
      refine m_append (e10.get hgt) (by rw [List.length_map]; unfold sizeLine; omega) ?_
      walk_at "q"
      have hmt2 : ((S9 ++ [MO.lst ((grp m G i).map D.int)]).set S.length (.lst ((hr.map fun x => D.ref x.2) ++ [D.ref S9.length])))[mt]? = some (.lst (ms.map D.int)) := get_set (by omega) (e10.get hmt)
      have hown : ((S9 ++ [MO.lst ((grp m G i).map D.int)]).set S.length (.lst ((hr.map fun x => D.ref x.2) ++ [D.ref S9.length])))[S9.length]? = some (.lst ((grp m G i).map D.int)) := get_set (by omega) get_new
      have hgt2 : ((S9 ++ [MO.lst ((grp m G i).map D.int)]).set S.length (.lst ((hr.map fun x => D.ref x.2) ++ [D.ref S9.length])))[S.length]? = some (.lst ((hr.map fun x => D.ref x.2) ++ [D.ref S9.length])) := get_set_self (e10.get hgt)
      have e11 : Ext S ((S9 ++ [MO.lst ((grp m G i).map D.int)]).set S.length (.lst ((hr.map fun x => D.ref x.2) ++ [D.ref S9.length]))) := (e1.trans e10).set _ (Nat.le_refl _)
      have hall : ∀ x ∈ hr, ((S9 ++ [MO.lst ((grp m G i).map D.int)]).set S.length (.lst ((hr.map fun x => D.ref x.2) ++ [D.ref S9.length])))[x.2]? = some (.lst ((grp m G x.1).map D.int)) := fun x hx => get_set (by have := hx2 x hx; omega) (e10.get (H.mem x hx).2)
      have hlen11 : ((S9 ++ [MO.lst ((grp m G i).map D.int)]).set S.length (.lst ((hr.map fun x => D.ref x.2) ++ [D.ref S9.length]))).length = S9.length + 1 := by rw [List.length_set]; simp
      generalize (S9 ++ [MO.lst ((grp m G i).map D.int)]).set S.length (.lst ((hr.map fun x => D.ref x.2) ++ [D.ref S9.length])) = U at *
      refine b_addL hmt2 hown (by rw [List.length_map, List.length_map]; unfold sizeLine; omega) ?_
      walk_at "q"
      have hghd := grp_hd g hin
      refine ⟨hr ++ [(hd m G i, S9.length)], U.length, ms ++ grp m G i, _, _, ?_, by rw [List.map_append]; exact get_new, by omega, by rw [List.length_append]; omega, ⟨fun x hx => ?_, ?_⟩, fun x hx => ?_, by rw [List.length_append, List.length_singleton]; omega, fun j hj => ?_, fun j hj => ?_, e11.app _, rfl⟩
      · rw [List.map_append]; exact get_app hgt2
      · rcases List.mem_append.1 hx with hx | hx
        · exact ⟨(H.mem x hx).1, get_app (hall x hx)⟩
        · rw [List.mem_singleton] at hx
          subst hx
          refine ⟨hd_mem g hin, ?_⟩
          dsimp only
          rw [hghd]
          exact get_app hown
      · rw [List.map_append, List.nodup_append]
        refine ⟨H.nd, by simp, ?_⟩
        rintro a ha b hb rfl
        rw [List.map_cons, List.map_nil, List.mem_singleton] at hb
        subst hb
        exact hnot ha
      · rcases List.mem_append.1 hx with hx | hx
        · exact hx2 x hx
        · rw [List.mem_singleton] at hx
          subst hx
          dsimp only; omega
      · rw [List.mem_append, List.map_append, List.mem_append, hmm j hj, List.map_cons, List.map_nil, List.mem_singleton]
        constructor
        · rintro (h | h)
          · exact Or.inl h
          · exact Or.inr ((hd_eq g hin hj (mem_grp.1 h).2).symm)
        · rintro (h | h)
          · exact Or.inl h
          · exact Or.inr (mem_grp.2 ⟨hj, (hd_rig g hin hj).1 h.symm⟩)
      · rw [take_next hi, List.mem_append, List.mem_singleton] at hj
        rw [List.map_append, List.mem_append]
        rcases hj with hj | rfl
        · exact Or.inl (hcv j hj)
        · exact Or.inr (by simp)
    · have hin2 : hd m G i ∈ hr.map Prod.fst := (hmm i hin).1 (of_decide_eq_true h)
      walk_at "q"
      refine ⟨hr, mt, ms, _, _, hgt, hmt, hmt0, by omega, H, hx2, by omega, hmm, fun j hj => ?_, e1, rfl⟩
      rw [take_next hi, List.mem_append, List.mem_singleton] at hj
      rcases hj with hj | rfl
      · exact hcv j hj
      · exact hin2
  · rintro σ S1 ⟨hr, mt, ms, k3, k4, hgt, hmt, hmt0, hml, H, hx2, hrl, hmm, hcv, e1, rfl⟩
    rw [List.length_map, List.take_of_length_le (Nat.le_refl _)] at hcv
    rw [List.length_map, nds_len] at hrl
    walk_at "q"
    refine ⟨_, seqOf_lst hgt, by rw [List.length_map]; unfold sizeLine; omega, ?_⟩
    refine lc_mapE (callW_mono T _) (fun x : Int × Nat => D.ref x.2) hrD (fun S' e' => still_ref (e'.get hgt)) ?_ ?_
    · rintro ⟨h, ρ⟩ hx S2 e2
      obtain ⟨m1, m2⟩ := H.mem _ hx
      obtain ⟨hn, hh⟩ := mem_hds.1 m1
      dsimp only at m2 hn hh
      have ha := (hd_at g hn).1
      rw [hh] at ha
      refine ⟨_, rfl, ?_⟩
      walk_at "q"
      refine ix_ref (e2.get m2) (atI_map (atI_int (d := h) (by decide) ha)) ?_
      walk_at "q"
      exact ⟨rfl, Ext.refl _⟩
    intro S2 e2
    walk_at "q"
    refine b_sortH get_new H.nd (fun x hx => ⟨_, get_app (e2.get (H.mem x hx).2)⟩) ?_
    have e3 : Ext S2 (S2 ++ [MO.lst (hr.map hrD)] ++ [MO.lst ((hr.mergeSort leH).map hrD)]) := (Ext.new ..).trans (Ext.new ..)
    have hs : (S2 ++ [MO.lst (hr.map hrD)] ++ [MO.lst ((hr.mergeSort leH).map hrD)])[(S2 ++ [MO.lst (hr.map hrD)]).length]? = some (.lst ((hr.mergeSort leH).map hrD)) := get_new
    generalize (S2 ++ [MO.lst (hr.map hrD)]).length = s at *
    generalize S2 ++ [MO.lst (hr.map hrD)] ++ [MO.lst ((hr.mergeSort leH).map hrD)] = S3 at *
    have hper := List.mergeSort_perm hr leH
    have hlen := hper.length_eq
    walk_at "q"
    refine ⟨_, seqOf_lst hs, by rw [List.length_map]; unfold sizeLine; omega, ?_⟩
    refine lc_mapE (callW_mono T _) hrD (fun x : Int × Nat => D.ref x.2) (fun S' e' => still_ref (e'.get hs)) ?_ ?_
    · rintro ⟨h, ρ⟩ hx S4 e4
      refine ⟨_, rfl, ?_⟩
      unfold hrD
      walk_at "q"
      exact ⟨rfl, Ext.refl _⟩
    intro S4 e4
    have e14 := e2.trans (e3.trans e4)
    have H4 := H.ext e14
    walk_at "q"
    refine q _ (hr.mergeSort leH) _ get_new ?_ ⟨fun x hx => ?_, ?_⟩ (by have := (e1.trans e14).len; omega) ((e1.trans e14).app _)
    · refine asc_uniq ?_ hds_asc fun a => ?_
      · have hso : (hr.mergeSort leH).Pairwise (fun a b => leH a b = true) := List.pairwise_mergeSort (fun a b c h1 h2 => by unfold leH at *; rw [decide_eq_true_iff] at *; omega) (fun a b => by unfold leH; rw [Bool.or_eq_true, decide_eq_true_iff, decide_eq_true_iff]; omega) hr
        have hnd2 : ((hr.mergeSort leH).map Prod.fst).Nodup := (hper.map Prod.fst).nodup_iff.2 H.nd
        rw [List.pairwise_map]
        have hnd3 : (hr.mergeSort leH).Pairwise (fun a b => a.1 ≠ b.1) := by
          have := hnd2
          unfold List.Nodup at this
          rwa [List.pairwise_map] at this
        refine (hso.and hnd3).imp ?_
        rintro a b ⟨h1, h2⟩
        unfold leH at h1
        rw [decide_eq_true_iff] at h1
        omega
      · rw [(hper.map Prod.fst).mem_iff]
        constructor
        · intro ha
          obtain ⟨x, hx, rfl⟩ := List.mem_map.1 ha
          exact (H.mem x hx).1
        · intro ha
          obtain ⟨h1, h2⟩ := mem_hds.1 ha
          have := hcv a h1
          rw [h2] at this
          exact this
    · have hx := hper.mem_iff.1 hx
      exact ⟨(H4.mem x hx).1, get_app (H4.mem x hx).2⟩
    · exact (hper.map Prod.fst).nodup_iff.2 H.nd
theorem net_core_ok {k : Nat} {S : St} {m r b : Nat} {G : F} {Q : QD} (hm : m ≤ 8) (g : GdT m G) (R : Rws S r b (m + 1) G) (q : ∀ S', Ext S S' → Q (.tup ((core m G).map arcD)) S') : callW T (k + 2) i__law_net_core [.ref r] S Q := by
  refine call_of T__law_net_core rfl ?_
  dsimp only [f__law_net_core, b__law_net_core, startD, List.map, List.length_cons, List.length_nil, Nat.reduceAdd, Nat.reduceSub, List.replicate, List.cons_append, List.nil_append, List.append_nil]
  walk_at "q"
  refine net_groups_ok hm g R fun t hr S1 ht hfst H htS e1 => ?_
  have hhl := hds_len m G
  have hrl : hr.length ≤ m + 1 := by rw [← hfst, List.length_map] at hhl; exact hhl
  walk_at "q"
  have ht1 : (S1 ++ [MO.lst []])[t]? = some (.lst (hr.map fun x => D.ref x.2)) := get_app ht
  have hS01 := e1.len
  have htl := lt_of_get ht
  have e01 : Ext S (S1 ++ [MO.lst []]) := e1.trans (Ext.new ..)
  have hg1 : ∀ x ∈ hr, (S1 ++ [MO.lst []])[x.2]? = some (.lst ((grp m G x.1).map D.int)) ∧ x.2 < S1.length := fun x hx => ⟨get_app (H.mem x hx).2, lt_of_get (H.mem x hx).2⟩
  have hp1 : (S1 ++ [MO.lst []])[S1.length]? = some (.lst []) := get_new
  refine ⟨_, seqOf_lst ht1, ?_⟩
  refine for_inv (callW_mono T _) (fun c σ S' => ∃ k3 k7, σ = [some (.ref r), some (.ref t), some (.ref S1.length), k3, none, none, none, k7, none, none, none] ∧ S'[S1.length]? = some (.lst (((hr.take c).flatMap fun x => rgF m G x.1).map arcD)) ∧ Ext S S' ∧ S'[t]? = some (.lst (hr.map fun x => D.ref x.2)) ∧ ∀ x ∈ hr, S'[x.2]? = some (.lst ((grp m G x.1).map D.int)) ∧ x.2 < S1.length)
    ⟨_, _, rfl, hp1, e01, ht1, hg1⟩ (fun c σ S' h => by obtain ⟨_, _, _, _, _, h, _⟩ := h; exact still_ref h) ?_ ?_
  · rintro c x σ S2 hx ⟨k3, k7, rfl, hp2, e2, ht2, hg2⟩
    obtain ⟨⟨h, ρ⟩, hx', rfl⟩ := get_of_map hx
    obtain ⟨hown, hρ⟩ := hg2 _ (List.mem_of_getElem? hx')
    have hc := (List.getElem?_eq_some_iff.1 hx').1
    dsimp only at hown hρ
    have hpre : ((hr.take c).flatMap fun x => rgF m G x.1).length ≤ 81 := Nat.le_trans (flat_len (b := m + 1) fun x _ => rg_len m G x.1) (sq_le hm (by rw [List.length_take]; omega))
    have hnx := flat_next (f := fun x : Int × Nat => rgF m G x.1) hx'
    have hgl := grp_len (m := m) (G := G) h
    have hrg : rgF m G h = if 1 < (grp m G h).length then (List.range (grp m G h).length).map (ringA m G (grp m G h)) else [] := rfl
    dsimp only at hnx
    rw [hrg] at hnx
    generalize (hr.take c).flatMap (fun x => rgF m G x.1) = pre at *
    rw [hnx]
    have hgm : ∀ y ∈ grp m G h, y ∈ nds m := fun y hy => (mem_grp.1 hy).1
    have hgr : ∀ y ∈ grp m G h, ∀ z ∈ grp m G h, rig m G y z = true := fun y hy z hz => by
      have hh := (hg2 _ (List.mem_of_getElem? hx'))
      have hhn := (mem_hds.1 (H.mem _ (List.mem_of_getElem? hx')).1).1
      exact rig_trans g (hgm y hy) hhn (hgm z hz) (rig_symm (mem_grp.1 hy).2) (mem_grp.1 hz).2
    refine ⟨_, rfl, ?_⟩
    walk_at "q"
    rw [List.length_map]
    refine if_d (fun h1 => ?_) (fun h1 => ?_)
    · rw [if_pos (by omega)]
      walk_at "q"
      rw [List.length_map]
      refine r_one (by omega) ?_
      refine for_inv (callW_mono T _) (fun t' σ S' => ∃ k7, σ = [some (.ref r), some (.ref t), some (.ref S1.length), some (.ref ρ), none, none, none, k7, none, none, none] ∧ S'[S1.length]? = some (.lst ((pre ++ (List.range t').map (ringA m G (grp m G h))).map arcD)) ∧ Ext S S' ∧ S'[t]? = some (.lst (hr.map fun x => D.ref x.2)) ∧ ∀ x ∈ hr, S'[x.2]? = some (.lst ((grp m G x.1).map D.int)) ∧ x.2 < S1.length)
        ⟨_, rfl, by rw [hp2]; simp, e2, ht2, hg2⟩ (fun _ _ _ _ => trivial) ?_ ?_
      · rintro c' x' σ S3 hy ⟨k7, rfl, hp3, e3, ht3, hg3⟩
        obtain ⟨hc', rfl⟩ := rgD_get hy
        have hc' : c' < (grp m G h).length := by omega
        obtain ⟨y, z, hy', hz', my, mz⟩ := ring_at hc'
        obtain ⟨hown3, -⟩ := hg3 _ (List.mem_of_getElem? hx')
        dsimp only at hown3
        obtain ⟨w, hw, -⟩ := rig_iff.1 (hgr y my z mz)
        obtain ⟨y0, y1⟩ := mem_nds.1 (hgm y my)
        obtain ⟨z0, z1⟩ := mem_nds.1 (hgm z mz)
        have hw' : G (pyI (m + 1) y) (pyI (m + 1) z) = some w := hw
        have hz2 : L2.atI (grp m G h) (c' : Int) = some z := atI_nat hz'
        have hR3 := R.ext e3
        rw [show (0 : Int) + (c' : Int) = c' by omega]
        refine ⟨_, rfl, ?_⟩
        walk_at "q"
        refine ⟨lstD_lst hp3, ?_⟩
        walk_at "q"
        refine ix_ref hown3 (atI_map hy') ?_
        walk_at "q"
        refine ix_ref hown3 (atI_map hz2) ?_
        walk_at "q"
        refine ix_ref hown3 (atI_map hy') ?_
        walk_at "q"
        refine ix_ref hR3.top (refsD_at (by omega) (by omega)) ?_
        walk_at "q"
        refine ix_ref hown3 (atI_map hz2) ?_
        walk_at "q"
        refine ix_ref (hR3.row _ (pyI_lt (by omega) (by omega))) (rowD_py (by omega) (by omega)) ?_
        rw [hw']
        walk_at "q"
        refine m_append hp3 (by rw [List.length_map, List.length_append, List.length_map, List.length_range]; unfold sizeLine; omega) ?_
        walk_at "q"
        refine ⟨_, rfl, ?_, e3.set _ hS01, get_set (by omega) ht3, fun x hx => ⟨get_set (by have := (hg3 x hx).2; omega) (hg3 x hx).1, (hg3 x hx).2⟩⟩
        rw [get_set_self hp3, List.range_succ, List.map_append, List.map_append, List.map_append, List.map_append, ← List.append_assoc]
        congr 3
        show _ = [arcD (ringA m G (grp m G h) c')]
        unfold ringA arcD
        rw [hy', hz']
        dsimp only [Option.getD_some]
        rw [hw]
        rfl
      · rintro σ S3 ⟨k7, rfl, hp3, e3, ht3, hg3⟩
        rw [rgD_len, show (((grp m G h).length : Int) - 0).toNat = (grp m G h).length by omega] at hp3
        walk_at "q"
        exact ⟨_, _, rfl, hp3, e3, ht3, hg3⟩
    · rw [if_neg (by omega), List.append_nil]
      walk_at "q"
      exact ⟨_, _, rfl, hp2, e2, ht2, hg2⟩
  rintro σ S2 ⟨k3, k7, rfl, hp2, e2, ht2, hg2⟩
  rw [List.length_map, List.take_of_length_le (Nat.le_refl _)] at hp2
  have hfm : (hr.flatMap fun x => rgF m G x.1) = (hds m G).flatMap (rgF m G) := by rw [← hfst, List.flatMap_map]
  rw [hfm] at hp2
  have hRl : ((hds m G).flatMap (rgF m G)).length ≤ 81 := Nat.le_trans (flat_len (b := m + 1) fun x _ => rg_len m G x) (sq_le hm hhl)
  have hcd := coreAll_def m G
  clear hfm
  generalize (hds m G).flatMap (rgF m G) = RL at *
  walk_at "q"
  refine ⟨_, seqOf_lst ht2, by rw [List.length_map]; unfold sizeLine; omega, ?_⟩
  refine lc_mapE (callW_mono T _) (fun x : Int × Nat => D.ref x.2) (fun x => .int x.1) (fun S' e' => still_ref (e'.get ht2)) ?_ ?_
  · rintro ⟨h, ρ⟩ hx S3 e3
    obtain ⟨m1, -⟩ := H.mem _ hx
    obtain ⟨hn, hh⟩ := mem_hds.1 m1
    have m2 := (hg2 _ hx).1
    dsimp only at m2 hn hh
    have ha := (hd_at g hn).1
    rw [hh] at ha
    refine ⟨_, rfl, ?_⟩
    walk_at "q"
    refine ix_ref (e3.get m2) (atI_map (atI_int (d := h) (by decide) ha)) ?_
    exact ⟨rfl, Ext.refl _⟩
  intro S3 e3
  have hhe : (hr.map fun x => D.int x.1) = (hds m G).map D.int := by rw [← hfst, List.map_map]; rfl
  rw [hhe]
  walk_at "q"
  have hh4 : (S3 ++ [MO.lst ((hds m G).map D.int)])[S3.length]? = some (.lst ((hds m G).map D.int)) := get_new
  have e4 : Ext S (S3 ++ [MO.lst ((hds m G).map D.int)]) := (e2.trans e3).trans (Ext.new ..)
  have hp4 : (S3 ++ [MO.lst ((hds m G).map D.int)])[S1.length]? = some (.lst (RL.map arcD)) := get_app (e3.get hp2)
  have hlt : S1.length < S3.length := lt_of_get (e3.get hp2)
  generalize S3 ++ [MO.lst ((hds m G).map D.int)] = S4 at *
  refine ⟨_, seqOf_lst hh4, ?_⟩
  refine for_inv (callW_mono T _) (fun c σ S' => ∃ k5 k6 k9, σ = [some (.ref r), some (.ref t), some (.ref S1.length), k3, some (.ref S3.length), k5, k6, k7, none, k9, none] ∧ S'[S1.length]? = some (.lst ((RL ++ ((hds m G).take c).flatMap (lkF m G)).map arcD)) ∧ S'[S3.length]? = some (.lst ((hds m G).map D.int)) ∧ Ext S S')
    ⟨_, _, _, rfl, by rw [hp4]; simp, hh4, e4⟩ (fun c σ S' h => by obtain ⟨_, _, _, _, _, h, _⟩ := h; exact still_ref h) ?_ ?_
  · rintro c x σ S5 hx ⟨k5, k6, k9, rfl, hp5, hh5, e5⟩
    obtain ⟨i, hi, rfl⟩ := get_of_map hx
    obtain ⟨hin, -⟩ := mem_hds.1 (List.mem_of_getElem? hi)
    obtain ⟨i0, i1⟩ := mem_nds.1 hin
    have hpre : (((hds m G).take c).flatMap (lkF m G)).length ≤ 81 := Nat.le_trans (flat_len (b := m + 1) fun x _ => lk_len m G x) (sq_le hm (by rw [List.length_take]; omega))
    have hnx := flat_next (f := lkF m G) hi
    generalize ((hds m G).take c).flatMap (lkF m G) = pre at *
    rw [hnx]
    refine ⟨_, rfl, ?_⟩
    walk_at "q"
    refine ⟨_, seqOf_lst hh5, ?_⟩
    refine for_inv (callW_mono T _) (fun c' σ S' => ∃ k6 k9, σ = [some (.ref r), some (.ref t), some (.ref S1.length), k3, some (.ref S3.length), some (.int i), k6, k7, none, k9, none] ∧ S'[S1.length]? = some (.lst ((RL ++ (pre ++ (((hds m G).take c').filter (lkC m G i)).map (lkA m G i))).map arcD)) ∧ S'[S3.length]? = some (.lst ((hds m G).map D.int)) ∧ Ext S S')
      ⟨_, _, rfl, by rw [hp5]; simp, hh5, e5⟩ (fun c σ S' h => by obtain ⟨_, _, _, _, h, _⟩ := h; exact still_ref h) ?_ ?_
    · rintro c' y σ S6 hy ⟨k6, k9, rfl, hp6, hh6, e6⟩
      obtain ⟨j, hj, rfl⟩ := get_of_map hy
      obtain ⟨hjn, -⟩ := mem_hds.1 (List.mem_of_getElem? hj)
      obtain ⟨j0, j1⟩ := mem_nds.1 hjn
      have hfl : (((hds m G).take c').filter (lkC m G i)).length ≤ 9 := Nat.le_trans (List.length_filter_le _ _) (by rw [List.length_take]; omega)
      have hnx2 := filter_next (p := lkC m G i) hj
      have RR := R.ext e6
      have skip : lkC m G i j = false → ∀ k6 k9 S', S'[S1.length]? = some (.lst ((RL ++ (pre ++ (((hds m G).take c').filter (lkC m G i)).map (lkA m G i))).map arcD)) → S'[S3.length]? = some (.lst ((hds m G).map D.int)) → Ext S S' →
          ∃ k6' k9', [some (.ref r), some (.ref t), some (.ref S1.length), k3, some (.ref S3.length), some (.int i), k6, k7, none, k9, none] = [some (.ref r), some (.ref t), some (.ref S1.length), k3, some (.ref S3.length), some (.int i), k6', k7, none, k9', none] ∧ S'[S1.length]? = some (.lst ((RL ++ (pre ++ (((hds m G).take (c' + 1)).filter (lkC m G i)).map (lkA m G i))).map arcD)) ∧ S'[S3.length]? = some (.lst ((hds m G).map D.int)) ∧ Ext S S' := fun hb k6 k9 S' a1 a2 a3 => by
        rw [hb, if_neg (by decide), List.append_nil] at hnx2
        exact ⟨_, _, rfl, by rw [a1, hnx2], a2, a3⟩
      refine ⟨_, rfl, ?_⟩
      refine ss_last (s_if (callW_mono T _) (fun b S' => S6 = S' ∧ b = (decide (i ≠ j) && (gg m G i j).isSome)) ?_ ?_ ?_)
      · walk_at "q"
        refine if_n (fun h1 => ?_) (fun h1 => ?_)
        · walk_at "q"
          refine ix_ref RR.top (refsD_at (by omega) (by omega)) ?_
          walk_at "q"
          refine ix_ref (RR.row _ (pyI_lt (by omega) (by omega))) (rowD_py (by omega) (by omega)) ?_
          walk_at "q"
          refine ⟨rfl, ?_⟩
          rw [decide_eq_true h1, Bool.true_and]
          unfold gg
          cases G (pyI (m + 1) i) (pyI (m + 1) j) <;> rfl
        · walk_at "q"
          refine ⟨rfl, ?_⟩
          rw [decide_eq_false (show ¬ i ≠ j from fun e => e h1), Bool.false_and, decide_eq_true h1]
          rfl
      · rintro S' ⟨rfl, hb⟩
        have hb := hb.symm
        rw [Bool.and_eq_true] at hb
        obtain ⟨hb1, hb2⟩ := hb
        have hij := of_decide_eq_true hb1
        obtain ⟨d, hd⟩ := Option.isSome_iff_exists.1 hb2
        have hd' : G (pyI (m + 1) i) (pyI (m + 1) j) = some d := hd
        walk_at "q"
        refine ⟨_, seqOf_lst hh6, by rw [List.length_map]; unfold sizeLine; omega, ?_⟩
        refine lc_filtE (callW_mono T _) D.int D.int (fun k => decide (¬ k ∈ [i, j]) && ((gg m G i k).isSome && (gg m G k j).isSome)) (fun S' e' => still_ref (e'.get hh6)) ?_ ?_
        · intro x hx S7 e7
          obtain ⟨hxn, -⟩ := mem_hds.1 hx
          obtain ⟨x0, x1⟩ := mem_nds.1 hxn
          refine ⟨_, rfl, ?_, fun _ S8 _ => ?_⟩
          · walk_at "q"
            refine c_notinI (ms := [i, j]) get_new ?_
            walk_at "q"
            have R7 := RR.ext (e7.trans (Ext.new S7 [MO.lst [D.int i, D.int j]]))
            refine if_nb (fun h => ?_) (fun h => ?_)
            · have h' : decide (¬ x ∈ [i, j]) = true := decide_eq_true (of_decide_eq_false h)
              rw [h', Bool.true_and]
              walk_at "q"
              refine ix_ref R7.top (refsD_at (by omega) (by omega)) ?_
              walk_at "q"
              refine ix_ref (R7.row _ (pyI_lt (by omega) (by omega))) (rowD_py (by omega) (by omega)) ?_
              walk_at "q"
              unfold gg
              cases ea : G (pyI (m + 1) i) (pyI (m + 1) x) with
              | none =>
                refine if_nF rfl ?_
                walk_at "q"
                exact ⟨rfl, Ext.new ..⟩
              | some a =>
                refine if_nT rfl ?_
                walk_at "q"
                refine ix_ref R7.top (refsD_at (by omega) (by omega)) ?_
                walk_at "q"
                refine ix_ref (R7.row _ (pyI_lt (by omega) (by omega))) (rowD_py (by omega) (by omega)) ?_
                walk_at "q"
                refine ⟨?_, Ext.new ..⟩
                cases G (pyI (m + 1) x) (pyI (m + 1) j) <;> rfl
            · have h' : decide (¬ x ∈ [i, j]) = false := decide_eq_false (fun e => e (of_decide_eq_true h))
              rw [h', Bool.false_and]
              walk_at "q"
              exact ⟨by rw [h]; rfl, Ext.new ..⟩
          · walk_at "q"
            exact ⟨rfl, Ext.refl _⟩
        intro S7 e7
        have hfl2 := List.length_filter_le (fun k => decide (¬ k ∈ [i, j]) && ((gg m G i k).isSome && (gg m G k j).isSome)) (hds m G)
        walk_at "q"
        have hn8 : (S7 ++ [MO.lst (((hds m G).filter fun k => decide (¬ k ∈ [i, j]) && ((gg m G i k).isSome && (gg m G k j).isSome)).map D.int)])[S7.length]? = some (.lst (((hds m G).filter fun k => decide (¬ k ∈ [i, j]) && ((gg m G i k).isSome && (gg m G k j).isSome)).map D.int)) := get_new
        have e8 : Ext S6 (S7 ++ [MO.lst (((hds m G).filter fun k => decide (¬ k ∈ [i, j]) && ((gg m G i k).isSome && (gg m G k j).isSome)).map D.int)]) := e7.trans (Ext.new ..)
        generalize S7 ++ [MO.lst (((hds m G).filter fun k => decide (¬ k ∈ [i, j]) && ((gg m G i k).isSome && (gg m G k j).isSome)).map D.int)] = S8 at *
        refine ⟨_, seqOf_lst hn8, by rw [List.length_map]; unfold sizeLine; omega, ?_⟩
        refine lc_filtE (callW_mono T _) D.int D.int (explK m G i j) (fun S' e' => still_ref (e'.get hn8)) ?_ ?_
        · intro x hx S9 e9
          obtain ⟨hx, hxc⟩ := List.mem_filter.1 hx
          obtain ⟨hxn, -⟩ := mem_hds.1 hx
          obtain ⟨x0, x1⟩ := mem_nds.1 hxn
          rw [Bool.and_eq_true, Bool.and_eq_true] at hxc
          obtain ⟨hx1, hx2, hx3⟩ := hxc
          have hx1 := of_decide_eq_true hx1
          simp only [List.mem_cons, List.not_mem_nil, or_false, not_or] at hx1
          obtain ⟨a, ha⟩ := Option.isSome_iff_exists.1 hx2
          obtain ⟨b', hb'⟩ := Option.isSome_iff_exists.1 hx3
          have hP : explK m G i j x = decide (a + b' = d) := by
            unfold explK
            rw [decide_eq_true hx1.1, decide_eq_true hx1.2, ha, hb', hd]
            rfl
          have ha' : G (pyI (m + 1) i) (pyI (m + 1) x) = some a := ha
          have hb'' : G (pyI (m + 1) x) (pyI (m + 1) j) = some b' := hb'
          have R9 := RR.ext (e8.trans e9)
          refine ⟨_, rfl, ?_, fun _ S8 _ => ?_⟩
          · walk_at "q"
            refine ix_ref R9.top (refsD_at (by omega) (by omega)) ?_
            walk_at "q"
            refine ix_ref (R9.row _ (pyI_lt (by omega) (by omega))) (rowD_py (by omega) (by omega)) ?_
            rw [ha']
            walk_at "q"
            refine ix_ref R9.top (refsD_at (by omega) (by omega)) ?_
            walk_at "q"
            refine ix_ref (R9.row _ (pyI_lt (by omega) (by omega))) (rowD_py (by omega) (by omega)) ?_
            rw [hb'']
            refine b_add ?_
            walk_at "q"
            refine ix_ref R9.top (refsD_at (by omega) (by omega)) ?_
            walk_at "q"
            refine ix_ref (R9.row _ (pyI_lt (by omega) (by omega))) (rowD_py (by omega) (by omega)) ?_
            rw [hd']
            refine c_eqI ?_
            exact ⟨_, rfl, hP.symm, Ext.refl _⟩
          · walk_at "q"
            exact ⟨rfl, Ext.refl _⟩
        intro S9 e9
        have hemp : (((hds m G).filter fun k => decide (¬ k ∈ [i, j]) && ((gg m G i k).isSome && (gg m G k j).isSome)).filter (explK m G i j)).isEmpty = !expl m G i j := by
          rw [expl_eq, Bool.eq_iff_iff, List.isEmpty_iff, List.filter_filter, List.filter_eq_nil_iff, Bool.not_eq_true', List.any_eq_false]
          constructor
          · intro h x hx hK
            refine h x hx ?_
            have hK' := hK
            unfold explK at hK'
            rw [Bool.and_eq_true, Bool.and_eq_true] at hK'
            obtain ⟨k1, k2, k3⟩ := hK'
            have k1 := of_decide_eq_true k1
            have k2 := of_decide_eq_true k2
            rw [hK, Bool.true_and, decide_eq_true (by simp only [List.mem_cons, List.not_mem_nil, or_false, not_or]; exact ⟨k1, k2⟩), Bool.true_and]
            cases ea : gg m G i x with
            | none => rw [ea] at k3; cases k3
            | some a => cases eb : gg m G x j with
              | none => rw [ea, eb] at k3; cases k3
              | some b => rfl
          · intro h x hx hK
            rw [Bool.and_eq_true] at hK
            exact h x hx hK.1
        walk_at "q"
        generalize (((hds m G).filter fun k => decide (¬ k ∈ [i, j]) && ((gg m G i k).isSome && (gg m G k j).isSome)).filter (explK m G i j)) = fs at *
        refine c_eq (eqB_nilL (xs := fs.map D.int) (get_app get_new) get_new (fun d hd => by obtain ⟨j, -, rfl⟩ := List.mem_map.1 hd; exact trivial)) ?_
        walk_at "q"
        rw [List.isEmpty_map, hemp]
        have e10 : Ext S6 (S9 ++ [MO.lst (fs.map D.int)] ++ [MO.lst []]) := (e8.trans e9).trans ((Ext.new ..).trans (Ext.new ..))
        have hp10 := e10.get hp6
        have hh10 := e10.get hh6
        have hlkC : lkC m G i j = !expl m G i j := by unfold lkC; rw [hd, decide_eq_true hij]; simp
        generalize S9 ++ [MO.lst (fs.map D.int)] ++ [MO.lst []] = S10 at *
        refine if_nb (fun h => ?_) (fun h => ?_)
        · rw [h] at hlkC
          rw [hlkC, if_pos (show (!false) = true from rfl)] at hnx2
          have R10 := RR.ext e10
          walk_at "q"
          refine ⟨lstD_lst hp10, ?_⟩
          walk_at "q"
          refine ix_ref R10.top (refsD_at (by omega) (by omega)) ?_
          walk_at "q"
          refine ix_ref (R10.row _ (pyI_lt (by omega) (by omega))) (rowD_py (by omega) (by omega)) ?_
          rw [hd']
          walk_at "q"
          refine m_append hp10 (by rw [List.length_map, List.length_append, List.length_append, List.length_map]; unfold sizeLine; omega) ?_
          walk_at "q"
          refine ⟨_, _, rfl, ?_, get_set (by omega) hh10, (e6.trans e10).set _ hS01⟩
          rw [get_set_self hp10, hnx2]
          simp only [List.map_append, List.append_assoc, List.map_cons, List.map_nil]
          unfold lkA arcD
          rw [hd]
          rfl
        · rw [h] at hlkC
          walk_at "q"
          exact skip hlkC _ _ _ hp10 hh10 (e6.trans e10)
      · rintro S' ⟨rfl, hb⟩
        walk_at "q"
        refine skip ?_ _ _ _ hp6 hh6 e6
        unfold lkC
        rw [← Bool.and_assoc, ← hb, Bool.false_and]
    · rintro σ S6 ⟨k6, k9, rfl, hp6, hh6, e6⟩
      rw [List.length_map, List.take_of_length_le (Nat.le_refl _)] at hp6
      walk_at "q"
      exact ⟨_, _, _, rfl, hp6, hh6, e6⟩
  rintro σ S5 ⟨k5, k6, k9, rfl, hp5, hh5, e5⟩
  rw [List.length_map, List.take_of_length_le (Nat.le_refl _), ← hcd] at hp5
  have hcl : (coreAll m G).length ≤ 162 := by
    rw [hcd, List.length_append]
    have := Nat.le_trans (flat_len (f := lkF m G) (xs := hds m G) (b := m + 1) fun x _ => lk_len m G x) (sq_le hm hhl)
    omega
  walk_at "q"
  refine ⟨_, seqOf_lst hp5, by rw [List.length_map]; unfold sizeLine; omega, ?_⟩
  refine lc_filtE (callW_mono T _) arcD arcD kept (fun S' e' => still_ref (e'.get hp5)) ?_ ?_
  · rintro ⟨i, j, w⟩ ha S8 e8
    refine ⟨_, rfl, ?_, fun _ S9 e9 => ?_⟩
    · unfold arcD
      walk_at "q"
      refine if_n (fun h1 => ?_) (fun h1 => ?_)
      · walk_at "q"
        refine ⟨?_, Ext.refl _⟩
        unfold kept; simp [h1]
      · walk_at "q"
        refine ⟨?_, Ext.refl _⟩
        unfold kept; simp [h1]
    · walk_at "q"
      exact ⟨rfl, Ext.refl _⟩
  intro S6 e6
  walk_at "q"
  refine b_sortA get_new ?_
  rw [core_law]
  walk_at "q"
  exact q _ (e5.trans (e6.trans ((Ext.new ..).trans (Ext.new ..))))
theorem net_parting_ok {k : Nat} {S : St} {m r b r' b' : Nat} {G1 G2 : F} {Q : QD} (hm : m ≤ 8) (R1 : Rws S r b (m + 1) G1) (R2 : Rws S r' b' (m + 1) G2)
    (qn : agr (m + 1) G1 G2 → Q .non S)
    (q : ∀ i j, Fst m G1 G2 i j → ∀ S', Ext S S' → Q (prtD m G1 G2 i j) S') : callW T (k + 3) i__law_net_parting [.ref r, .ref r'] S Q := by
  refine call_of T__law_net_parting rfl ?_
  dsimp only [f__law_net_parting, b__law_net_parting, startD, List.map, List.length_cons, List.length_nil, Nat.reduceAdd, Nat.reduceSub, List.replicate, List.cons_append, List.nil_append, List.append_nil]
  have ixR : ∀ {S' : St} {r b : Nat} {G : F} (R : Rws S' r b (m + 1) G) (x : Int) (Q' : QD), -1 ≤ x → x < m → Q' (.ref (b + 2 * pyI (m + 1) x)) S' → ixW (.ref r) (.int x) S' Q' := fun {S' r b G} R x Q' x0 x1 h =>
    ix_ref R.top (refsD_at (by omega) (by omega)) h
  have ixC : ∀ {S' : St} {r b : Nat} {G : F} (R : Rws S' r b (m + 1) G) (x y : Int) (Q' : QD), -1 ≤ x → x < m → -1 ≤ y → y < m → Q' (oD (G (pyI (m + 1) x) (pyI (m + 1) y))) S' → ixW (.ref (b + 2 * pyI (m + 1) x)) (.int y) S' Q' := fun {S' r b G} R x y Q' x0 x1 y0 y1 h =>
    ix_ref (R.row _ (pyI_lt (by omega) (by omega))) (rowD_py (by omega) (by omega)) h
  have ht1 := R1.top
  walk_at "q"
  rw [refsD_len, show ((m + 1 : Nat) : Int) - 1 = m by omega]
  refine r_two (by omega) ?_
  refine for_inv (callW_mono T _) (fun a σ S' => S' = S ∧ (∀ i j : Int, -1 ≤ i → i < -1 + (a : Int) → -1 ≤ j → j < m → G1 (pyI (m + 1) i) (pyI (m + 1) j) = G2 (pyI (m + 1) i) (pyI (m + 1) j)) ∧ ∃ k2 k3 k4 k5 k6, σ = [some (.ref r), some (.ref r'), k2, k3, k4, k5, k6])
    ⟨rfl, fun i j h h' => by omega, _, _, _, _, _, rfl⟩ (fun _ _ _ _ => trivial) ?_ ?_
  · rintro a x σ S0 hx ⟨rfl, ha, k2, k3, k4, k5, k6, rfl⟩
    obtain ⟨han, rfl⟩ := rgD_get hx
    refine ⟨_, rfl, ?_⟩
    walk_at "q"
    rw [refsD_len, show ((m + 1 : Nat) : Int) - 1 = m by omega]
    refine r_two (by omega) ?_
    refine for_inv (callW_mono T _) (fun b σ S' => S' = S0 ∧ (∀ j : Int, -1 ≤ j → j < -1 + (b : Int) → G1 (pyI (m + 1) (-1 + (a : Int))) (pyI (m + 1) j) = G2 (pyI (m + 1) (-1 + (a : Int))) (pyI (m + 1) j)) ∧ ∃ k3 k4 k5 k6, σ = [some (.ref r), some (.ref r'), some (.int (-1 + (a : Int))), k3, k4, k5, k6])
      ⟨rfl, fun j h h' => by omega, _, _, _, _, rfl⟩ (fun _ _ _ _ => trivial) ?_ ?_
    · rintro c x σ S2 hx ⟨rfl, hb, k3, k4, k5, k6, rfl⟩
      obtain ⟨hbn, rfl⟩ := rgD_get hx
      have hi0 : -1 ≤ -1 + (a : Int) := by omega
      have hi1 : -1 + (a : Int) < m := by omega
      have hj0 : -1 ≤ -1 + (c : Int) := by omega
      have hj1 : -1 + (c : Int) < m := by omega
      have fin : G1 (pyI (m + 1) (-1 + (a : Int))) (pyI (m + 1) (-1 + (c : Int))) ≠ G2 (pyI (m + 1) (-1 + (a : Int))) (pyI (m + 1) (-1 + (c : Int))) → ∀ S', Ext S2 S' → Q (prtD m G1 G2 (-1 + (a : Int)) (-1 + (c : Int))) S' := fun h S' e => by
        refine q _ _ ⟨hi0, hi1, hj0, hj1, h, fun i' j' i0 i1 j0 j1 hlt => ?_⟩ _ e
        rcases hlt with h1 | ⟨rfl, h1⟩
        · exact ha i' j' i0 h1 j0 j1
        · exact hb j' j0 h1
      have stay : G1 (pyI (m + 1) (-1 + (a : Int))) (pyI (m + 1) (-1 + (c : Int))) = G2 (pyI (m + 1) (-1 + (a : Int))) (pyI (m + 1) (-1 + (c : Int))) → ∀ j : Int, -1 ≤ j → j < -1 + ((c + 1 : Nat) : Int) → G1 (pyI (m + 1) (-1 + (a : Int))) (pyI (m + 1) j) = G2 (pyI (m + 1) (-1 + (a : Int))) (pyI (m + 1) j) := fun h j j0 j1 => by
        by_cases e : j = -1 + (c : Int)
        · subst e; exact h
        · exact hb j j0 (by omega)
      generalize -1 + (a : Int) = i at *
      generalize -1 + (c : Int) = j at *
      refine ⟨_, rfl, ?_⟩
      refine ss_last ?_
      refine s_if (callW_mono T _) (fun t S' => S' = S2 ∧ t = !decide (G1 (pyI (m + 1) i) (pyI (m + 1) j) = G2 (pyI (m + 1) i) (pyI (m + 1) j))) ?_ ?_ ?_
      · walk_at "q"
        refine ixR R1 _ _ hi0 hi1 ?_
        walk_at "q"
        refine ixC R1 _ _ _ hi0 hi1 hj0 hj1 ?_
        walk_at "q"
        refine ixR R2 _ _ hi0 hi1 ?_
        walk_at "q"
        refine ixC R2 _ _ _ hi0 hi1 hj0 hj1 ?_
        refine c_neO ?_
        walk_at "q"
        exact ⟨rfl, rfl⟩
      · rintro S3 ⟨rfl, h⟩
        have hne : G1 (pyI (m + 1) i) (pyI (m + 1) j) ≠ G2 (pyI (m + 1) i) (pyI (m + 1) j) := by simpa using h.symm
        have fin := fin hne
        clear stay q ha hb qn
        refine ss_set ?_
        walk_at "q"
        refine ss_cut (callW_mono T _) (fun σ' S' => S' = S3 ∧ ∃ s : Int, ((isL (G1 (pyI (m + 1) i) (pyI (m + 1) j)) (G2 (pyI (m + 1) i) (pyI (m + 1) j)) = true ∧ s = 0) ∨ (isL (G1 (pyI (m + 1) i) (pyI (m + 1) j)) (G2 (pyI (m + 1) i) (pyI (m + 1) j)) = false ∧ s = 1)) ∧
          σ' = [some (.ref r), some (.ref r'), some (.int i), some (.int j), some (.int s), k5, k6]) ?_ ?_
        · walk_at "q"
          refine ixR R1 _ _ hi0 hi1 ?_
          walk_at "q"
          refine ixC R1 _ _ _ hi0 hi1 hj0 hj1 ?_
          cases e1 : G1 (pyI (m + 1) i) (pyI (m + 1) j) with
          | none =>
            dsimp only [oD]
            walk_at "q"
            exact ⟨rfl, 0, Or.inl ⟨rfl, rfl⟩, rfl⟩
          | some w =>
            dsimp only [oD]
            walk_at "q"
            refine ixR R2 _ _ hi0 hi1 ?_
            walk_at "q"
            refine ixC R2 _ _ _ hi0 hi1 hj0 hj1 ?_
            cases e2 : G2 (pyI (m + 1) i) (pyI (m + 1) j) with
            | none =>
              dsimp only [oD]
              walk_at "q"
              exact ⟨rfl, 1, Or.inr ⟨rfl, rfl⟩, rfl⟩
            | some v =>
              dsimp only [oD]
              walk_at "q"
              refine ixR R1 _ _ hi0 hi1 ?_
              walk_at "q"
              refine ixC R1 _ _ _ hi0 hi1 hj0 hj1 ?_
              rw [e1]
              dsimp only [oD]
              walk_at "q"
              refine ixR R2 _ _ hi0 hi1 ?_
              walk_at "q"
              refine ixC R2 _ _ _ hi0 hi1 hj0 hj1 ?_
              rw [e2]
              dsimp only [oD]
              walk_at "q"
              refine if_d (fun h => ?_) (fun h => ?_)
              · walk_at "q"
                exact ⟨rfl, 0, Or.inl ⟨decide_eq_true h, rfl⟩, rfl⟩
              · walk_at "q"
                exact ⟨rfl, 1, Or.inr ⟨decide_eq_false h, rfl⟩, rfl⟩
        rintro σ' S4 ⟨rfl, s, hs, rfl⟩
        have pick : ∃ (p pb o ob : Nat) (G U : F), L2.atI [D.ref r, D.ref r'] s = some (.ref p) ∧ L2.atI [D.ref r', D.ref r] s = some (.ref o) ∧ Rws S4 p pb (m + 1) G ∧ Rws S4 o ob (m + 1) U ∧ G (pyI (m + 1) i) (pyI (m + 1) j) ≠ U (pyI (m + 1) i) (pyI (m + 1) j) ∧ prtD m G1 G2 i j = .tup [.int s, pinD m i j (pxF m G U i j) G] := by
          rcases hs with ⟨h, rfl⟩ | ⟨h, rfl⟩
          · exact ⟨r, b, r', b', G1, G2, rfl, rfl, R1, R2, hne, by unfold prtD; rw [if_pos h]⟩
          · exact ⟨r', b', r, b, G2, G1, rfl, rfl, R2, R1, hne.symm, by unfold prtD; rw [h, if_neg (by decide)]⟩
        obtain ⟨p, pb, o, ob, G, U, hp, ho, RG, RU, hGU, hD⟩ := pick
        rw [hD] at fin
        clear hs hD hne
        walk_at "q"
        refine ix_ref get_new hp ?_
        walk_at "q"
        have eG : Ext S4 (S4 ++ [MO.lst [D.ref r, D.ref r']]) := Ext.new ..
        refine ixR (RG.ext eG) _ _ hi0 hi1 ?_
        walk_at "q"
        refine ixC (RG.ext eG) _ _ _ hi0 hi1 hj0 hj1 ?_
        generalize S4 ++ [MO.lst [D.ref r, D.ref r']] = S5 at *
        walk_at "q"
        refine ss_cut (callW_mono T _) (fun σ' S' => Ext S4 S' ∧ σ' = [some (.ref r), some (.ref r'), some (.int i), some (.int j), some (.int s), some (.ref p), some (.int (pxF m G U i j))]) ?_ ?_
        · unfold pxF
          cases e1 : G (pyI (m + 1) i) (pyI (m + 1) j) with
          | some x =>
            dsimp only [oD]
            walk_at "q"
            exact ⟨eG, rfl⟩
          | none =>
            cases e2 : U (pyI (m + 1) i) (pyI (m + 1) j) with
            | none => rw [e1, e2] at hGU; exact absurd rfl hGU
            | some u =>
              dsimp only [oD]
              walk_at "q"
              refine ix_ref get_new ho ?_
              walk_at "q"
              have eU : Ext S4 (S5 ++ [MO.lst [D.ref r', D.ref r]]) := eG.app _
              refine ixR (RU.ext eU) _ _ hi0 hi1 ?_
              walk_at "q"
              refine ixC (RU.ext eU) _ _ _ hi0 hi1 hj0 hj1 ?_
              rw [e2]
              dsimp only [oD]
              generalize S5 ++ [MO.lst [D.ref r', D.ref r]] = S6 at *
              walk_at "q"
              refine ixR (RG.ext eU) _ _ hj0 hj1 ?_
              walk_at "q"
              refine ixC (RG.ext eU) _ _ _ hj0 hj1 hi0 hi1 ?_
              cases e3 : G (pyI (m + 1) j) (pyI (m + 1) i) with
              | none =>
                dsimp only [oD]
                walk_at "q"
                exact ⟨eU, rfl⟩
              | some y =>
                dsimp only [oD]
                walk_at "q"
                refine ixR (RG.ext eU) _ _ hj0 hj1 ?_
                walk_at "q"
                refine ixC (RG.ext eU) _ _ _ hj0 hj1 hi0 hi1 ?_
                rw [e3]
                dsimp only [oD]
                walk_at "q"
                refine ⟨eU, ?_⟩
                rw [show (if -y < u - 1 then -y else u - 1) = min ((some u).getD 0 - 1) (-y) by show _ = min (u - 1) (-y); omega]
        rintro σ' S6 ⟨e6, rfl⟩
        generalize pxF m G U i j = x at *
        walk_at "q"
        unfold pinD at fin
        refine net_at_ok (by omega) hi0 hi1 hj0 hj1 (RG.ext e6).tab (fun h S' e => ?_) (fun H h S' e => ?_)
        · rw [h] at fin
          walk_at "q"
          exact fin _ (e6.trans e)
        · rw [h] at fin
          walk_at "q"
          exact fin _ (e6.trans e)
      · rintro S3 ⟨rfl, h⟩
        have heq : G1 (pyI (m + 1) i) (pyI (m + 1) j) = G2 (pyI (m + 1) i) (pyI (m + 1) j) := by simpa using h.symm
        walk_at "q"
        exact ⟨rfl, stay heq, _, _, _, _, rfl⟩
    · rintro σ S2 ⟨rfl, hb, k3, k4, k5, k6, rfl⟩
      rw [rgD_len] at hb
      refine ⟨rfl, fun i j i0 i1 j0 j1 => ?_, _, _, _, _, _, rfl⟩
      by_cases e : i = -1 + (a : Int)
      · subst e; exact hb j j0 (by omega)
      · exact ha i j i0 (by omega) j0 j1
  · rintro σ S0 ⟨rfl, ha, k2, k3, k4, k5, k6, rfl⟩
    rw [rgD_len] at ha
    walk_at "q"
    exact qn (agr_py fun i j i0 i1 j0 j1 => ha i j i0 (by omega) j0 j1)
theorem atI_unmap {is : List Int} {r u : Int} (h : L2.atI (is.map D.int) r = some (.int u)) : L2.atI is r = some u := by
  unfold L2.atI at *
  rw [List.length_map] at h
  cases e : L2.ixN is.length r with
  | none => rw [e] at h; cases h
  | some c =>
    rw [e] at h
    have h : (is.map D.int)[c]? = some (.int u) := h
    rw [List.getElem?_map] at h
    show is[c]? = some u
    cases g : is[c]? with
    | none => rw [g] at h; cases h
    | some y => rw [g] at h; cases h; rfl
theorem b_round_all {k : Nat} {S : St} {m e : Int} {t : Nat} {ts : List Int} {Q : QD} (tp : Tp S) (h0 : 0 ≤ m) (h1 : m ≤ 8) (ht : S[t]? = some (.lst (ts.map D.int))) (hl : (ts.length : Int) = m + 1) (h2 : t ≠ 2)
    (q : ∀ n xs S', S.length ≤ n → S'[n]? = some (.lst xs) → xs.length ≤ 4 → (∀ d ∈ xs, arcOk m d) → (e ≤ 0 → ∀ d ∈ xs, keepsD ts d) → Fr S S' → Tp S' → Q (.ref n) S') : callW T (k + 2) i__law_b_round [.ref 2, .int m, .ref t, .int e] S Q := by
  refine call_of T__law_b_round rfl ?_
  dsimp only [f__law_b_round, b__law_b_round, startD, List.map, List.length_cons, List.length_nil, Nat.reduceAdd, Nat.reduceSub, List.replicate, List.cons_append, List.nil_append, List.append_nil]
  walk_at "r"
  refine draw_ok tp (by omega) fun c S1 fr1 tp1 c0 c1 => ?_
  walk_at "r"
  refine r_one (by omega) ⟨by rw [rgD_len]; unfold sizeLine; omega, ?_⟩
  refine lc_all (callW_mono T _) (fun i acc S' => ∃ is : List Int, acc = is.map D.int ∧ is.length = i ∧ (∀ j ∈ is, -1 ≤ j ∧ j < m) ∧ Fr S1 S' ∧ Tp S') ⟨[], rfl, rfl, (fun _ h => by cases h), Fr.refl _, tp1⟩ (fun _ _ _ _ => trivial) ?_ ?_
  · rintro i x acc S' hx ⟨is, rfl, hi, hr, fr6, tp6⟩
    refine ⟨_, rfl, ?_⟩
    walk_at "r"
    refine draw_ok tp6 (by omega) fun r S6 fr7 tp7 r0 r1 => ?_
    walk_at "r"
    refine ⟨is ++ [r - 1], by rw [List.map_append]; rfl, by rw [List.length_append, hi]; rfl, ?_, fr6.trans fr7, tp7⟩
    intro j hj
    rw [List.mem_append, List.mem_singleton] at hj
    rcases hj with hj | rfl
    · exact hr j hj
    · omega
  rintro acc U ⟨is, rfl, hi, hr, fr6, tp6⟩
  rw [rgD_len] at hi
  have hSU := (fr1.trans fr6).len
  have hU3 := tp6.len
  walk_at "r"
  refine r_one (by rw [List.length_map]; omega) ?_
  have hV : (U ++ [MO.lst (is.map D.int)]).length = U.length + 1 := by simp
  rw [hV]
  have htU : U[t]? = some (.lst (ts.map D.int)) := by walk_at "lk"
  have htl := lt_of_get htU
  have idx : ∀ j ∈ is, ∃ u, L2.atI (ts.map D.int) j = some (.int u) := fun j hj => by
    have := hr j hj
    obtain ⟨u, -, eu⟩ := atI_ints (is := ts) (r := j) (by omega) (by omega)
    exact ⟨u, eu⟩
  refine for_inv (callW_mono T _) (fun i σ S' => ∃ xs k6, σ = [some (.ref 2), some (.int m), some (.ref t), some (.int e), some (.ref U.length), some (.ref (U.length + 1)), k6, none] ∧
    S'[U.length]? = some (.lst (is.map D.int)) ∧ S'[U.length + 1]? = some (.lst xs) ∧ xs.length = i ∧ (∀ d ∈ xs, arcOk m d ∧ keepsD ts d) ∧ Fr U S' ∧ Tp S') ?_ (fun _ _ _ _ => trivial) ?_ ?_
  · exact ⟨[], _, rfl, get_app get_new, get_new' hV.symm, rfl, (fun d hd => by cases hd), ((Fr.refl U).app _).app _, (tp6.app _).app _⟩
  · rintro i x σ S' hx ⟨xs, k8, rfl, hn, ha, hlx, hx8, fr8, tp8⟩
    obtain ⟨hi', rfl⟩ := rgD_get hx
    rw [List.length_map] at hi'
    have htS : S'[t]? = some (.lst (ts.map D.int)) := fr8.get h2 htU
    refine ⟨_, rfl, ?_⟩
    walk_at "r"
    obtain ⟨p, hp, ep⟩ := atI_ints (is := is) (r := 0 + (i : Int) - 1) (by omega) (by omega)
    obtain ⟨p', hp', ep'⟩ := atI_ints (is := is) (r := 0 + (i : Int)) (by omega) (by omega)
    obtain ⟨u, eu⟩ := idx p hp
    obtain ⟨u', eu'⟩ := idx p' hp'
    refine ⟨lstD_lst ha, ?_⟩
    walk_at "r"
    refine ix_ref hn ep ?_
    walk_at "r"
    refine ix_ref hn ep' ?_
    walk_at "r"
    refine ix_ref hn ep' ?_
    walk_at "r"
    refine ix_ref htS eu' ?_
    walk_at "r"
    refine ix_ref hn ep ?_
    walk_at "r"
    refine ix_ref htS eu ?_
    walk_at "r"
    refine m_append ha (by unfold sizeLine; omega) ?_
    walk_at "r"
    refine ⟨_, _, rfl, get_set (by omega) hn, get_set_self ha, by rw [List.length_append, hlx]; rfl, ?_, fr8.set _ (by omega), tp8.set _ (by omega)⟩
    intro d hd
    rw [List.mem_append, List.mem_singleton] at hd
    rcases hd with hd | rfl
    · exact hx8 d hd
    · exact ⟨⟨_, _, _, rfl, (hr p hp).1, (hr p hp).2, (hr p' hp').1, (hr p' hp').2⟩, _, _, _, _, _, rfl, atI_unmap eu, atI_unmap eu', by omega⟩
  · rintro σ S' ⟨xs, k8, rfl, hn, ha, hlx, hx8, fr8, tp8⟩
    rw [rgD_len, List.length_map] at hlx
    have hS' := fr8.len
    walk_at "r"
    refine draw_ok tp8 (by omega) fun r S9 fr9 tp9 r0 r1 => ?_
    have ha9 : S9[U.length + 1]? = some (.lst xs) := fr9.get (by omega) ha
    have hr9 : r.toNat < xs.length := by omega
    obtain ⟨⟨i, j, w, ed, g1, g2, g3, g4⟩, i', j', w', x', y', ed', k1, k2, k3⟩ := hx8 _ (List.getElem_mem hr9)
    rw [ed] at ed'
    injection ed' with ed'
    injection ed' with e1 ed'
    injection ed' with e2 ed'
    injection ed' with e3 ed'
    injection e1 with e1
    injection e2 with e2
    injection e3 with e3
    subst e1 e2 e3
    have ex : L2.atI xs r = some (.tup [.int i, .int j, .int w]) := by rw [← ed]; exact atI_int r0 (List.getElem?_eq_getElem hr9)
    walk_at "r"
    refine ix_ref ha9 ex ?_
    walk_at "r"
    refine ix_ref ha9 ex ?_
    walk_at "r"
    refine ix_ref ha9 ex ?_
    walk_at "r"
    refine st_ix ha9 (ixN_int r0 (by omega)) ?_
    walk_at "r"
    refine q _ _ _ (by omega) (get_set_self ha9) (by rw [List.length_set]; omega) ?_ ?_ ((((fr1.trans fr6).trans fr8).trans fr9).set _ (by omega)) (tp9.set _ (by omega))
    · intro d hd
      rcases List.mem_or_eq_of_mem_set hd with hd | rfl
      · exact (hx8 d hd).1
      · exact ⟨_, _, _, rfl, g1, g2, g3, g4⟩
    · intro he d hd
      rcases List.mem_or_eq_of_mem_set hd with hd | rfl
      · exact (hx8 d hd).2
      · exact ⟨_, _, _, _, _, rfl, k1, k2, by omega⟩
theorem b_round_ok {k : Nat} {S : St} {m e : Int} {t : Nat} {ts : List Int} {Q : QD} (tp : Tp S) (h0 : 0 ≤ m) (h1 : m ≤ 8) (ht : S[t]? = some (.lst (ts.map D.int))) (hl : (ts.length : Int) = m + 1) (h2 : t ≠ 2)
    (q : ∀ n xs S', S.length ≤ n → S'[n]? = some (.lst xs) → xs.length ≤ 4 → (∀ d ∈ xs, arcOk m d) → Fr S S' → Tp S' → Q (.ref n) S') : callW T (k + 2) i__law_b_round [.ref 2, .int m, .ref t, .int e] S Q :=
  b_round_all tp h0 h1 ht hl h2 fun n xs S' a b c d _ f g => q n xs S' a b c d f g
theorem b_arc_ok {k : Nat} {S : St} {m : Int} {t : Nat} {ts : List Int} {Q : QD} (tp : Tp S) (h0 : 0 ≤ m) (h1 : m < 2 ^ 20) (ht : S[t]? = some (.lst (ts.map D.int))) (hl : (ts.length : Int) = m + 1) (h2 : t ≠ 2)
    (q : ∀ d S', arcOk m d → (smallT ts → keepsD ts d) → Fr S S' → Tp S' → Q d S') : callW T (k + 2) i__law_b_arc [.ref 2, .int m, .ref t] S Q := by
  refine call_of T__law_b_arc rfl ?_
  dsimp only [f__law_b_arc, b__law_b_arc, startD, List.map, List.length_cons, List.length_nil, Nat.reduceAdd, Nat.reduceSub, List.replicate, List.cons_append, List.nil_append, List.append_nil]
  walk_at "r"
  refine draw_ok tp (by omega) fun i S1 fr1 tp1 i0 i1 => ?_
  walk_at "r"
  refine draw_ok tp1 (by omega) fun j S2 fr2 tp2 j0 j1 => ?_
  walk_at "r"
  have ht2 : S2[t]? = some (.lst (ts.map D.int)) := by walk_at "lk"
  obtain ⟨tj, -, ej⟩ := atI_ints (is := ts) (r := j - 1) (by omega) (by omega)
  obtain ⟨ti, -, ei⟩ := atI_ints (is := ts) (r := i - 1) (by omega) (by omega)
  refine ix_ref ht2 ej ?_
  walk_at "r"
  refine ix_ref ht2 ei ?_
  walk_at "r"
  refine draw_ok (tp2.app _) (by omega) fun r S3 fr3 tp3 r0 r1 => ?_
  obtain ⟨u, hu, eu⟩ := atI_lit (r := r) [0, 0, 0, 0, 1, 1, 2, 6] rfl r0 r1
  refine ix_ref (fr3.get (by have := tp2.len; omega) get_new) eu ?_
  walk_at "r"
  refine q _ _ ⟨_, _, _, rfl, by omega, by omega, by omega, by omega⟩ (fun hs => ⟨_, _, _, ti, tj, rfl, atI_unmap ei, atI_unmap ej, ?_⟩) (((fr1.trans fr2).app _).trans fr3) tp3
  have a1 := hs _ (atI_mem (atI_unmap ei))
  have a2 := hs _ (atI_mem (atI_unmap ej))
  have a3 : 0 ≤ u := by simp at hu; omega
  split <;> omega
theorem b_plainG {k : Nat} {S : St} {gs : List Int} {Q : QD} (tp : Tp S) (hgs : ∀ g ∈ gs, 0 ≤ g ∧ g ≤ 40) (hgl : gs.length < 100)
    (q : ∀ m t a S', Net m t a 40 S' → Fr S S' → Tp S' → Q (.tup [.int m, .ref t, .ref a]) S') : callW T (k + 3) i__law_b_plain [.ref 2, .tup (gs.map D.int)] S Q := by
  refine call_of T__law_b_plain rfl ?_
  dsimp only [f__law_b_plain, b__law_b_plain, startD, List.map, List.length_cons, List.length_nil, Nat.reduceAdd, Nat.reduceSub, List.replicate, List.cons_append, List.nil_append, List.append_nil]
  walk_at "r"
  refine pickL (tp.app _) get_new (by have := tp.len; omega) (by decide) (by decide) fun d S1 hd fr1 tp1 => ?_
  obtain ⟨m, hm, rfl⟩ := int_mem (is := [0, 1, 2, 3, 3, 3, 4, 4, 5]) hd
  have hm' : 0 ≤ m ∧ m ≤ 5 := by simp at hm; omega
  clear hd hm
  walk_at "r"
  refine draw_ok tp1 (by omega) fun c S2 fr2 tp2 c0 c1 => ?_
  walk_at "r"
  refine draw_ok tp2 (by omega) fun sh S3 fr3 tp3 s0 s1 => ?_
  walk_at "r"
  refine ss_cut (callW_mono T _) (fun σ' S' => S3 = S' ∧ ∃ c', 0 ≤ c' ∧ c' ≤ 40 ∧ σ' = [some (.ref 2), some (.tup (gs.map D.int)), some (.int m), some (.int c'), some (.int sh), none, none, none, none]) ?_ ?_
  · walk_at "r"
    refine if_d (fun h => ?_) (fun h => ?_)
    · walk_at "r"
      refine if_d (fun h => ?_) (fun h => ?_)
      · walk_at "r"
        exact ⟨rfl, _, by decide, by decide, rfl⟩
      · walk_at "r"
        exact ⟨rfl, _, c0, by omega, rfl⟩
    · walk_at "r"
      exact ⟨rfl, _, c0, by omega, rfl⟩
  rintro σ' S' ⟨rfl, c', hc0, hc1, rfl⟩
  refine ss_cut (callW_mono T _) (fun σ' S' => ∃ m' c', Fr S3 S' ∧ Tp S' ∧ 0 ≤ m' ∧ m' ≤ 8 ∧ 0 ≤ c' ∧ c' ≤ 40 ∧ σ' = [some (.ref 2), some (.tup (gs.map D.int)), some (.int m'), some (.int c'), some (.int sh), none, none, none, none]) ?_ ?_
  · walk_at "r"
    refine c_ne (eqB_nilT (fun d hd => ?_)) ?_
    · obtain ⟨i, -, rfl⟩ := int_mem (is := gs) hd
      exact trivial
    walk_at "r"
    have stay : ∃ m' c'', Fr S3 S3 ∧ Tp S3 ∧ 0 ≤ m' ∧ m' ≤ 8 ∧ 0 ≤ c'' ∧ c'' ≤ 40 ∧ [some (D.ref 2), some (.tup (gs.map D.int)), some (.int m), some (.int c'), some (.int sh), none, none, none, none] = [some (.ref 2), some (.tup (gs.map D.int)), some (.int m'), some (.int c''), some (.int sh), none, none, none, none] :=
      ⟨m, c', Fr.refl _, tp3, by omega, by omega, hc0, hc1, rfl⟩
    rw [List.isEmpty_map]
    refine if_nb (fun hne => ?_) (fun hne => ?_)
    · have hpos : 0 < gs.length := by
        cases gs with
        | nil => cases hne
        | cons a b => exact Nat.succ_pos _
      walk_at "r"
      refine if_d (fun h => ?_) (fun h => ?_)
      · walk_at "r"
        refine pickT tp3 (by rw [List.length_map]; exact hpos) (by rw [List.length_map]; omega) fun d S4 hd fr4 tp4 => ?_
        obtain ⟨e, he, rfl⟩ := int_mem (is := gs) hd
        have he' := hgs e he
        walk_at "r"
        exact ⟨8, e, fr4, tp4, by decide, by decide, he'.1, he'.2, rfl⟩
      · walk_at "r"
        exact stay
    · walk_at "r"
      exact stay
  rintro σ' S4 ⟨m', c'', fr4, tp4, hm0, hm1, hd0, hd1, rfl⟩
  walk_at "r"
  refine pickL (tp4.app _) get_new (by have := tp4.len; omega) (by decide) (by decide) fun d S5 hd fr5 tp5 => ?_
  obtain ⟨top, ht, rfl⟩ := int_mem (is := [2, 4, 9, 9, 98]) hd
  have ht' : 0 ≤ top ∧ top ≤ 98 := by simp at ht; omega
  clear hd ht
  walk_at "r"
  refine r_one (by omega) ⟨by rw [rgD_len]; unfold sizeLine; omega, ?_⟩
  refine lc_all (callW_mono T _) (fun i acc S' => ∃ is : List Int, acc = is.map D.int ∧ is.length = i ∧ smallT is ∧ Fr S5 S' ∧ Tp S') ⟨[], rfl, rfl, (fun _ h => by cases h), Fr.refl _, tp5⟩ (fun _ _ _ _ => trivial) ?_ ?_
  · rintro i x acc S' hx ⟨is, rfl, hi, hsm, fr6, tp6⟩
    obtain ⟨hi', rfl⟩ := rgD_get hx
    refine ⟨_, rfl, ?_⟩
    walk_at "r"
    refine draw_ok tp6 (by omega) fun r S6 fr7 tp7 r0 r1 => ?_
    refine ⟨is ++ [r], by rw [List.map_append]; rfl, by rw [List.length_append, hi]; rfl, fun y hy => ?_, fr6.trans fr7, tp7⟩
    rw [List.mem_append, List.mem_singleton] at hy
    rcases hy with hy | rfl
    · exact hsm y hy
    · omega
  rintro acc S6 ⟨is, rfl, hi, hsm, fr6, tp6⟩
  rw [rgD_len] at hi
  have hsm' : smallT (is ++ [0]) := fun y hy => by
    rw [List.mem_append, List.mem_singleton] at hy
    rcases hy with hy | rfl
    · exact hsm y hy
    · decide
  have hlast := atI_last is 0
  walk_at "r"
  generalize hU : S6 ++ [MO.lst (is.map D.int)] ++ [MO.lst [D.int 0]] = U
  have hUt : Tp U := by rw [← hU]; exact (tp6.app _).app _
  have hUf : Fr S U := by rw [← hU]; exact ((((((((Fr.refl S).app _).trans fr1).trans fr2).trans fr3).trans fr4).app _).trans fr5 |>.trans fr6).app _ |>.app _
  have hU3 := hUt.len
  refine b_addL (xs := is.map D.int) (ys := [D.int 0]) (by rw [← hU]; exact get_app get_new) (by rw [← hU]; exact get_new) (by rw [List.length_map, hi, List.length_singleton]; unfold sizeLine; omega) ?_
  walk_at "r"
  refine r_one (by omega) ?_
  have hV : (U ++ [MO.lst (is.map D.int ++ [D.int 0])]).length = U.length + 1 := by simp
  rw [hV]
  refine for_inv (callW_mono T _) (fun i σ S' => ∃ xs k8, σ = [some (.ref 2), some (.tup (gs.map D.int)), some (.int m'), some (.int c''), some (.int sh), some (.int top), some (.ref U.length), some (.ref (U.length + 1)), k8] ∧
    S'[U.length]? = some (.lst ((is ++ [0]).map D.int)) ∧ S'[U.length + 1]? = some (.lst xs) ∧ xs.length = i ∧ (∀ d ∈ xs, arcOk m' d ∧ keepsD (is ++ [0]) d) ∧ Fr U S' ∧ Tp S') ?_ (fun _ _ _ _ => trivial) ?_ ?_
  · exact ⟨[], _, rfl, get_app (by rw [List.map_append]; exact get_new), get_new' hV.symm, rfl, (fun d hd => by cases hd), ((Fr.refl U).app _).app _, (hUt.app _).app _⟩
  · rintro i x σ S' hx ⟨xs, k8, rfl, ht, ha, hl, hx8, fr8, tp8⟩
    obtain ⟨hi', rfl⟩ := rgD_get hx
    have hS' := fr8.len
    refine ⟨_, rfl, ?_⟩
    walk_at "r"
    refine c_ne (eqB_nilL (xs := xs) (get_app ha) get_new fun d hd => arcOk_pl (hx8 d hd).1) ?_
    walk_at "r"
    have step : ∀ (d : D) (S9 : St), arcOk m' d ∧ keepsD (is ++ [0]) d → Fr S' S9 → Tp S9 → xs.length < 40 → S9[U.length + 1]? = some (.lst xs) ∧ ∃ ys k8, [some (D.ref 2), some (.tup (gs.map D.int)), some (.int m'), some (.int c''), some (.int sh), some (.int top), some (.ref U.length), some (.ref (U.length + 1)), some (.int (0 + (i : Int)))] = [some (.ref 2), some (.tup (gs.map D.int)), some (.int m'), some (.int c''), some (.int sh), some (.int top), some (.ref U.length), some (.ref (U.length + 1)), k8] ∧
        (S9.set (U.length + 1) (.lst (xs ++ [d])))[U.length]? = some (.lst ((is ++ [0]).map D.int)) ∧ (S9.set (U.length + 1) (.lst (xs ++ [d])))[U.length + 1]? = some (.lst ys) ∧ ys.length = i + 1 ∧ (∀ d ∈ ys, arcOk m' d ∧ keepsD (is ++ [0]) d) ∧ Fr U (S9.set (U.length + 1) (.lst (xs ++ [d]))) ∧ Tp (S9.set (U.length + 1) (.lst (xs ++ [d]))) := by
      intro d S9 hd fr9 tp9 hlt
      have h9 : S9[U.length + 1]? = some (.lst xs) := fr9.get (by omega) ha
      refine ⟨h9, xs ++ [d], _, rfl, get_set (by omega) (fr9.get (by omega) ht), get_set_self h9, by rw [List.length_append, hl]; rfl, ?_, (fr8.trans fr9).set _ (by omega), tp9.set _ (by omega)⟩
      intro e he
      rw [List.mem_append, List.mem_singleton] at he
      rcases he with he | rfl
      · exact hx8 e he
      · exact hd
    have hxl : xs.length < 40 := by omega
    refine if_nb (fun h => ?_) (fun h => ?_)
    · walk_at "r"
      refine draw_ok (tp8.app _) (by omega) fun r S9 fr9 tp9 r0 r1 => ?_
      walk_at "r"
      have h9 : S9[U.length + 1]? = some (.lst xs) := fr9.get (by omega) (get_app ha)
      refine if_d (fun h => ?_) (fun h => ?_)
      · walk_at "r"
        refine ⟨lstD_lst h9, ?_⟩
        walk_at "r"
        refine pickL tp9 h9 (by omega) (by cases xs with | nil => cases h | cons a as => exact Nat.succ_pos _) (by omega) fun d S10 hd fr10 tp10 => ?_
        obtain ⟨g1, g2⟩ := step d S10 (hx8 d hd) ((((Fr.refl S').app _).trans fr9).trans fr10) tp10 hxl
        walk_at "r"
        refine m_append g1 (by unfold sizeLine; omega) ?_
        walk_at "r"
        exact g2
      · walk_at "r"
        refine ⟨lstD_lst h9, ?_⟩
        walk_at "r"
        refine b_arc_ok tp9 hm0 (by omega) (fr9.get (by omega) (get_app ht)) (by rw [List.length_append, List.length_singleton, hi]; omega) (by omega) fun d S10 hd hkd fr10 tp10 => ?_
        obtain ⟨g1, g2⟩ := step d S10 ⟨hd, hkd hsm'⟩ ((((Fr.refl S').app _).trans fr9).trans fr10) tp10 hxl
        walk_at "r"
        refine m_append g1 (by unfold sizeLine; omega) ?_
        walk_at "r"
        exact g2
    · walk_at "r"
      refine ⟨lstD_lst (get_app ha), ?_⟩
      walk_at "r"
      refine b_arc_ok (tp8.app _) hm0 (by omega) (get_app ht) (by rw [List.length_append, List.length_singleton, hi]; omega) (by omega) fun d S10 hd hkd fr10 tp10 => ?_
      obtain ⟨g1, g2⟩ := step d S10 ⟨hd, hkd hsm'⟩ (((Fr.refl S').app _).trans fr10) tp10 hxl
      walk_at "r"
      refine m_append g1 (by unfold sizeLine; omega) ?_
      walk_at "r"
      exact g2
  · rintro σ S' ⟨xs, k8, rfl, ht, ha, hl, hx8, fr8, tp8⟩
    rw [rgD_len] at hl
    walk_at "r"
    exact q _ _ _ _ ⟨hm0, hm1, ⟨_, xs, ht, by rw [List.length_append, List.length_singleton, hi]; omega, hsm', hlast, ha, by omega, fun d hd => (hx8 d hd).1, fun d hd => (hx8 d hd).2⟩, by omega, by omega⟩ (hUf.trans fr8) tp8

theorem b_plain_ok {k : Nat} {S : St} {Q : QD} (tp : Tp S)
    (q : ∀ m t a S', Net m t a 40 S' → Fr S S' → Tp S' → Q (.tup [.int m, .ref t, .ref a]) S') : callW T (k + 3) i__law_b_plain [.ref 2, .tup [.int 12, .int 24, .int 40]] S Q :=
  b_plainG (gs := [12, 24, 40]) tp (by decide) (by decide) q
theorem cut_all (xs : List D) : cutD xs (some 0) none = xs := by
  unfold cutD
  show (xs.drop (min (0 : Int).toNat xs.length)).take (xs.length - min (0 : Int).toNat xs.length) = xs
  simp
theorem b_spread_all {k : Nat} {S : St} {a b : Nat} {xs ys : List D} {Q : QD} (tp : Tp S) (ha : S[a]? = some (.lst xs)) (hb : S[b]? = some (.lst ys))
    (hl : xs.length + ys.length < 1000) (ha2 : a ≠ 2) (hb2 : b ≠ 2)
    (q : ∀ n zs S', S.length ≤ n → S'[n]? = some (.lst zs) → zs.length ≤ xs.length + ys.length → (∀ d ∈ zs, d ∈ xs ∨ d ∈ ys) → (∀ d ∈ xs, d ∈ zs) → (xs.length + ys.length ≤ 40 → ∀ d ∈ ys, d ∈ zs) → Fr S S' → Tp S' → Q (.ref n) S') : callW T (k + 2) i__law_b_spread_in [.ref 2, .ref a, .ref b] S Q := by
  refine call_of T__law_b_spread_in rfl ?_
  dsimp only [f__law_b_spread_in, b__law_b_spread_in, startD, List.map, List.length_cons, List.length_nil, Nat.reduceAdd, Nat.reduceSub, List.replicate, List.cons_append, List.nil_append, List.append_nil]
  walk_at "r"
  generalize hc : cutD ys _ _ = cs
  have hcl : cs.length ≤ ys.length := by rw [← hc]; exact cut_len ..
  have hcm : ∀ d ∈ cs, d ∈ ys := by rw [← hc]; exact fun d hd => mem_cut hd
  have hcy : xs.length + ys.length ≤ 40 → ∀ d ∈ ys, d ∈ cs := by
    intro h40 d hd
    rw [← hc]
    rw [if_neg (by omega), cut_all]
    exact hd
  clear hc
  have hS3 := tp.len
  have hV : (S ++ [MO.lst xs]).length = S.length + 1 := by simp
  rw [hV]
  refine ⟨cs, seqOf_lst (get_new' hV.symm), ?_⟩
  refine for_inv (callW_mono T _) (fun i σ S' => ∃ zs k3, σ = [some (.ref 2), some (.ref S.length), some (.ref b), k3] ∧
    S'[S.length]? = some (.lst zs) ∧ S'[S.length + 1]? = some (.lst cs) ∧ zs.length = xs.length + i ∧ (∀ d ∈ zs, d ∈ xs ∨ d ∈ ys) ∧ (∀ d ∈ xs, d ∈ zs) ∧ (∀ d ∈ cs.take i, d ∈ zs) ∧ Fr S S' ∧ Tp S') ?_ (fun i σ S' h => by obtain ⟨_, _, _, _, h, _⟩ := h; exact still_ref h) ?_ ?_
  · exact ⟨xs, none, rfl, get_app get_new, get_new' hV.symm, rfl, (fun d hd => Or.inl hd), (fun d hd => hd), (fun d hd => by cases hd), ((Fr.refl S).app _).app _, (tp.app _).app _⟩
  · rintro i x σ S' hx ⟨zs, k3, rfl, hz, hcs, hlz, az, bz, cz, fr, tp'⟩
    have hi : i < cs.length := (List.getElem?_eq_some_iff.1 hx).1
    have hxm : x ∈ cs := List.mem_of_getElem? hx
    refine ⟨_, rfl, ?_⟩
    walk_at "r"
    refine ⟨lstD_lst hz, ?_⟩
    walk_at "r"
    refine draw_ok tp' (by omega) fun r S9 fr9 tp9 r0 r1 => ?_
    have hz9 : S9[S.length]? = some (.lst zs) := fr9.get (by omega) hz
    have hc9 : S9[S.length + 1]? = some (.lst cs) := fr9.get (by omega) hcs
    walk_at "r"
    refine m_insert hz9 (by unfold sizeLine; omega) (by omega) ?_
    walk_at "r"
    have mins : ∀ d, d ∈ zs → d ∈ zs.take r.toNat ++ x :: zs.drop r.toNat := fun d hd => by
      rw [← List.take_append_drop r.toNat zs] at hd
      rw [List.mem_append, List.mem_cons]
      rcases List.mem_append.1 hd with h | h
      · exact Or.inl h
      · exact Or.inr (Or.inr h)
    refine ⟨_, _, rfl, get_set_self hz9, get_set (by omega) hc9, ?_, ?_, fun d hd => mins d (bz d hd), fun d hd => ?_, (fr.trans fr9).set _ (by omega), tp9.set _ (by omega)⟩
    · rw [List.length_append, List.length_take, List.length_cons, List.length_drop]; omega
    · intro d hd
      rw [List.mem_append, List.mem_cons] at hd
      rcases hd with hd | rfl | hd
      · exact az d (List.mem_of_mem_take hd)
      · exact Or.inr (hcm _ hxm)
      · exact az d (List.mem_of_mem_drop hd)
    · rw [List.take_add_one, hx] at hd
      rcases List.mem_append.1 hd with h | h
      · exact mins d (cz d h)
      · rw [List.mem_append, List.mem_cons]
        simp at h
        exact Or.inr (Or.inl h)
  · rintro σ S' ⟨zs, k3, rfl, hz, hcs, hlz, az, bz, cz, fr, tp'⟩
    walk_at "r"
    rw [List.take_of_length_le (Nat.le_refl _)] at cz
    exact q _ _ _ (Nat.le_refl _) hz (by omega) az bz (fun h d hd => cz d (hcy h d hd)) fr tp'
theorem b_spread_ok {k : Nat} {S : St} {a b : Nat} {xs ys : List D} {Q : QD} (tp : Tp S) (ha : S[a]? = some (.lst xs)) (hb : S[b]? = some (.lst ys))
    (hl : xs.length + ys.length < 1000) (ha2 : a ≠ 2) (hb2 : b ≠ 2)
    (q : ∀ n zs S', S.length ≤ n → S'[n]? = some (.lst zs) → zs.length ≤ xs.length + ys.length → (∀ d ∈ zs, d ∈ xs ∨ d ∈ ys) → Fr S S' → Tp S' → Q (.ref n) S') : callW T (k + 2) i__law_b_spread_in [.ref 2, .ref a, .ref b] S Q :=
  b_spread_all tp ha hb hl ha2 hb2 fun n zs S' h1 h2 h3 h4 _ _ h5 h6 => q n zs S' h1 h2 h3 h4 h5 h6
theorem kept_other_ok {k : Nat} {S : St} {m : Int} {t a : Nat} {ts : List Int} {xs : List D} {Q : QD} (tp : Tp S) (h0 : 0 ≤ m) (h1 : m ≤ 8) (ht : S[t]? = some (.lst (ts.map D.int))) (htl : (ts.length : Int) = m + 1) (h2 : t ≠ 2) (hsm : smallT ts)
    (ha : S[a]? = some (.lst xs)) (ax : ∀ d ∈ xs, arcOk m d) (ak : ∀ d ∈ xs, keepsD ts d) (hl : xs.length < 500) (ha2 : a ≠ 2)
    (q : ∀ n zs S', S.length ≤ n → S'[n]? = some (.lst zs) → zs.length ≤ xs.length + 1 → (∀ d ∈ zs, arcOk m d) → (∀ d ∈ zs, keepsD ts d) → Fr S S' → Tp S' → Q (.ref n) S') : callW T (k + 4) i__law_b_kept_other [.ref 2, .int m, .ref t, .ref a] S Q := by
  refine call_of T__law_b_kept_other rfl ?_
  dsimp only [f__law_b_kept_other, b__law_b_kept_other, startD, List.map, List.length_cons, List.length_nil, Nat.reduceAdd, Nat.reduceSub, List.replicate, List.cons_append, List.nil_append, List.append_nil]
  walk_at "q"
  refine draw_ok tp (by omega) fun c S1 fr1 tp1 c0 c1 => ?_
  have hS3 := tp.len
  have hS1 := fr1.len
  walk_at "q"
  have ha1 : S1[a]? = some (.lst xs) := by walk_at "lk"
  have ht1 : S1[t]? = some (.lst (ts.map D.int)) := by walk_at "lk"
  refine ss_if (callW_mono T _) (fun b S' => S' = S1 ++ [.lst []] ∧ (b = false → 0 < xs.length)) ?_ ?_ ?_
  · walk_at "r"
    refine c_eq (eqB_nilL (xs := xs) (get_app ha1) get_new fun d hd => arcOk_pl (ax d hd)) ?_
    walk_at "r"
    refine if_b (fun h => ?_) (fun h => ?_)
    · walk_at "r"
      exact ⟨rfl, fun e => by rw [h] at e; cases e⟩
    · have hx0 : 0 < xs.length := by cases xs with | nil => cases h | cons a as => exact Nat.succ_pos _
      walk_at "r"
      refine if_d (fun h => ?_) (fun h => ?_)
      · walk_at "r"
        exact ⟨rfl, fun _ => hx0⟩
      · walk_at "r"
        exact ⟨rfl, fun _ => hx0⟩
  · rintro S' ⟨rfl, -⟩
    walk_at "r"
    refine b_arc_ok (tp1.app _) h0 (by omega) (get_app ht1) htl h2 fun d S2 hd hk fr2 tp2 => ?_
    walk_at "r"
    have hS2 := fr2.len
    rw [List.length_append] at hS2
    refine b_spread_ok (tp2.app _) (xs := xs) (ys := [d]) (get_app (fr2.get ha2 (get_app ha1))) get_new (by rw [List.length_singleton]; omega) ha2 (by omega) fun n zs S3 hn hz hzl az fr3 tp3 => ?_
    rw [List.length_append] at hn
    exact q n zs S3 (by omega) hz hzl (fun e he => (az e he).elim (ax e) fun h => by rw [List.mem_singleton] at h; subst h; exact hd)
      (fun e he => (az e he).elim (ak e) fun h => by rw [List.mem_singleton] at h; subst h; exact hk hsm) ((((fr1.app _).trans fr2).app _).trans fr3) tp3
  · rintro S' ⟨rfl, hx0⟩
    have hx0 := hx0 rfl
    generalize hU : S1 ++ [MO.lst []] = U
    have hUl : U.length = S1.length + 1 := by rw [← hU]; simp
    have tpU : Tp U := by rw [← hU]; exact tp1.app _
    have frU : Fr S U := by rw [← hU]; exact fr1.app _
    have htU : U[t]? = some (.lst (ts.map D.int)) := by rw [← hU]; exact get_app ht1
    have haU : U[a]? = some (.lst xs) := by rw [← hU]; exact get_app ha1
    clear hU
    walk_at "r"
    refine draw_ok (tpU.app _) (by omega) fun r S2 fr2 tp2 r0 r1 => ?_
    have hr9 : r.toNat < xs.length := by omega
    obtain ⟨i, j, w, ed, g1, g2, g3, g4⟩ := ax _ (List.getElem_mem hr9)
    obtain ⟨i', j', w', x, y, ed', k1, k2, k3⟩ := ak _ (List.getElem_mem hr9)
    rw [ed] at ed'
    injection ed' with ed'
    injection ed' with e1 ed'
    injection ed' with e2 ed'
    injection ed' with e3 ed'
    injection e1 with e1
    injection e2 with e2
    injection e3 with e3
    subst e1 e2 e3
    have sx := hsm _ (atI_mem k1)
    have sy := hsm _ (atI_mem k2)
    have ex : L2.atI xs r = some (.tup [.int i, .int j, .int w]) := by rw [← ed]; exact atI_int r0 (List.getElem?_eq_getElem hr9)
    have hx2 : S2[U.length]? = some (.lst xs) := fr2.get (by omega) get_new
    have ht2 : S2[t]? = some (.lst (ts.map D.int)) := fr2.get h2 (get_app htU)
    have hS2 := fr2.len
    rw [List.length_append] at hS2
    walk_at "r"
    refine ix_ref hx2 ex ?_
    refine ⟨_, rfl, ?_⟩
    walk_at "r"
    have setA : ∀ d, arcOk m d → ∀ e ∈ xs.set r.toNat d, arcOk m e := fun d hd e he => by
      rcases List.mem_or_eq_of_mem_set he with he | rfl
      · exact ax e he
      · exact hd
    have setK : ∀ d, keepsD ts d → ∀ e ∈ xs.set r.toNat d, keepsD ts e := fun d hd e he => by
      rcases List.mem_or_eq_of_mem_set he with he | rfl
      · exact ak e he
      · exact hd
    refine ss_cons ?_
    walk_at "r"
    refine if_d (fun h => ?_) (fun h => ?_)
    · walk_at "r"
      refine ⟨lstD_lst hx2, ?_⟩
      walk_at "r"
      refine m_popI hx2 (by omega) (seqIndex_ok r0 (by omega)) (List.getElem?_eq_getElem hr9) ?_
      walk_at "r"
      refine q _ _ _ (by omega) (get_set_self hx2) (by rw [List.length_eraseIdx_of_lt hr9]; omega) (fun d hd => ax d (List.mem_of_mem_eraseIdx hd)) (fun d hd => ak d (List.mem_of_mem_eraseIdx hd)) (((frU.app _).trans fr2).set _ (by omega)) (tp2.set _ (by omega))
    · walk_at "r"
      refine if_d (fun h => ?_) (fun h => ?_)
      · walk_at "r"
        refine draw_ok tp2 (by decide) fun u S3 fr3 tp3 u0 u1 => ?_
        have hx3 := fr3.get (show U.length ≠ 2 by omega) hx2
        have hS3' := fr3.len
        walk_at "r"
        refine st_ix hx3 (ixN_int r0 (by omega)) ?_
        walk_at "r"
        exact q _ _ _ (by omega) (get_set_self hx3) (by rw [List.length_set]; omega) (setA _ ⟨_, _, _, rfl, g1, g2, g3, g4⟩) (setK _ ⟨_, _, _, x, y, rfl, k1, k2, by split <;> omega⟩) ((((frU.app _).trans fr2).trans fr3).set _ (by omega)) (tp3.set _ (by omega))
      · walk_at "r"
        refine ix_ref ht2 (atI_map k2) ?_
        walk_at "r"
        refine ix_ref ht2 (atI_map k1) ?_
        walk_at "r"
        refine st_ix hx2 (ixN_int r0 (by omega)) ?_
        walk_at "r"
        exact q _ _ _ (by omega) (get_set_self hx2) (by rw [List.length_set]; omega) (setA _ ⟨_, _, _, rfl, g1, g2, g3, g4⟩) (setK _ ⟨_, _, _, x, y, rfl, k1, k2, by omega⟩) (((frU.app _).trans fr2).set _ (by omega)) (tp2.set _ (by omega))
theorem closing_all {k : Nat} {S : St} {m u : Int} {t : Nat} {ts : List Int} {Q : QD} (tp : Tp S) (h0 : 0 ≤ m) (h8 : m ≤ 8) (hu : u < 2 ^ 20) (ht : S[t]? = some (.lst (ts.map D.int))) (hl : (ts.length : Int) = m + 1) (h2 : t ≠ 2)
    (hu0 : 0 < u) (hs : smallT ts) (hz : L2.atI ts (-1) = some 0)
    (q : ∀ n xs S', S.length ≤ n → S'[n]? = some (.lst xs) → xs.length = m.toNat → (∀ d ∈ xs, arcOk m d) → (∀ d ∈ xs, keepsD ts d) → (∀ (i : Nat) (x : Int), (i : Int) < m → ts[i]? = some x → ∃ w : Int, D.tup [.int i, .int (-1), .int w] ∈ xs ∧ -x - u < w) → Fr S S' → Tp S' → Q (.ref n) S') : callW T (k + 2) i__law_b_closing [.ref 2, .int m, .ref t, .int u] S Q := by
  refine call_of T__law_b_closing rfl ?_
  dsimp only [f__law_b_closing, b__law_b_closing, startD, List.map, List.length_cons, List.length_nil, Nat.reduceAdd, Nat.reduceSub, List.replicate, List.cons_append, List.nil_append, List.append_nil]
  walk_at "r"
  refine r_one (by omega) ⟨by rw [rgD_len]; unfold sizeLine; omega, ?_⟩
  refine lc_all (callW_mono T _) (fun i acc S' => acc.length = i ∧ (∀ d ∈ acc, arcOk m d) ∧ (∀ d ∈ acc, keepsD ts d) ∧ (∀ (j : Nat) (x : Int), j < i → ts[j]? = some x → ∃ w : Int, D.tup [.int j, .int (-1), .int w] ∈ acc ∧ -x - u < w) ∧ Fr S S' ∧ Tp S') ⟨rfl, (fun _ h => by cases h), (fun _ h => by cases h), (fun j x h => by omega), Fr.refl _, tp⟩ (fun _ _ _ _ => trivial) ?_ ?_
  · rintro i x acc S' hx ⟨hli, ha, hk, hw, fr, tp'⟩
    obtain ⟨hi, rfl⟩ := rgD_get hx
    have ht' : S'[t]? = some (.lst (ts.map D.int)) := fr.get h2 ht
    obtain ⟨y, hy, ey⟩ := atI_ints (is := ts) (r := 0 + (i : Int)) (by omega) (by omega)
    refine ⟨_, rfl, ?_⟩
    walk_at "r"
    refine ix_ref ht' ey ?_
    walk_at "r"
    refine draw_ok tp' (by omega) fun r S2 fr2 tp2 r0 r1 => ?_
    walk_at "r"
    have hyy := hs y hy
    refine ⟨by rw [List.length_append, hli]; rfl, fun d hd => ?_, fun d hd => ?_, fun j z hj hz' => ?_, fr.trans fr2, tp2⟩
    · rw [List.mem_append, List.mem_singleton] at hd
      rcases hd with hd | rfl
      · exact ha d hd
      · exact ⟨_, _, _, rfl, by omega, by omega, by omega, by omega⟩
    · rw [List.mem_append, List.mem_singleton] at hd
      rcases hd with hd | rfl
      · exact hk d hd
      · exact ⟨_, _, _, y, 0, rfl, atI_unmap ey, hz, by split <;> omega⟩
    · rcases Nat.lt_or_ge j i with hji | hji
      · obtain ⟨w, w1, w2⟩ := hw j z hji hz'
        exact ⟨w, List.mem_append_left _ w1, w2⟩
      · have hj' : j = i := by omega
        subst hj'
        have e2 := atI_unmap ey
        rw [atI_int (by omega) (show ts[(0 + (j : Int)).toNat]? = some z by rw [show (0 + (j : Int)).toNat = j by omega]; exact hz')] at e2
        cases e2
        refine ⟨_, List.mem_append_right _ (List.mem_singleton.2 (by rw [show (0 + (j : Int)) = j by omega])), by split <;> omega⟩
  · rintro acc S' ⟨hli, ha, hk, hw, fr, tp'⟩
    rw [rgD_len] at hli
    walk_at "r"
    exact q _ _ _ fr.len get_new (by omega) ha hk (fun i x hi hx => hw i x (by rw [rgD_len]; omega) hx) (fr.app _) (tp'.app _)
theorem closing_ok {k : Nat} {S : St} {m u : Int} {t : Nat} {ts : List Int} {Q : QD} (tp : Tp S) (h0 : 0 ≤ m) (h8 : m ≤ 8) (hu0 : 0 < u) (hu : u < 2 ^ 20) (ht : S[t]? = some (.lst (ts.map D.int))) (hl : (ts.length : Int) = m + 1) (h2 : t ≠ 2)
    (hs : smallT ts) (hz : L2.atI ts (-1) = some 0)
    (q : ∀ n xs S', S.length ≤ n → S'[n]? = some (.lst xs) → xs.length = m.toNat → (∀ d ∈ xs, arcOk m d) → (∀ d ∈ xs, keepsD ts d) → Fr S S' → Tp S' → Q (.ref n) S') : callW T (k + 2) i__law_b_closing [.ref 2, .int m, .ref t, .int u] S Q :=
  closing_all tp h0 h8 hu ht hl h2 hu0 hs hz fun n xs S' h1 h2 h3 h4 h5 _ h6 h7 => q n xs S' h1 h2 h3 h4 h5 h6 h7
theorem b_tops_ok {k : Nat} {S : St} {m a : Nat} {as : List (Int × Int × Int)} {top : Int} {Q : QD} (hm : m ≤ 8) (ht : top < 1000) (ha : S[a]? = some (.lst (as.map arcD))) (ao : ∀ x ∈ as, okA m x)
    (q : ∀ (n : Nat) (us : List Int) (S' : St), S.length ≤ n → us.length = m → S'[n]? = some (.lst (us.map D.int)) → (∀ u ∈ us, u ≤ top) →
      (∀ (k : Nat) (c : Int), k < m → c ≤ top → (∀ a ∈ as, a.2.1 = -1 → a.1 = (k : Int) → c ≤ -a.2.2) → ∃ u, us[k]? = some u ∧ c ≤ u) → Ext S S' → Q (.ref n) S') : callW T (k + 1) i__law_b_tops [.int m, .ref a, .int top] S Q := by
  refine call_of T__law_b_tops rfl ?_
  dsimp only [f__law_b_tops, b__law_b_tops, startD, List.map, List.length_cons, List.length_nil, Nat.reduceAdd, Nat.reduceSub, List.replicate, List.cons_append, List.nil_append, List.append_nil]
  walk_at "r"
  refine b_mulL get_new (by omega) (by simp only [List.length_cons, List.length_nil]; unfold sizeLine; omega) ?_
  have hl : (S ++ [MO.lst [D.int top]]).length = S.length + 1 := by simp
  have e0 : (List.replicate (m : Int).toNat [D.int top]).flatten = (List.replicate m top).map D.int := by
    rw [show ((m : Int)).toNat = m by omega]
    clear hl q ao hm
    induction m with
    | zero => rfl
    | succ n ih => rw [List.replicate_succ, List.flatten_cons, ih, List.replicate_succ]; rfl
  rw [e0, hl]
  walk_at "r"
  refine ⟨_, seqOf_lst (get_app (get_app ha)), ?_⟩
  have hS := lt_of_get ha
  refine for_inv (callW_mono T _) (fun i σ S' => ∃ (us : List Int) (k4 k5 k6 : Option D), σ = [some (.int m), some (.ref a), some (.int top), some (.ref (S.length + 1)), k4, k5, k6] ∧ us.length = m ∧ S'[S.length + 1]? = some (.lst (us.map D.int)) ∧ (∀ u ∈ us, u ≤ top) ∧
      (∀ (k : Nat) (c : Int), k < m → c ≤ top → (∀ a ∈ as.take i, a.2.1 = -1 → a.1 = (k : Int) → c ≤ -a.2.2) → ∃ u, us[k]? = some u ∧ c ≤ u) ∧ Ext S S') ?_ (fun i σ S' h => by obtain ⟨_, _, _, _, _, _, _, _, _, h⟩ := h; exact still_ref (h.get ha)) ?_ ?_
  · refine ⟨List.replicate m top, _, _, _, rfl, by rw [List.length_replicate], get_new' hl.symm, fun u hu => by rw [(List.mem_replicate.1 hu).2]; omega, fun k c hk hc _ => ⟨top, by rw [List.getElem?_replicate, if_pos hk], hc⟩, ((Ext.refl _).app _).app _⟩
  · rintro i x σ S1 hx ⟨us, k4, k5, k6, rfl, hul, hus, hut, huk, e⟩
    obtain ⟨⟨p, pq, w⟩, hx', rfl⟩ := get_of_map hx
    obtain ⟨⟨p0, p1⟩, q0, q1⟩ := ao _ (List.mem_of_getElem? hx')
    dsimp only at p0 p1 q0 q1
    have htk : as.take (i + 1) = as.take i ++ [(p, pq, w)] := by rw [List.take_add_one, hx']; rfl
    rw [htk]
    have same : ¬ (pq = -1 ∧ 0 ≤ p) → (∀ (k : Nat) (c : Int), k < m → c ≤ top → (∀ a ∈ as.take i ++ [(p, pq, w)], a.2.1 = -1 → a.1 = (k : Int) → c ≤ -a.2.2) → ∃ u, us[k]? = some u ∧ c ≤ u) := fun _ k c hk hc hall => huk k c hk hc fun a hm => hall a (List.mem_append_left _ hm)
    refine ⟨_, rfl, ?_⟩
    walk_at "r"
    refine if_d (fun h => ?_) (fun h => ?_)
    · walk_at "r"
      refine if_d (fun h2 => ?_) (fun h2 => ?_)
      · walk_at "r"
        have hp : p.toNat < us.length := by omega
        have ep : L2.atI (us.map D.int) p = some (.int us[p.toNat]) := atI_map (atI_int h2 (List.getElem?_eq_getElem hp))
        refine ix_ref hus ep ?_
        walk_at "r"
        refine st_ix hus (by rw [List.length_map]; exact ixN_int h2 (by omega)) ?_
        walk_at "r"
        refine ⟨us.set p.toNat (if -w < us[p.toNat] then -w else us[p.toNat]), _, _, _, rfl, by rw [List.length_set]; exact hul, ?_, ?_, ?_, e.set _ (by omega)⟩
        · rw [get_set_self hus]; exact congrArg (fun l => some (MO.lst l)) (List.map_set (f := D.int)).symm
        · intro u hu
          rcases List.mem_or_eq_of_mem_set hu with hu | rfl
          · exact hut u hu
          · have := hut _ (List.getElem_mem hp); split <;> omega
        · intro k c hk hc hall
          obtain ⟨u, hu, hcu⟩ := huk k c hk hc fun a hm => hall a (List.mem_append_left _ hm)
          by_cases hkp : k = p.toNat
          · subst hkp
            refine ⟨_, by rw [List.getElem?_set_self hp], ?_⟩
            rw [List.getElem?_eq_getElem hp] at hu
            cases hu
            have := hall (p, pq, w) (by simp) h (by show p = _; omega)
            dsimp only at this
            split <;> omega
          · exact ⟨u, by rw [List.getElem?_set_ne (Ne.symm hkp)]; exact hu, hcu⟩
      · walk_at "r"
        exact ⟨us, _, _, _, rfl, hul, hus, hut, same (fun g => h2 g.2), e⟩
    · walk_at "r"
      exact ⟨us, _, _, _, rfl, hul, hus, hut, same (fun g => h g.1), e⟩
  · rintro σ S1 ⟨us, k4, k5, k6, rfl, hul, hus, hut, huk, e⟩
    rw [List.length_map, List.take_of_length_le (Nat.le_refl _)] at huk
    walk_at "r"
    exact q _ us _ (by omega) hul hus hut huk e
/-- a world's arcs -/
structure Wld (m : Nat) (ts : List Int) (cl : Bool) (as : List (Int × Int × Int)) : Prop where
  ok : ∀ x ∈ as, okA m x
  kp : ∀ d ∈ as.map arcD, keepsD ts d
  len : as.length ≤ 100
  shut : cl = true → ∀ k : Nat, k < m → ∃ w, ((k : Int), ((-1 : Int), w)) ∈ as ∧ -6 ≤ w
theorem keeps_of {ts : List Int} {i j w x y : Int} (h : keepsD ts (arcD (i, j, w))) (hx : L2.atI ts i = some x) (hy : L2.atI ts j = some y) : w ≤ y - x := by
  obtain ⟨i', j', w', x', y', e, h1, h2, h3⟩ := h
  unfold arcD at e
  injection e with e
  injection e with e1 e
  injection e with e2 e
  injection e with e3 e
  injection e1 with e1
  injection e2 with e2
  injection e3 with e3
  dsimp only at e1 e2 e3
  subst e1; subst e2; subst e3
  rw [hx] at h1; rw [hy] at h2
  cases h1; cases h2
  exact h3
theorem shut_some {m : Nat} {as : List (Int × Int × Int)} (hc : calm (m + 1) (lk (m + 1) (m + 1) (netF m as))) (h : ∀ k : Nat, k < m → ∃ w, ((k : Int), ((-1 : Int), w)) ∈ as ∧ -6 ≤ w) :
    ∀ i k, i < m + 1 → k < m + 1 → ∃ x, lk (m + 1) (m + 1) (netF m as) i k = some x := by
  obtain ⟨cl, z⟩ := calm_closed (netF_dgood m as) hc
  have hm : ∀ k, k < m + 1 → ∃ x, lk (m + 1) (m + 1) (netF m as) m k = some x := fun k hk => by
    by_cases e : k = m
    · subst e; exact ⟨_, z k hk⟩
    · exact netF_last as (by omega)
  have hi : ∀ i, i < m + 1 → ∃ x, lk (m + 1) (m + 1) (netF m as) i m = some x := fun i hi => by
    by_cases e : i = m
    · subst e; exact ⟨_, z i hi⟩
    · obtain ⟨w, hw, -⟩ := h i (by omega)
      have h1 := arcs_mem (f := ini m (m + 1)) (as.map (natA (m + 1))) (ini m (m + 1)) (natA (m + 1) ((i : Int), ((-1 : Int), w))) (List.mem_map_of_mem hw)
      have h2 := ole_trans h1 (lk_le (m + 1) (m + 1) (netF m as) _ _)
      have e1 : (natA (m + 1) ((i : Int), ((-1 : Int), w))).1 = i := by show pyI (m + 1) (i : Int) = i; unfold pyI; rw [if_pos (by omega)]; omega
      have e2 : (natA (m + 1) ((i : Int), ((-1 : Int), w))).2.1 = m := by show pyI (m + 1) (-1 : Int) = m; unfold pyI; rw [if_neg (by omega)]; omega
      rw [e1, e2] at h2
      cases e3 : lk (m + 1) (m + 1) (netF m as) i m with
      | none => rw [e3] at h2; exact h2.elim
      | some x => exact ⟨x, rfl⟩
  intro i k hi' hk'
  obtain ⟨x, ex⟩ := hi i hi'
  obtain ⟨y, ey⟩ := hm k hk'
  have := cl m i k (by omega) hi' hk'
  rw [ex, ey] at this
  cases e : lk (m + 1) (m + 1) (netF m as) i k with
  | none => rw [e] at this; exact this.elim
  | some x => exact ⟨x, rfl⟩
theorem walk_sch {m : Nat} {as : List (Int × Int × Int)} {us : List Int} (ao : ∀ a ∈ as, okA m a) (h0 : ∀ a ∈ as, max a.1 a.2.1 < 0 → a.2.2 ≤ 0) (hul : us.length = m)
    (hu : ∀ (k : Nat) (c : Int), k < m → c ≤ 6 → (∀ a ∈ as, a.2.1 = -1 → a.1 = (k : Int) → c ≤ -a.2.2) → ∃ u, us[k]? = some u ∧ c ≤ u)
    (hs : ∀ k : Nat, k < m → ∃ w, ((k : Int), ((-1 : Int), w)) ∈ as ∧ -6 ≤ w) (v : List Int) : v ∈ walkF us as m ↔ Sch m as v := by
  rw [walkF_mem]
  constructor
  · rintro ⟨h1, h2, h3⟩
    refine ⟨h1, fun x hx => ?_, fun a ha => ?_⟩
    · obtain ⟨i, hi, rfl⟩ := List.getElem_of_mem hx
      exact (h2 i _ (List.getElem?_eq_getElem hi)).1
    · obtain ⟨⟨i0, i1⟩, j0, j1⟩ := ao a ha
      by_cases hm : max a.1 a.2.1 < 0
      · have := h0 a ha hm
        unfold val
        rw [if_pos (by omega), if_pos (by omega)]
        omega
      · have := h3 a ha (by omega) (by omega)
        unfold keptV at this
        exact of_decide_eq_true this
  · intro h
    refine ⟨h.len, fun i x hx => ?_, fun a ha _ _ => by unfold keptV; exact decide_eq_true (h.kept a ha)⟩
    have him : i < m := by rw [← h.len]; exact (List.getElem?_eq_some_iff.1 hx).1
    have hv : val v (i : Int) = x := by unfold val; rw [if_neg (by omega), show ((i : Int)).toNat = i by omega, hx]; rfl
    have hto : ∀ a ∈ as, a.2.1 = -1 → a.1 = (i : Int) → x ≤ -a.2.2 := fun a ha e1 e2 => by
      have := h.kept a ha
      rw [e1, e2, hv, show val v (-1) = 0 from rfl] at this
      omega
    obtain ⟨w, hw, hw6⟩ := hs i him
    have := hto _ hw rfl rfl
    dsimp only at this
    obtain ⟨u, e, hu⟩ := hu i x him (by omega) hto
    refine ⟨h.nn x (List.mem_of_getElem? hx), ?_⟩
    rw [e]
    exact hu
/-- what a walk found -/
def WkS (S : St) (m : Nat) (as : List (Int × Int × Int)) (f : Nat) : Prop := 3 ≤ f ∧ ∃ fs : List (List Int), S[f]? = some (.lst (fs.map tupV)) ∧ fs.length < 1000 ∧ ∀ v, v ∈ fs ↔ Sch m as v
theorem WkS.fr {S S' : St} {m : Nat} {as : List (Int × Int × Int)} {f : Nat} (h : WkS S m as f) (e : Fr S S') : WkS S' m as f := by
  obtain ⟨h1, fs, h2, h3⟩ := h
  exact ⟨h1, fs, e.get (by omega) h2, h3⟩
theorem tops_walk {k : Nat} {S : St} {m p : Nat} {ts : List Int} {ps : List (Int × Int × Int)} {Q : QD} (tp : Tp S) (hm : m ≤ 3) (W : Wld m ts true ps) (htl : ts.length = m + 1) (hsm : smallT ts) (hz : L2.atI ts (-1) = some 0) (ht4 : ∀ x ∈ ts, x ≤ 4)
    (hps : S[p]? = some (.lst (ps.map arcD))) (q : ∀ f S', WkS S' m ps f → Ext S S' → Q (.ref f) S') :
    callW T (k + 1) i__law_b_tops [.int m, .ref p, .int 6] S fun x S1 => callW T (k + 1) i__law_net_walk [.int m, .ref p, x] S1 Q := by
  have hS := tp.len
  refine b_tops_ok (by omega) (by decide) hps W.ok fun t' us S8 ht' hul hus hu6 hu e8 => ?_
  have hneg : ∀ a ∈ ps, max a.1 a.2.1 < 0 → a.2.2 ≤ 0 := fun a ha h => by
    obtain ⟨x1, x2, x3⟩ := a
    have ok := W.ok _ ha
    unfold okA at ok
    dsimp only at h ok
    have e1 : x1 = -1 := by omega
    have e2 : x2 = -1 := by omega
    subst e1; subst e2
    have := keeps_of (W.kp _ (List.mem_map_of_mem ha)) hz hz
    show x3 ≤ 0
    omega
  have hto : ∀ (k : Nat), k < m → ∀ x, ts[k]? = some x → ∀ a ∈ ps, a.2.1 = -1 → a.1 = (k : Int) → x ≤ -a.2.2 := fun k hk x hx a ha e1 e2 => by
    obtain ⟨x1, x2, x3⟩ := a
    dsimp only at e1 e2
    subst e1; subst e2
    have := keeps_of (W.kp _ (List.mem_map_of_mem ha)) (atI_int (by omega) (by rw [show ((k : Int)).toNat = k by omega]; exact hx)) hz
    show x ≤ -x3
    omega
  refine net_walk_ok hm (e8.get hps) W.ok (by have := W.len; omega) hus hul (fun u hu => hu6 u hu) (fun u hu' => ?_) hneg fun f S9 hf hfs e9 => ?_
  · obtain ⟨k, hk, rfl⟩ := List.getElem_of_mem hu'
    have hkl : k < ts.length := by omega
    have h4 := ht4 _ (List.getElem_mem hkl)
    have h5 := hsm _ (List.getElem_mem hkl)
    obtain ⟨u, e, hu⟩ := hu k ts[k] (by omega) (by omega) (hto k (by omega) _ (List.getElem?_eq_getElem hkl))
    rw [List.getElem?_eq_getElem hk] at e
    cases e
    omega
  · have h7 := walkF_len (us := us) (as := ps) (fun u hu => hu6 u hu) m
    have h73 : 7 ^ m ≤ 7 ^ 3 := Nat.pow_le_pow_right (by decide) hm
    have := e8.len
    exact q _ _ ⟨by omega, walkF us ps m, hfs, by omega, fun v => walk_sch W.ok hneg hul hu (W.shut rfl) v⟩ (e8.trans e9)
theorem k13_covers_ok {k : Nat} {S : St} {m r b r' b' : Nat} {G1 G2 : F} {Q : QD} (hm : m ≤ 8) (R1 : Rws S r b (m + 1) G1) (R2 : Rws S r' b' (m + 1) G2)
    (q : ∀ b, (b = true ↔ ∀ i j, i < m + 1 → j < m + 1 → ole (G1 i j) (G2 i j)) → Q (.bl b) S) : callW T (k + 1) i__law_k13_covers [.ref r, .ref r'] S Q := by
  refine call_of T__law_k13_covers rfl ?_
  dsimp only [f__law_k13_covers, b__law_k13_covers, startD, List.map, List.length_cons, List.length_nil, Nat.reduceAdd, Nat.reduceSub, List.replicate, List.cons_append, List.nil_append, List.append_nil]
  have ht1 := R1.top
  walk_at "q"
  rw [refsD_len]
  refine r_one (by omega) ?_
  refine for_inv (callW_mono T _) (fun c σ S' => S' = S ∧ (∀ i j, i < c → j < m + 1 → ole (G1 i j) (G2 i j)) ∧ ∃ k2 k3, σ = [some (.ref r), some (.ref r'), k2, k3])
    ⟨rfl, fun i j h => absurd h (Nat.not_lt_zero _), _, _, rfl⟩ (fun _ _ _ _ => trivial) ?_ ?_
  · rintro c x σ S' hx ⟨rfl, hc, k2, k3, rfl⟩
    obtain ⟨hcn, rfl⟩ := rgD_get hx
    have hcn : c < m + 1 := by omega
    refine ⟨_, rfl, ?_⟩
    walk_at "q"
    rw [refsD_len]
    refine r_one (by omega) ?_
    refine for_inv (callW_mono T _) (fun a σ S2 => S2 = S' ∧ (∀ j, j < a → ole (G1 c j) (G2 c j)) ∧ ∃ k3, σ = [some (.ref r), some (.ref r'), some (.int (0 + (c : Int))), k3])
      ⟨rfl, fun j h => absurd h (Nat.not_lt_zero _), _, rfl⟩ (fun _ _ _ _ => trivial) ?_ ?_
    · rintro a x σ S2 hx ⟨rfl, ha, k3, rfl⟩
      obtain ⟨han, rfl⟩ := rgD_get hx
      have han : a < m + 1 := by omega
      refine ⟨_, rfl, ?_⟩
      have pc : pyI (m + 1) (0 + (c : Int)) = c := by unfold pyI; rw [if_pos (by omega)]; omega
      have pa : pyI (m + 1) (0 + (a : Int)) = a := by unfold pyI; rw [if_pos (by omega)]; omega
      have go : ole (G1 c a) (G2 c a) → ∀ j, j < a + 1 → ole (G1 c j) (G2 c j) := fun h j hj => by
        by_cases e : j = a
        · subst e; exact h
        · exact ha j (by omega)
      have no : ¬ ole (G1 c a) (G2 c a) → Q (.bl false) S2 := fun h => q _ ⟨(fun e => by cases e), (fun e => absurd (e c a hcn han) h)⟩
      have g1 : ∀ Q' : QD, Q' (oD (G1 c a)) S2 → ixW (.ref (b + 2 * pyI (m + 1) (0 + (c : Int)))) (.int (0 + (a : Int))) S2 Q' := fun Q' h => by
        rw [pc]
        refine ix_ref (R1.row c hcn) (rowD_py (by omega) (by omega)) ?_
        rw [pa]; exact h
      have g2 : ∀ Q' : QD, Q' (oD (G2 c a)) S2 → ixW (.ref (b' + 2 * pyI (m + 1) (0 + (c : Int)))) (.int (0 + (a : Int))) S2 Q' := fun Q' h => by
        rw [pc]
        refine ix_ref (R2.row c hcn) (rowD_py (by omega) (by omega)) ?_
        rw [pa]; exact h
      walk_at "q"
      refine ix_ref R1.top (refsD_at (by omega) (by omega)) ?_
      walk_at "q"
      refine g1 _ ?_
      cases e1 : G1 c a with
      | none =>
        rw [e1] at go
        dsimp only [oD]
        walk_at "q"
        exact ⟨rfl, go trivial, _, rfl⟩
      | some w =>
        dsimp only [oD]
        walk_at "q"
        refine ix_ref R2.top (refsD_at (by omega) (by omega)) ?_
        walk_at "q"
        refine g2 _ ?_
        cases e2 : G2 c a with
        | none =>
          rw [e1, e2] at no
          dsimp only [oD]
          walk_at "q"
          exact no fun h => h
        | some b =>
          rw [e1, e2] at no go
          dsimp only [oD]
          walk_at "q"
          refine ix_ref R2.top (refsD_at (by omega) (by omega)) ?_
          walk_at "q"
          refine g2 _ ?_
          rw [e2]
          dsimp only [oD]
          walk_at "q"
          refine ix_ref R1.top (refsD_at (by omega) (by omega)) ?_
          walk_at "q"
          refine g1 _ ?_
          rw [e1]
          dsimp only [oD]
          walk_at "q"
          refine if_d (fun h => ?_) (fun h => ?_)
          · walk_at "q"
            exact no fun g => by have g : w ≤ b := g; omega
          · walk_at "q"
            exact ⟨rfl, go (by show w ≤ b; omega), _, rfl⟩
    · rintro σ S2 ⟨rfl, ha, k3, rfl⟩
      rw [rgD_len] at ha
      refine ⟨rfl, fun i j hi hj => ?_, _, _, rfl⟩
      by_cases e : i = c
      · subst e; exact ha j (by omega)
      · exact hc i j (by omega) hj
  · rintro σ S' ⟨rfl, hc, k2, k3, rfl⟩
    rw [rgD_len] at hc
    walk_at "q"
    exact q _ ⟨fun _ i j hi hj => hc i j (by omega) hj, fun _ => rfl⟩
theorem kept_iff {m : Nat} {as : List (Int × Int × Int)} {v : List Int} (ao : ∀ a ∈ as, okA m a) (hl : v.length = m) : Kept v as ↔ Sch m as v := by
  constructor
  · rintro ⟨h1, h2⟩
    refine ⟨hl, h1, fun a ha => ?_⟩
    obtain ⟨⟨i0, i1⟩, j0, j1⟩ := ao a ha
    have := h2 a ha _ _ (atI_unmap (val_at0 i0 (by omega))) (atI_unmap (val_at0 j0 (by omega)))
    omega
  · intro h
    refine ⟨h.nn, fun a ha x y hx hy => ?_⟩
    obtain ⟨⟨i0, i1⟩, j0, j1⟩ := ao a ha
    rw [atI_unmap (val_at0 i0 (by omega))] at hx
    rw [atI_unmap (val_at0 j0 (by omega))] at hy
    cases hx; cases hy
    have := h.kept a ha
    omega
theorem k13_parted_ok {k : Nat} {S : St} {m n rr a0 a1 r0 b0 r1 b1 : Nat} {as bs : List (Int × Int × Int)} {Q : QD} (hm : m ≤ 8) (ao : ∀ a ∈ as, okA m a) (bo : ∀ a ∈ bs, okA m a)
    (hca : calm (m + 1) (lk (m + 1) (m + 1) (netF m as))) (hcb : calm (m + 1) (lk (m + 1) (m + 1) (netF m bs))) (hn : S[n]? = some (.lst [.ref a0, .ref a1])) (hr : S[rr]? = some (.lst [.ref r0, .ref r1]))
    (ha0 : S[a0]? = some (.lst (as.map arcD))) (ha1 : S[a1]? = some (.lst (bs.map arcD))) (R0 : Rws S r0 b0 (m + 1) (lk (m + 1) (m + 1) (netF m as))) (R1 : Rws S r1 b1 (m + 1) (lk (m + 1) (m + 1) (netF m bs)))
    (q : ∀ S', Ext S S' → Q (.bl true) S') : callW T (k + 10) i__law_k13_parted [.int m, .ref n, .ref rr] S Q := by
  refine call_of T__law_k13_parted rfl ?_
  dsimp only [f__law_k13_parted, b__law_k13_parted, startD, List.map, List.length_cons, List.length_nil, Nat.reduceAdd, Nat.reduceSub, List.replicate, List.cons_append, List.nil_append, List.append_nil]
  walk_at "r"
  refine nt_some (by omega) R0.tab fun S1 e1 => ?_
  walk_at "r"
  refine nt_some (by omega) (R1.ext e1).tab fun S2 e2 => ?_
  have e02 := e1.trans e2
  walk_at "r"
  refine parting_ok (k := k + 3) hm (fun ha => ?_) (fun i j hF S3 e3 => ?_)
  · walk_at "q"
    refine net_parting_ok (k := k + 6) hm (R0.ext e02) (R1.ext e02) (fun _ => ?_) (fun i j hF => absurd (ha _ _ (pyI_lt (by have := hF.i0; omega) (by have := hF.i1; omega)) (pyI_lt (by have := hF.j0; omega) (by have := hF.j1; omega))) hF.ne)
    walk_at "r"
    refine same_ok _ .non _ _ (non_pl _) ?_
    walk_at "r"
    refine c_eq ((R0.ext e02).eqB (R1.ext e02) ha) ?_
    exact q _ e02
  · have told : ∃ (s : Int) (v : List Int), prtD m (lk (m + 1) (m + 1) (netF m as)) (lk (m + 1) (m + 1) (netF m bs)) i j = .tup [.int s, .tup (v.map .int)] ∧ v.length = m ∧
        ((s = 0 ∧ Sch m as v ∧ ¬ Sch m bs v) ∨ (s = 1 ∧ Sch m bs v ∧ ¬ Sch m as v)) := by
      unfold prtD
      by_cases hL : isL (lk (m + 1) (m + 1) (netF m as) (pyI (m + 1) i) (pyI (m + 1) j)) (lk (m + 1) (m + 1) (netF m bs) (pyI (m + 1) i) (pyI (m + 1) j)) = true
      · rw [if_pos hL]
        obtain ⟨v, e, h1, h2⟩ := told_at ao bo hca hF.i0 hF.i1 hF.j0 hF.j1 hL hF.ne
        exact ⟨0, v, by rw [e], h1.len, Or.inl ⟨rfl, h1, h2⟩⟩
      · rw [if_neg hL]
        have hL' : isL (lk (m + 1) (m + 1) (netF m bs) (pyI (m + 1) i) (pyI (m + 1) j)) (lk (m + 1) (m + 1) (netF m as) (pyI (m + 1) i) (pyI (m + 1) j)) = true := by
          have hne := hF.ne
          generalize lk (m + 1) (m + 1) (netF m as) (pyI (m + 1) i) (pyI (m + 1) j) = x at *
          generalize lk (m + 1) (m + 1) (netF m bs) (pyI (m + 1) i) (pyI (m + 1) j) = y at *
          cases x with
          | none => exact absurd rfl hL
          | some x =>
            cases y with
            | none => rfl
            | some y =>
              have hL : ¬ x < y := fun h => hL (decide_eq_true h)
              have : x ≠ y := fun h => hne (by rw [h])
              exact decide_eq_true (by omega)
        obtain ⟨v, e, h1, h2⟩ := told_at bo ao hcb hF.i0 hF.i1 hF.j0 hF.j1 hL' hF.ne.symm
        exact ⟨1, v, by rw [e], h1.len, Or.inr ⟨rfl, h1, h2⟩⟩
    obtain ⟨s, v, hD, hvl, hs⟩ := told
    rw [hD]
    have e03 := e02.trans e3
    walk_at "r"
    refine net_parting_ok (k := k + 6) hm (R0.ext e03) (R1.ext e03) (fun ha => absurd (ha _ _ (pyI_lt (by have := hF.i0; omega) (by have := hF.i1; omega)) (pyI_lt (by have := hF.j0; omega) (by have := hF.j1; omega))) hF.ne) (fun i' j' hF' S4 e4 => ?_)
    obtain ⟨rfl, rfl⟩ := hF.uniq hF'
    rw [hD]
    have e04 := e03.trans e4
    walk_at "r"
    refine same_ok _ _ _ _ (show plD (k + 8) (.tup [.int s, .tup (v.map .int)]) from ⟨by simp only [List.length_cons, List.length_nil]; decide, fun d hd => ?_⟩) ?_
    · simp only [List.mem_cons, List.not_mem_nil, or_false] at hd
      rcases hd with rfl | rfl
      · exact int_pl _ _
      · exact ints_pl _ (by omega)
    walk_at "r"
    have pick : ∃ (x y : Nat) (ps os : List (Int × Int × Int)), L2.atI [D.ref a0, D.ref a1] s = some (.ref x) ∧ L2.atI [D.ref a0, D.ref a1] (1 - s) = some (.ref y) ∧ S[x]? = some (.lst (ps.map arcD)) ∧ S[y]? = some (.lst (os.map arcD)) ∧
        (∀ a ∈ ps, okA m a) ∧ (∀ a ∈ os, okA m a) ∧ Sch m ps v ∧ ¬ Sch m os v := by
      rcases hs with ⟨rfl, h1, h2⟩ | ⟨rfl, h1, h2⟩
      · exact ⟨a0, a1, as, bs, rfl, rfl, ha0, ha1, ao, bo, h1, h2⟩
      · exact ⟨a1, a0, bs, as, rfl, rfl, ha1, ha0, bo, ao, h1, h2⟩
    obtain ⟨x, y, ps, os, px, py, hx, hy, po, oo, h1, h2⟩ := pick
    refine ix_ref (e04.get hn) px ?_
    walk_at "r"
    refine kept_ok hm hvl (e04.get hx) po fun t1 ht1 => ?_
    rw [kept_iff po hvl] at ht1
    have ht1 := ht1.2 h1
    subst ht1
    walk_at "r"
    refine ix_ref (e04.get hn) py ?_
    walk_at "r"
    refine kept_ok hm hvl (e04.get hy) oo fun t2 ht2 => ?_
    rw [kept_iff oo hvl] at ht2
    have ht2 : t2 = false := by
      cases t2 with
      | false => rfl
      | true => exact absurd (ht2.1 rfl) h2
    subst ht2
    walk_at "r"
    exact q _ e04
theorem k13_pair_ok {k : Nat} {S : St} {m n rr a0 a1 r0 b0 r1 b1 : Nat} {as bs : List (Int × Int × Int)} {d : D} {Q : QD} (tp : Tp S) (hm : m ≤ 8) (n3 : 3 ≤ n) (rr3 : 3 ≤ rr) (a03 : 3 ≤ a0) (a13 : 3 ≤ a1) (r03 : 3 ≤ r0) (b03 : 3 ≤ b0) (r13 : 3 ≤ r1) (b13 : 3 ≤ b1)
    (ao : ∀ a ∈ as, okA m a) (bo : ∀ a ∈ bs, okA m a)
    (hca : calm (m + 1) (lk (m + 1) (m + 1) (netF m as))) (hcb : calm (m + 1) (lk (m + 1) (m + 1) (netF m bs))) (hn : S[n]? = some (.lst [.ref a0, .ref a1])) (hr : S[rr]? = some (.lst [.ref r0, .ref r1]))
    (ha0 : S[a0]? = some (.lst (as.map arcD))) (ha1 : S[a1]? = some (.lst (bs.map arcD))) (R0 : Rws S r0 b0 (m + 1) (lk (m + 1) (m + 1) (netF m as))) (R1 : Rws S r1 b1 (m + 1) (lk (m + 1) (m + 1) (netF m bs)))
    (hd : d = .non ∨ ∃ (p f : Nat) (f0 : D), d = .ref p ∧ 3 ≤ p ∧ S[p]? = some (.lst [f0, .ref f]) ∧ WkS S m bs f ∧ ∀ i k, i < m + 1 → k < m + 1 → ∃ x, lk (m + 1) (m + 1) (netF m bs) i k = some x)
    (q : ∀ S', Fr S S' → Tp S' → Q (.bl true) S') : callW T (k + 70) i__law_k13_pair [.ref 2, .int m, .ref n, .ref rr, d] S Q := by
  refine call_of T__law_k13_pair rfl ?_
  dsimp only [f__law_k13_pair, b__law_k13_pair, startD, List.map, List.length_cons, List.length_nil, Nat.reduceAdd, Nat.reduceSub, List.replicate, List.cons_append, List.nil_append, List.append_nil]
  walk_at "q"
  refine turns_ok tp (by decide) (by decide) fun nn ks S1 hnn hks hki fr1 tp1 => ?_
  have hS := tp.len
  walk_at "q"
  refine ⟨_, seqOf_lst hks, ?_⟩
  refine for_inv (callW_mono T _) (fun c σ S' => ∃ k5 k6 k7, σ = [some (.ref 2), some (.int m), some (.ref n), some (.ref rr), some d, k5, k6, k7] ∧ Fr S1 S' ∧ Tp S')
    ⟨_, _, _, rfl, Fr.refl _, tp1⟩ (fun i σ S' h => by obtain ⟨_, _, _, _, h, _⟩ := h; exact still_ref (h.get (by omega) hks)) ?_ ?_
  · rintro c x σ S2 hx ⟨k5, k6, k7, rfl, fr2, tp2⟩
    obtain ⟨t, rfl, t0, t1⟩ := hki _ (List.mem_of_getElem? hx)
    have fr := fr1.trans fr2
    have hn2 := fr.get (by omega) hn
    have hr2 := fr.get (by omega) hr
    have ha02 := fr.get (show a0 ≠ 2 by omega) ha0
    have ha12 := fr.get (show a1 ≠ 2 by omega) ha1
    have R02 := R0.fr r03 b03 fr
    have R12 := R1.fr r13 b13 fr
    refine ⟨_, rfl, ?_⟩
    have ht : t = 0 ∨ t = 1 ∨ t = 2 := by omega
    rcases ht with rfl | rfl | rfl
    · walk_at "r"
      refine k13_parted_ok (k := k + 59) hm ao bo hca hcb hn2 hr2 ha02 ha12 R02 R12 fun S3 e3 => ?_
      walk_at "R"
      exact ⟨_, _, _, rfl, fr2.trans e3.fr, tp2.ext e3⟩
    · walk_at "R"
      refine k13_covers_ok (k := k + 68) hm R02 R12 fun b hb => ?_
      rcases hd with rfl | ⟨p, f, f0, rfl, p3, hp, hW, hs⟩
      · walk_at "R"
        refine nt_some (by omega) R02.tab fun S3 e3 => ?_
        walk_at "R"
        refine nt_some (by omega) (R12.ext e3).tab fun S4 e4 => ?_
        walk_at "R"
        refine covers_ok (k := k + 68) hm fun b' hb' => ?_
        have : b' = b := by
          have := hb'.trans hb.symm
          cases b <;> cases b' <;> simp at this <;> rfl
        subst this
        walk_at "R"
        refine same_ok _ _ _ _ (bl_pl _ _) ?_
        walk_at "R"
        exact ⟨_, _, _, rfl, fr2.trans (e3.trans e4).fr, tp2.ext (e3.trans e4)⟩
      · have hp2 := fr.get (by omega) hp
        obtain ⟨f3, fs, hf, hfl, hmem⟩ := hW.fr fr
        walk_at "R"
        refine ⟨_, seqOf_lst hf, by rw [List.length_map]; unfold sizeLine; omega, ?_⟩
        refine lc_filtE (callW_mono T _) tupV tupV (fun v => !(@decide (Sch m as v) (Classical.propDecidable _))) (fun S' e' => still_ref (e'.get hf)) ?_ ?_
        · intro v hv S3 e3
          have hl := ((hmem v).1 hv).len
          refine ⟨_, rfl, ?_, fun _ S4 _ => ?_⟩
          · unfold tupV
            walk_at "R"
            refine kept_ok hm hl (e3.get ha02) ao fun t1 ht1 => ?_
            rw [kept_iff ao hl] at ht1
            walk_at "R"
            refine ⟨?_, Ext.refl _⟩
            congr 1
            cases t1 with
            | false => exact (@decide_eq_false _ (Classical.propDecidable _) fun h => by cases ht1.2 h).symm
            | true => exact (@decide_eq_true _ (Classical.propDecidable _) (ht1.1 rfl)).symm
          · walk_at "R"
            exact ⟨rfl, Ext.refl _⟩
        · intro S3 e3
          have hfl2 := List.length_filter_le (fun v => !(@decide (Sch m as v) (Classical.propDecidable _))) fs
          have hfm : ∀ v, v ∈ fs.filter (fun v => !(@decide (Sch m as v) (Classical.propDecidable _))) ↔ v ∈ fs ∧ ¬ Sch m as v := fun v => by
            rw [List.mem_filter]
            refine and_congr Iff.rfl ?_
            rw [Bool.not_eq_true']
            exact ⟨fun h => @of_decide_eq_false _ (Classical.propDecidable _) h, fun h => @decide_eq_false _ (Classical.propDecidable _) h⟩
          generalize fs.filter (fun v => !(@decide (Sch m as v) (Classical.propDecidable _))) = out at *
          walk_at "R"
          refine c_eq (eqB_nilL (xs := out.map tupV) (get_app get_new) get_new (fun d hd => by
            obtain ⟨v, hv, rfl⟩ := List.mem_map.1 hd
            have := ((hmem v).1 ((hfm v).1 hv).1).len
            refine ⟨by rw [List.length_map]; omega, fun d hd => ?_⟩
            obtain ⟨x, -, rfl⟩ := List.mem_map.1 hd; exact trivial)) ?_
          have eU : Ext S2 (S3 ++ [MO.lst (out.map tupV)] ++ [MO.lst []]) := (e3.app _).app _
          generalize S3 ++ [MO.lst (out.map tupV)] ++ [MO.lst []] = U at *
          have hbo : (out.map tupV).isEmpty = b := by
            rw [List.isEmpty_map]
            have := cover_sch ao bo hcb hs
            rw [← this] at hb
            cases b with
            | true =>
              rw [List.isEmpty_iff]
              apply List.eq_nil_iff_forall_not_mem.2
              intro v hv
              have := (hfm v).1 hv
              exact this.2 (hb.1 rfl v ((hmem v).1 this.1))
            | false =>
              cases out with
              | cons a o => rfl
              | nil =>
                have : ∀ v, Sch m bs v → Sch m as v := fun v hv => Classical.byContradiction fun h => by
                  have := (hfm v).2 ⟨(hmem v).2 hv, h⟩
                  cases this
                cases hb.2 this
          rw [hbo]
          walk_at "R"
          refine nt_some (by omega) (R02.ext eU).tab fun S4 e4 => ?_
          walk_at "R"
          refine nt_some (by omega) ((R12.ext eU).ext e4).tab fun S5 e5 => ?_
          walk_at "R"
          refine covers_ok (k := k + 68) hm fun b' hb' => ?_
          have : b' = b := by
            have := hb'.trans hb.symm
            cases b <;> cases b' <;> simp at this <;> rfl
          subst this
          walk_at "R"
          refine same_ok _ _ _ _ (bl_pl _ _) ?_
          walk_at "R"
          exact ⟨_, _, _, rfl, fr2.trans ((eU.trans e4).trans e5).fr, tp2.ext ((eU.trans e4).trans e5)⟩
    · walk_at "R"
      refine nt_some (by omega) R02.tab fun S3 e3 => ?_
      walk_at "R"
      refine core_of_ok (k := k + 66) hm (gdT hca) fun S4 e4 => ?_
      walk_at "R"
      refine net_core_ok (k := k + 67) hm (gdT hca) ((R02.ext e3).ext e4) fun S5 e5 => ?_
      walk_at "R"
      refine same_ok _ _ _ _ (core_pl (k + 66) hm _) ?_
      walk_at "R"
      exact ⟨_, _, _, rfl, fr2.trans ((e3.trans e4).trans e5).fr, tp2.ext ((e3.trans e4).trans e5)⟩
  · rintro σ S2 ⟨k5, k6, k7, rfl, fr2, tp2⟩
    walk_at "R"
    exact q _ (fr1.trans fr2) tp2
theorem k13_implied_ok {k : Nat} {S : St} {m a r b : Nat} {ts : List Int} {as : List (Int × Int × Int)} {Q : QD} (tp : Tp S) (hm : m ≤ 8) (a3 : 3 ≤ a) (r3 : 3 ≤ r) (b3 : 3 ≤ b) (htl : ts.length = m + 1) (hsm : smallT ts) (hz : L2.atI ts (-1) = some 0)
    (ha : S[a]? = some (.lst (as.map arcD))) (ao : ∀ x ∈ as, okA m x) (ak : ∀ d ∈ as.map arcD, keepsD ts d) (hl : as.length < 500) (R : Rws S r b (m + 1) (lk (m + 1) (m + 1) (netF m as)))
    (q : ∀ n zs S', S.length ≤ n → S'[n]? = some (.lst zs) → zs.length ≤ as.length + 3 → (∀ d ∈ zs, arcOk m d) → (∀ d ∈ zs, keepsD ts d) → Fr S S' → Tp S' → Q (.ref n) S') : callW T (k + 4) i__law_k13_implied [.ref 2, .int m, .ref a, .ref r] S Q := by
  refine call_of T__law_k13_implied rfl ?_
  dsimp only [f__law_k13_implied, b__law_k13_implied, startD, List.map, List.length_cons, List.length_nil, Nat.reduceAdd, Nat.reduceSub, List.replicate, List.cons_append, List.nil_append, List.append_nil]
  have hS := tp.len
  walk_at "q"
  refine r_one (by omega) ?_
  refine for_inv (callW_mono T _) (fun c σ S' => ∃ xs k5 k6 k7, σ = [some (.ref 2), some (.int m), some (.ref a), some (.ref r), some (.ref S.length), k5, k6, k7] ∧ S'[S.length]? = some (.lst xs) ∧ xs.length ≤ c ∧ (∀ d ∈ xs, arcOk m d) ∧ (∀ d ∈ xs, keepsD ts d) ∧ Fr S S' ∧ Tp S')
    ⟨[], _, _, _, rfl, get_new, Nat.le_refl _, (fun _ h => by cases h), (fun _ h => by cases h), (Fr.refl _).app _, tp.app _⟩ (fun _ _ _ _ => trivial) ?_ ?_
  · rintro c x σ S1 hx ⟨xs, k5, k6, k7, rfl, hxs, hxl, xo, xk, fr1, tp1⟩
    obtain ⟨hc, rfl⟩ := rgD_get hx
    refine ⟨_, rfl, ?_⟩
    walk_at "q"
    refine draw_ok tp1 (by omega) fun i S2 fr2 tp2 i0 i1 => ?_
    walk_at "q"
    refine draw_ok tp2 (by omega) fun j S3 fr3 tp3 j0 j1 => ?_
    have fr13 := fr2.trans fr3
    have fr03 := fr1.trans fr13
    have hxs3 := fr13.get (show S.length ≠ 2 by omega) hxs
    have R3 := R.fr r3 b3 fr03
    have hi0 : -1 ≤ i - 1 := by omega
    have hi1 : i - 1 < m := by omega
    have hj0 : -1 ≤ j - 1 := by omega
    have hj1 : j - 1 < m := by omega
    walk_at "q"
    generalize i - 1 = i at *
    generalize j - 1 = j at *
    refine ix_ref R3.top (refsD_at (by omega) (by omega)) ?_
    walk_at "q"
    refine ix_ref (R3.row _ (pyI_lt (by omega) (by omega))) (rowD_py (by omega) (by omega)) ?_
    have hle := times_le htl hsm hz ak (pyI_lt (n := m + 1) (i := i) (by omega) (by omega)) (pyI_lt (n := m + 1) (i := j) (by omega) (by omega))
    cases e : lk (m + 1) (m + 1) (netF m as) (pyI (m + 1) i) (pyI (m + 1) j) with
    | none =>
      dsimp only [oD]
      walk_at "q"
      exact ⟨xs, _, _, _, rfl, hxs3, by omega, xo, xk, fr03, tp3⟩
    | some g =>
      rw [e] at hle
      have hle : g ≤ _ := hle
      dsimp only [oD]
      walk_at "q"
      refine ix_ref R3.top (refsD_at (by omega) (by omega)) ?_
      walk_at "q"
      refine ix_ref (R3.row _ (pyI_lt (by omega) (by omega))) (rowD_py (by omega) (by omega)) ?_
      rw [e]
      dsimp only [oD]
      walk_at "q"
      refine if_d (fun _ => ?_) (fun _ => ?_)
      · walk_at "q"
        refine ⟨lstD_lst hxs3, ?_⟩
        walk_at "q"
        refine ix_ref R3.top (refsD_at (by omega) (by omega)) ?_
        walk_at "q"
        refine ix_ref (R3.row _ (pyI_lt (by omega) (by omega))) (rowD_py (by omega) (by omega)) ?_
        rw [e]
        dsimp only [oD]
        walk_at "q"
        refine draw_ok tp3 (by decide) fun y S4 fr4 tp4 y0 y1 => ?_
        have hxs4 := fr4.get (show S.length ≠ 2 by omega) hxs3
        walk_at "q"
        refine m_append hxs4 (by unfold sizeLine; omega) ?_
        walk_at "q"
        refine ⟨_, _, _, _, rfl, get_set_self hxs4, by rw [List.length_append, List.length_singleton]; omega, fun d hd => ?_, fun d hd => ?_, (fr03.trans fr4).set _ (by omega), tp4.set _ (by omega)⟩
        · rcases List.mem_append.1 hd with hd | hd
          · exact xo d hd
          · rw [List.mem_singleton] at hd
            exact ⟨_, _, _, hd, hi0, hi1, hj0, hj1⟩
        · rcases List.mem_append.1 hd with hd | hd
          · exact xk d hd
          · rw [List.mem_singleton] at hd
            have p1 := pyI_lt (n := m + 1) (i := i) (by omega) (by omega)
            have p2 := pyI_lt (n := m + 1) (i := j) (by omega) (by omega)
            have g1 : ts[pyI (m + 1) i]? = some (ts[pyI (m + 1) i]'(by omega)) := List.getElem?_eq_getElem (by omega)
            have g2 : ts[pyI (m + 1) j]? = some (ts[pyI (m + 1) j]'(by omega)) := List.getElem?_eq_getElem (by omega)
            rw [g1, g2] at hle
            have hle : g ≤ (ts[pyI (m + 1) j]'(by omega)) - (ts[pyI (m + 1) i]'(by omega)) := hle
            refine ⟨_, _, _, ts[pyI (m + 1) i]'(by omega), ts[pyI (m + 1) j]'(by omega), hd, ?_, ?_, by omega⟩
            · have := atI_py (xs := ts) (i := i) (by omega) (by omega)
              rw [this]
              congr 2
              rw [htl]
            · have := atI_py (xs := ts) (i := j) (by omega) (by omega)
              rw [this]
              congr 2
              rw [htl]
      · walk_at "q"
        exact ⟨xs, _, _, _, rfl, hxs3, by omega, xo, xk, fr03, tp3⟩
  · rintro σ S1 ⟨xs, k5, k6, k7, rfl, hxs, hxl, xo, xk, fr1, tp1⟩
    rw [rgD_len] at hxl
    have hS1 := fr1.len
    walk_at "q"
    refine shuffled_ok tp1 (fr1.get (by omega) ha) (by omega) (by rw [List.length_map]; omega) fun n ys S2 hn hys hyl hyx fr2 tp2 => ?_
    walk_at "q"
    rw [List.length_map] at hyl
    refine b_spread_ok tp2 hys (fr2.get (by omega) hxs) (by omega) (by omega) (by omega) fun n' zs S3 hn' hzs hzl zm fr3 tp3 => ?_
    have hS2 := fr2.len
    refine q _ zs _ (by omega) hzs (by omega) (fun d hd => ?_) (fun d hd => ?_) ((fr1.trans fr2).trans fr3) tp3
    · rcases zm d hd with h | h
      · obtain ⟨x, hx, rfl⟩ := List.mem_map.1 (hyx d h)
        have := ao x hx
        exact ⟨_, _, _, rfl, this.1.1, this.1.2, this.2.1, this.2.2⟩
      · exact xo d h
    · rcases zm d hd with h | h
      · exact ak d (hyx d h)
      · exact xk d h
set_option maxHeartbeats 1000000 in
theorem main (ns : List Int) (hl : ns.length ≤ 63) : callW T (100 + 1) i_law [.ref 0] [.fro (ns.map D.int)] fun d _ => d = .bl true := by
  refine call_of T_law rfl ?_
  dsimp only [f_law, b_law, startD, List.map, List.length_cons, List.length_nil, Nat.reduceAdd, Nat.reduceSub, List.replicate, List.cons_append, List.nil_append, List.append_nil]
  walk_at "q"
  refine tape_ok fun S0 tp0 => ?_
  walk_at "q"
  refine pickL (tp0.app _) get_new (by have := tp0.len; omega) (by decide) (by decide) fun d S1 hd fr1 tp1 => ?_
  have hd : ∃ gs : List Int, d = .tup (gs.map D.int) ∧ (∀ g ∈ gs, 0 ≤ g ∧ g ≤ 40) ∧ gs.length < 100 := by
    simp only [List.mem_cons, List.not_mem_nil, or_false] at hd
    rcases hd with rfl | rfl
    · exact ⟨[], rfl, (fun _ h => by cases h), by decide⟩
    · exact ⟨[12, 24], rfl, by decide, by decide⟩
  obtain ⟨gs, rfl, hg1, hg2⟩ := hd
  walk_at "q"
  refine b_plainG tp1 hg1 hg2 fun m t a S2 N fr2 tp2 => ?_
  obtain ⟨h0, h8, ⟨ts, xs, ht, htl, hsm, hz, ha, hxl, ax, ak⟩, t3, a3⟩ := N
  refine ⟨_, rfl, ?_⟩
  obtain ⟨m, rfl⟩ : ∃ m' : Nat, m = m' := ⟨m.toNat, by omega⟩
  refine ss_cut (callW_mono T _) (fun σ' S' => ∃ cl : Bool, (cl = true → m ≤ 3 ∧ ∀ x ∈ ts, x ≤ 4) ∧ S' = S2 ∧ σ' = [some (.ref 0), some (.ref 2), some (.bl cl), none, none, none, none, none, none, some (.int m), some (.ref t), some (.ref a), none, none, none, none, none, none]) ?_ ?_
  · walk_at "q"
    refine if_d (fun h => ?_) (fun h => ?_)
    · walk_at "r"
      refine ⟨_, _, seqOf_lst ht, intsOf_map _, by omega, ?_⟩
      walk_at "r"
      refine ⟨_, fun hc => ⟨by omega, fun x hx => ?_⟩, rfl, rfl⟩
      have h5 := of_decide_eq_true hc
      cases ts with
      | nil => cases hx
      | cons z zs =>
        obtain ⟨g1, g2, -⟩ := foldl_max z zs
        have h5 : zs.foldl max z < 5 := h5
        rcases List.mem_cons.1 hx with rfl | hx
        · omega
        · have := g2 x hx; omega
    · walk_at "r"
      exact ⟨_, fun hc => absurd (of_decide_eq_true hc) h, rfl, rfl⟩
  rintro σ' S2' ⟨cl, hcl, rfl, rfl⟩
  refine ss_cut (callW_mono T _) (fun σ' S' => ∃ (a : Nat) (xs : List D), 3 ≤ a ∧ S'[t]? = some (.lst (ts.map D.int)) ∧ S'[a]? = some (.lst xs) ∧ xs.length ≤ 44 ∧ (∀ d ∈ xs, arcOk m d) ∧ (∀ d ∈ xs, keepsD ts d) ∧ Tp S' ∧
    σ' = [some (.ref 0), some (.ref 2), some (.bl cl), none, none, none, none, none, none, some (.int m), some (.ref t), some (.ref a), none, none, none, none, none, none]) ?_ ?_
  · walk_at "q"
    refine draw_ok tp2 (by decide) fun y S3 fr3 tp3 y0 y1 => ?_
    walk_at "q"
    refine if_d (fun _ => ?_) (fun _ => ?_)
    · walk_at "q"
      refine b_round_all tp3 h0 h8 (fr3.get (by omega) ht) htl (by omega) fun rb rs S7 hrb hrs hrl ro rk fr7 tp7 => ?_
      have hS3 := tp3.len
      walk_at "q"
      refine b_spread_ok tp7 ((fr3.trans fr7).get (by omega) ha) hrs (by omega) (by omega) (by omega) fun a' zs S9 ha' hzs hzl zm fr9 tp9 => ?_
      have hS7 := tp7.len
      walk_at "q"
      exact ⟨a', zs, by omega, ((fr3.trans fr7).trans fr9).get (by omega) ht, hzs, by omega, fun d hd => (zm d hd).elim (ax d) (ro d), fun d hd => (zm d hd).elim (ak d) (rk (by decide) d), tp9, rfl⟩
    · walk_at "q"
      exact ⟨a, xs, a3, fr3.get (by omega) ht, fr3.get (by omega) ha, by omega, ax, ak, tp3, rfl⟩
  clear ha hxl ax ak a3 a xs ht
  rintro σ' S3 ⟨a, xs, a3, ht, ha, hxl, ax, ak, tp3, rfl⟩
  walk_at "q"
  refine closing_all tp3 (by omega) (by omega) (by decide) ht htl (by omega) (by decide) hsm hz fun c cs S4 hc hcs hcsl co ck cw fr4 tp4 => ?_
  have hS3 := tp3.len
  have ht4 := fr4.get (show t ≠ 2 by omega) ht
  have ha4 := fr4.get (show a ≠ 2 by omega) ha
  walk_at "q"
  refine ss_cut (callW_mono T _) (fun σ' S' => ∃ (a : Nat) (as : List (Int × Int × Int)), 3 ≤ a ∧ Wld m ts cl as ∧ as.length ≤ 50 ∧ S'[t]? = some (.lst (ts.map D.int)) ∧ S'[a]? = some (.lst (as.map arcD)) ∧ Tp S' ∧
    σ' = [some (.ref 0), some (.ref 2), some (.bl cl), some (.ref c), none, none, none, none, none, some (.int m), some (.ref t), some (.ref a), none, none, none, none, none, none]) ?_ ?_
  · have mix : ∀ (S5 : St) (u v : Nat) (us vs : List D) (Q' : QD), 3 ≤ u → u ≠ 2 → 3 ≤ v → S5[u]? = some (.lst us) → S5[v]? = some (.lst vs) → us.length ≤ 30 → (∀ d ∈ us, d ∈ xs) → vs.length ≤ 8 → (∀ d ∈ vs, d ∈ cs) → (cl = true → vs = cs) → Tp S5 → S5[t]? = some (.lst (ts.map D.int)) →
        (∀ (a : Nat) (as : List (Int × Int × Int)) (S' : St), 3 ≤ a → Wld m ts cl as → as.length ≤ 50 → S'[t]? = some (.lst (ts.map D.int)) → S'[a]? = some (.lst (as.map arcD)) → Tp S' → Q' (.ref a) S') → callW T 100 i__law_b_spread_in [.ref 2, .ref u, .ref v] S5 Q' := by
      intro S5 u v us vs Q' hu hu2 hv hus hvs hul hux hvl hvc hvcl tp5 ht5 q
      refine b_spread_all tp5 hus hvs (by omega) (by omega) (by omega) fun a' zs S6 ha' hzs hzl zm _ zc fr6 tp6 => ?_
      have hS5 := tp5.len
      have zo : ∀ d ∈ zs, arcOk m d := fun d hd => (zm d hd).elim (fun h => ax d (hux d h)) fun h => co d (hvc d h)
      have zk : ∀ d ∈ zs, keepsD ts d := fun d hd => (zm d hd).elim (fun h => ak d (hux d h)) fun h => ck d (hvc d h)
      obtain ⟨as, rfl, ao⟩ := arcs_of zo
      rw [List.length_map] at hzl
      refine q a' as S6 (by omega) ⟨ao, zk, by omega, fun h k hk => ?_⟩ (by omega) (fr6.get (by omega) ht5) hzs tp6
      obtain ⟨hm3, ht4⟩ := hcl h
      have hkl : k < ts.length := by omega
      obtain ⟨w, w1, w2⟩ := cw k _ (by omega) (List.getElem?_eq_getElem hkl)
      have h4 := ht4 _ (List.getElem_mem hkl)
      obtain ⟨x, hx, ex⟩ := List.mem_map.1 (zc (by have := hvcl h; subst this; omega) _ (by rw [hvcl h]; exact w1))
      obtain ⟨x1, x2, x3⟩ := x
      unfold arcD at ex
      injection ex with ex
      injection ex with e1 ex
      injection ex with e2 ex
      injection ex with e3 ex
      injection e1 with e1
      injection e2 with e2
      injection e3 with e3
      dsimp only at e1 e2 e3
      subst e1; subst e2; subst e3
      exact ⟨x3, hx, by omega⟩
    have cut30 : (cutD xs none (some 30)).length ≤ 30 := by
      unfold cutD; rw [List.length_take, show HT.sIx xs.length xs.length (some 30) = min (30 : Int).toNat xs.length from rfl]; omega
    have go : ∀ (S5 : St) (Q' : QD), Fr S4 S5 → Tp S5 → (∀ (a : Nat) (as : List (Int × Int × Int)) (S' : St), 3 ≤ a → Wld m ts cl as → as.length ≤ 50 → S'[t]? = some (.lst (ts.map D.int)) → S'[a]? = some (.lst (as.map arcD)) → Tp S' → Q' (.ref a) S') →
        wE (callW T 100) (.call i__law_b_spread_in (.cons (.var 1) (.cons (.sl (.var 11) .none (.some (.cint 30))) (.cons (.ite (.var 2) (.var 3) (.sl (.var 3) .none (.some (.call i__law_draw (.cons (.var 1) (.cons (.bin .add (.var 9) (.cint 1)) .nil)))))) .nil)))) [some (.ref 0), some (.ref 2), some (.bl cl), some (.ref c), none, none, none, none, none, some (.int m), some (.ref t), some (.ref a), none, none, none, none, none, none] S5 Q' := by
      intro S5 Q' fr5 tp5 q
      have hS5 := tp5.len
      have ha5 := fr5.get (show a ≠ 2 by omega) ha4
      have hc5 := fr5.get (show c ≠ 2 by omega) hcs
      walk_at "q"
      generalize hcut : cutD xs none (some 30) = cu at *
      have hcum : ∀ d ∈ cu, d ∈ xs := by rw [← hcut]; exact fun d hd => mem_cut hd
      refine if_b (fun h => ?_) (fun h => ?_)
      · walk_at "q"
        exact mix _ _ _ cu cs _ (by omega) (by omega) (by omega) get_new (get_app hc5) cut30 hcum (by omega) (fun d h => h) (fun _ => rfl) (tp5.app _) (get_app (fr5.get (by omega) ht4)) q
      · walk_at "q"
        refine draw_ok (tp5.app _) (by omega) fun y S6 fr6 tp6 y0 y1 => ?_
        walk_at "q"
        have := cut_len cs none (some y)
        refine mix _ _ _ cu (cutD cs none (some y)) _ (by omega) (by omega) (by have := tp6.len; omega) (get_app (fr6.get (by omega) get_new)) get_new cut30 hcum (by omega) (fun d h => mem_cut h) (fun h' => by rw [h] at h'; cases h') (tp6.app _) (get_app (fr6.get (by omega) (get_app (fr5.get (by omega) ht4)))) q
    refine s_ite ?_
    refine e_or ?_
    walk_at "q"
    refine if_b (fun h => ?_) (fun h => ?_)
    · refine ex_truB ?_
      rw [if_pos h]
      refine ss_last ?_
      refine s_set ?_
      refine go _ _ (Fr.refl _) tp4 fun a' as' S' h1 h2 h3 h4 h5 h6 => ?_
      exact ⟨a', as', h1, h2, h3, h4, h5, h6, rfl⟩
    · walk_at "q"
      refine draw_ok tp4 (by decide) fun y S5 fr5 tp5 y0 y1 => ?_
      walk_at "q"
      refine if_d (fun _ => ?_) (fun _ => ?_)
      · refine ss_last ?_
        refine s_set ?_
        refine go _ _ fr5 tp5 fun a' as' S' h1 h2 h3 h4 h5 h6 => ?_
        exact ⟨a', as', h1, h2, h3, h4, h5, h6, rfl⟩
      · walk_at "q"
        obtain ⟨as, rfl, ao⟩ := arcs_of ax
        rw [List.length_map] at hxl
        exact ⟨a, as, a3, ⟨ao, ak, by omega, fun h' => by rw [h] at h'; cases h'⟩, by omega, fr5.get (by omega) ht4, fr5.get (by omega) ha4, tp5, rfl⟩
  clear ht4 ha4 ht ha hxl ax ak a3 a xs
  rintro σ' S5 ⟨a, as, a3, W1, hal, ht, ha, tp5, rfl⟩
  have hca := calm_net (m := m) (ts := ts) (as := as) (by omega) hsm hz W1.kp
  have hS5 := tp5.len
  walk_at "q"
  refine rows_ok (by omega) ha W1.ok (fun hn S6 e6 => ?_) (fun hno r b S6 hr6 hb6 R0 e6 => ?_)
  · obtain ⟨i, hi, hp⟩ := hn
    exact absurd hp (hca i hi)
  have tp6 := tp5.ext e6
  have ht6 := e6.get ht
  have ha6 := e6.get ha
  walk_at "q"
  refine ss_cut (callW_mono T _) (fun σ' S' => ∃ (o : Nat) (bs : List (Int × Int × Int)), 3 ≤ o ∧ S'[o]? = some (.lst (bs.map arcD)) ∧ bs.length ≤ 90 ∧ (∀ x ∈ bs, okA m x) ∧ (∀ d ∈ bs.map arcD, keepsD ts d) ∧ Fr S6 S' ∧ Tp S' ∧
    σ' = [some (.ref 0), some (.ref 2), some (.bl cl), some (.ref c), some (.ref r), none, none, none, none, some (.int m), some (.ref t), some (.ref a), some (.ref o), none, none, none, none, none]) ?_ ?_
  · have hS6 := tp6.len
    walk_at "q"
    refine draw_ok tp6 (by decide) fun y S7 fr7 tp7 y0 y1 => ?_
    walk_at "q"
    refine if_d (fun _ => ?_) (fun _ => ?_)
    · walk_at "q"
      refine k13_implied_ok tp7 (by omega) a3 (by omega) (by omega) (by omega) hsm hz (fr7.get (by omega) ha6) W1.ok W1.kp (by omega) (R0.fr (by omega) (by omega) fr7) fun o zs S8 ho hzs hzl zo zk fr8 tp8 => ?_
      have hS7 := tp7.len
      obtain ⟨bs, rfl, bo⟩ := arcs_of zo
      rw [List.length_map] at hzl
      walk_at "q"
      exact ⟨o, bs, by omega, hzs, by omega, bo, zk, fr7.trans fr8, tp8, rfl⟩
    · walk_at "q"
      refine kept_other_ok tp7 (by omega) h8 (fr7.get (by omega) ht6) htl (by omega) hsm (fr7.get (by omega) ha6) (fun d hd => ?_) W1.kp (by rw [List.length_map]; omega) (by omega) fun o zs S8 ho hzs hzl zo zk fr8 tp8 => ?_
      · obtain ⟨x, hx, rfl⟩ := List.mem_map.1 hd
        have := W1.ok x hx
        exact ⟨_, _, _, rfl, this.1.1, this.1.2, this.2.1, this.2.2⟩
      have hS7 := tp7.len
      rw [List.length_map] at hzl
      walk_at "q"
      refine draw_ok tp8 (by decide) fun y S9 fr9 tp9 y0 y1 => ?_
      walk_at "q"
      refine if_d (fun _ => ?_) (fun _ => ?_)
      · walk_at "q"
        refine kept_other_ok tp9 (by omega) h8 (((fr7.trans fr8).trans fr9).get (by omega) ht6) htl (by omega) hsm (fr9.get (by omega) hzs) zo zk (by omega) (by omega) fun o' zs' S10 ho' hzs' hzl' zo' zk' fr10 tp10 => ?_
        have hS9 := tp9.len
        obtain ⟨bs, rfl, bo⟩ := arcs_of zo'
        rw [List.length_map] at hzl'
        walk_at "q"
        exact ⟨o', bs, by omega, hzs', by omega, bo, zk', ((fr7.trans fr8).trans fr9).trans fr10, tp10, rfl⟩
      · walk_at "q"
        obtain ⟨bs, rfl, bo⟩ := arcs_of zo
        rw [List.length_map] at hzl
        exact ⟨o, bs, by omega, fr9.get (by omega) hzs, by omega, bo, zk, (fr7.trans fr8).trans fr9, tp9, rfl⟩
  rintro σ' S7 ⟨o, bs, o3, ho, hbl, bo, bk, fr7, tp7, rfl⟩
  refine ss_cut (callW_mono T _) (fun σ' S' => ∃ (o : Nat) (bs : List (Int × Int × Int)), 3 ≤ o ∧ Wld m ts cl bs ∧ S'[o]? = some (.lst (bs.map arcD)) ∧ Fr S7 S' ∧ Tp S' ∧
    σ' = [some (.ref 0), some (.ref 2), some (.bl cl), some (.ref c), some (.ref r), none, none, none, none, some (.int m), some (.ref t), some (.ref a), some (.ref o), none, none, none, none, none]) ?_ ?_
  · walk_at "q"
    refine if_b (fun h => ?_) (fun h => ?_)
    · obtain ⟨hm3, ht4⟩ := hcl h
      walk_at "r"
      refine r_one (by omega) ⟨by rw [rgD_len]; unfold sizeLine; omega, ?_⟩
      refine lc_all (callW_mono T _) (fun i acc S' => S' = S7 ∧ acc = ((List.range i).map fun (k : Nat) => ((k : Int), ((-1 : Int), (-6 : Int)))).map arcD) ⟨rfl, rfl⟩ (fun _ _ _ _ => trivial) ?_ ?_
      · rintro i x acc S' hx ⟨rfl, rfl⟩
        obtain ⟨hi, rfl⟩ := rgD_get hx
        refine ⟨_, rfl, ?_⟩
        walk_at "r"
        refine ⟨rfl, ?_⟩
        rw [List.range_succ, List.map_append, List.map_append, show (0 + (i : Int)) = i by omega]
        rfl
      · rintro acc S' ⟨rfl, rfl⟩
        rw [rgD_len, show ((m : Int) - 0).toNat = m by omega]
        walk_at "r"
        refine b_addL (get_app ho) get_new (by rw [List.length_map, List.length_map, List.length_map, List.length_range]; unfold sizeLine; omega) ?_
        walk_at "r"
        have hS7 := tp7.len
        refine ⟨_, bs ++ (List.range m).map (fun (k : Nat) => ((k : Int), ((-1 : Int), (-6 : Int)))), ?_, ⟨fun x hx => ?_, fun d hd => ?_, ?_, fun _ k hk => ⟨-6, ?_, by decide⟩⟩, by rw [List.map_append]; exact get_new, ((Fr.refl _).app _).app _, (tp7.app _).app _, rfl⟩
        · rw [List.length_append]; omega
        · rcases List.mem_append.1 hx with hx | hx
          · exact bo x hx
          · obtain ⟨k, hk, rfl⟩ := List.mem_map.1 hx
            rw [List.mem_range] at hk
            exact ⟨⟨by show (-1 : Int) ≤ k; omega, by show (k : Int) < m; omega⟩, by show (-1 : Int) ≤ -1; decide, by show (-1 : Int) < m; omega⟩
        · rw [List.map_append] at hd
          rcases List.mem_append.1 hd with hd | hd
          · exact bk d hd
          · obtain ⟨x, hx, rfl⟩ := List.mem_map.1 hd
            obtain ⟨k, hk, rfl⟩ := List.mem_map.1 hx
            rw [List.mem_range] at hk
            have hkl : k < ts.length := by omega
            have h4 := ht4 _ (List.getElem_mem hkl)
            exact ⟨_, _, _, ts[k], 0, rfl, atI_int (by omega) (by rw [show ((k : Int)).toNat = k by omega]; exact List.getElem?_eq_getElem hkl), hz, by show (-6 : Int) ≤ _; omega⟩
        · rw [List.length_append, List.length_map, List.length_range]; omega
        · exact List.mem_append_right _ (List.mem_map.2 ⟨k, List.mem_range.2 hk, rfl⟩)
    · walk_at "r"
      exact ⟨o, bs, o3, ⟨bo, bk, by omega, fun hc => by rw [h] at hc; cases hc⟩, ho, Fr.refl _, tp7, rfl⟩
  clear ho hbl bo bk o3 o bs
  rintro σ' S8 ⟨o, bs, o3, W2, ho, fr8, tp8, rfl⟩
  have hcb := calm_net (m := m) (ts := ts) (as := bs) (by omega) hsm hz W2.kp
  have fr68 := fr7.trans fr8
  have ha8 := fr68.get (show a ≠ 2 by omega) ha6
  have R08 := R0.fr (by omega) (by omega) fr68
  have hS8 := tp8.len
  walk_at "q"
  refine rows_ok (by omega) (get_app ho) W2.ok (fun hn S9 e9 => ?_) (fun hno r' b' S9 hr9 hb9 R1 e9 => ?_)
  · obtain ⟨i, hi, hp⟩ := hn
    exact absurd hp (hcb i hi)
  rw [List.length_append, List.length_singleton] at hr9 hb9
  have e89 : Ext S8 S9 := (Ext.new S8 [MO.lst [D.ref a, D.ref o]]).trans e9
  have tp9 := tp8.ext e89
  have hnet : S9[S8.length]? = some (.lst [D.ref a, D.ref o]) := e9.get get_new
  have ha9 := e89.get ha8
  have ho9 := e89.get ho
  have R09 := R08.ext e89
  clear R08 ha8 ho
  have hS9 := tp9.len
  walk_at "q"
  have hrow : (S9 ++ [MO.lst [D.ref r, D.ref r']])[S9.length]? = some (.lst [D.ref r, D.ref r']) := get_new
  have hnet := get_app (X := [MO.lst [D.ref r, D.ref r']]) hnet
  have ha9 := get_app (X := [MO.lst [D.ref r, D.ref r']]) ha9
  have ho9 := get_app (X := [MO.lst [D.ref r, D.ref r']]) ho9
  have R09 := R09.ext (Ext.new S9 [MO.lst [D.ref r, D.ref r']])
  have R19 := R1.ext (Ext.new S9 [MO.lst [D.ref r, D.ref r']])
  have tp9 := tp9.app [MO.lst [D.ref r, D.ref r']]
  have h910 : (S9 ++ [MO.lst [D.ref r, D.ref r']]).length = S9.length + 1 := by simp
  generalize hX : S9.length = rr at *
  generalize S9 ++ [MO.lst [D.ref r, D.ref r']] = X at *
  have fnd : ∀ S' : St, D → Prop := fun S' d => d = .non ∨ ∃ p f0 f1 : Nat, d = .ref p ∧ 3 ≤ p ∧ S'[p]? = some (.lst [.ref f0, .ref f1]) ∧ WkS S' m as f0 ∧ WkS S' m bs f1 ∧ cl = true
  refine ss_cut (callW_mono T _) (fun σ' S' => ∃ d, (d = .non ∨ ∃ p f0 f1 : Nat, d = .ref p ∧ 3 ≤ p ∧ S'[p]? = some (.lst [.ref f0, .ref f1]) ∧ WkS S' m as f0 ∧ WkS S' m bs f1 ∧ cl = true) ∧ Fr X S' ∧ Tp S' ∧
    σ' = [some (.ref 0), some (.ref 2), some (.bl cl), some (.ref c), some (.ref r), some (.ref S8.length), some (.ref rr), some d, none, some (.int m), some (.ref t), some (.ref a), some (.ref o), none, none, none, none, none]) ?_ ?_
  · walk_at "q"
    refine if_b (fun h => ?_) (fun h => ?_)
    · obtain ⟨hm3, ht4⟩ := hcl h
      subst h
      walk_at "r"
      refine ⟨_, seqOf_lst hnet, by simp only [List.length_cons, List.length_nil]; decide, ?_⟩
      refine lc_all (callW_mono T _) (fun i acc S' => Ext X S' ∧ ((i = 0 ∧ acc = []) ∨ (i = 1 ∧ ∃ f0 : Nat, acc = [.ref f0] ∧ WkS S' m as f0) ∨ (i = 2 ∧ ∃ f0 f1 : Nat, acc = [.ref f0, .ref f1] ∧ WkS S' m as f0 ∧ WkS S' m bs f1))) ⟨Ext.refl _, Or.inl ⟨rfl, rfl⟩⟩ (fun i acc S' h => still_ref (h.1.get hnet)) ?_ ?_
      · rintro i x acc S' hx ⟨eX, hi⟩
        rcases hi with ⟨rfl, rfl⟩ | ⟨rfl, f0, rfl, w0⟩ | ⟨rfl, _⟩
        · cases hx
          refine ⟨_, rfl, ?_⟩
          walk_at "r"
          refine callW_mono T _ _ _ _ _ _ (fun v S1 h => es_nil h) (tops_walk (k := 99) (tp9.ext eX) hm3 W1 (by omega) hsm hz ht4 (eX.get ha9) fun f S'' w e => ?_)
          exact ⟨eX.trans e, Or.inr (Or.inl ⟨rfl, f, rfl, w⟩)⟩
        · cases hx
          refine ⟨_, rfl, ?_⟩
          walk_at "r"
          refine callW_mono T _ _ _ _ _ _ (fun v S1 h => es_nil h) (tops_walk (k := 99) (tp9.ext eX) hm3 W2 (by omega) hsm hz ht4 (eX.get ho9) fun f S'' w e => ?_)
          exact ⟨eX.trans e, Or.inr (Or.inr ⟨rfl, f0, f, rfl, w0.fr e.fr, w⟩)⟩
        · cases hx
      · rintro acc S' ⟨eX, hi⟩
        simp only [List.length_cons, List.length_nil] at hi
        rcases hi with ⟨h, _⟩ | ⟨h, _⟩ | ⟨_, f0, f1, rfl, w0, w1⟩
        · omega
        · omega
        walk_at "r"
        have := (tp9.ext eX).len
        exact ⟨_, Or.inr ⟨S'.length, f0, f1, rfl, by omega, get_new, w0.fr ((Fr.refl _).app _), w1.fr ((Fr.refl _).app _), rfl⟩, (eX.app _).fr, (tp9.ext eX).app _, rfl⟩
    · walk_at "r"
      exact ⟨_, Or.inl rfl, Fr.refl _, tp9, rfl⟩
  rintro σ' Y ⟨d, hd, frY, tpY, rfl⟩
  have hYl := frY.len
  walk_at "q"
  refine ss_cut (callW_mono T _) (fun σ' S' => ∃ (n : Nat) (ps : List (Int × Int)), 3 ≤ n ∧ (∀ p ∈ ps, (p.1 = 0 ∨ p.1 = 1) ∧ (p.2 = 0 ∨ p.2 = 1)) ∧ S'[n]? = some (.lst (ps.map fun p => .tup [.int p.1, .int p.2])) ∧ Fr Y S' ∧ Tp S' ∧
    σ' = [some (.ref 0), some (.ref 2), some (.bl cl), some (.ref c), some (.ref r), some (.ref S8.length), some (.ref rr), some d, some (.ref n), some (.int m), some (.ref t), some (.ref a), some (.ref o), none, none, none, none, none]) ?_ ?_
  · walk_at "q"
    refine if_d (fun h => ?_) (fun h => ?_)
    · walk_at "r"
      exact ⟨_, [(0, 1)], by rw [List.length_append]; omega, by decide, get_new, ((Fr.refl _).app _).app _, (tpY.app _).app _, rfl⟩
    · walk_at "r"
      exact ⟨_, [(0, 1), (1, 0), (0, 0), (0, 1)], by omega, by decide, get_new, (Fr.refl _).app _, tpY.app _, rfl⟩
  rintro σ' Z ⟨n, ps, n3, hps, hn, frZ, tpZ, rfl⟩
  have frXZ := frY.trans frZ
  walk_at "q"
  refine ⟨_, seqOf_lst hn, ?_⟩
  refine for_inv (callW_mono T _) (fun i σ' S' => ∃ k13 k14 k15, σ' = [some (.ref 0), some (.ref 2), some (.bl cl), some (.ref c), some (.ref r), some (.ref S8.length), some (.ref rr), some d, some (.ref n), some (.int m), some (.ref t), some (.ref a), some (.ref o), k13, k14, k15, none, none] ∧ Fr Z S' ∧ Tp S')
    ⟨_, _, _, rfl, Fr.refl _, tpZ⟩ (fun i σ' S' h => by obtain ⟨_, _, _, _, h, _⟩ := h; exact still_ref (h.get (by omega) hn)) ?_ ?_
  · rintro i x σ S1 hx ⟨k13, k14, k15, rfl, frz, tpz⟩
    obtain ⟨⟨u, v⟩, hp, rfl⟩ := get_of_map hx
    obtain ⟨hu, hv⟩ := hps _ (List.mem_of_getElem? hp)
    dsimp only at hu hv
    have frX := frXZ.trans frz
    have frYS := frZ.trans frz
    refine ⟨_, rfl, ?_⟩
    dsimp only
    have net2 := frX.get (show S8.length ≠ 2 by omega) hnet
    have row2 := frX.get (show rr ≠ 2 by omega) hrow
    have pick : ∀ w : Int, w = 0 ∨ w = 1 → ∃ (x y z : Nat) (ps : List (Int × Int × Int)), L2.atI [D.ref a, D.ref o] w = some (.ref x) ∧ L2.atI [D.ref r, D.ref r'] w = some (.ref y) ∧ 3 ≤ x ∧ 3 ≤ y ∧ 3 ≤ z ∧ (∀ a ∈ ps, okA m a) ∧ X[x]? = some (.lst (ps.map arcD)) ∧ Rws X y z (m + 1) (lk (m + 1) (m + 1) (netF m ps)) ∧ calm (m + 1) (lk (m + 1) (m + 1) (netF m ps)) ∧
        Wld m ts cl ps ∧ (∀ f0 f1 : Nat, WkS Y m as f0 → WkS Y m bs f1 → ∃ f : Nat, L2.atI [D.ref f0, D.ref f1] w = some (.ref f) ∧ WkS Y m ps f) := by
      intro w hw
      rcases hw with rfl | rfl
      · exact ⟨a, r, b, as, rfl, rfl, a3, by omega, by omega, W1.ok, ha9, R09, hca, W1, fun f0 f1 h0 h1 => ⟨f0, rfl, h0⟩⟩
      · exact ⟨o, r', b', bs, rfl, rfl, o3, by omega, by omega, W2.ok, ho9, R19, hcb, W2, fun f0 f1 h0 h1 => ⟨f1, rfl, h1⟩⟩
    obtain ⟨xu, yu, zu, pu, u1, u2, u3, u4, u5, u6, u7, u8, u9, -, u10⟩ := pick u hu
    obtain ⟨xv, yv, zv, pv, v1, v2, v3, v4, v5, v6, v7, v8, v9, WV, v10⟩ := pick v hv
    walk_at "q"
    refine ss_cut (callW_mono T _) (fun σ' S' => ∃ d', (d' = .non ∨ ∃ (p f : Nat) (f0 : D), d' = .ref p ∧ 3 ≤ p ∧ S'[p]? = some (.lst [f0, .ref f]) ∧ WkS S' m pv f ∧ ∀ i k, i < m + 1 → k < m + 1 → ∃ x, lk (m + 1) (m + 1) (netF m pv) i k = some x) ∧ Fr S1 S' ∧ Tp S' ∧
      σ' = [some (.ref 0), some (.ref 2), some (.bl cl), some (.ref c), some (.ref r), some (.ref S8.length), some (.ref rr), some d, some (.ref n), some (.int m), some (.ref t), some (.ref a), some (.ref o), some (.int u), some (.int v), some d', none, none]) ?_ ?_
    · rcases hd with rfl | ⟨p, f0, f1, rfl, p3, hp, w0, w1, hcl'⟩
      · walk_at "r"
        exact ⟨_, Or.inl rfl, Fr.refl _, tpz, rfl⟩
      · have hp1 := frYS.get (show p ≠ 2 by omega) hp
        obtain ⟨fu, g1, g2⟩ := u10 f0 f1 w0 w1
        obtain ⟨fv, g3, g4⟩ := v10 f0 f1 w0 w1
        walk_at "r"
        refine ix_ref hp1 g1 ?_
        walk_at "r"
        refine ix_ref hp1 g3 ?_
        walk_at "r"
        have := tpz.len
        exact ⟨_, Or.inr ⟨_, fv, .ref fu, rfl, by omega, get_new, g4.fr (frYS.app _), shut_some v9 (WV.shut hcl')⟩, (Fr.refl _).app _, tpz.app _, rfl⟩
    rintro σ' S2 ⟨d', hd', fr2, tp2, rfl⟩
    have frX2 := frX.trans fr2
    walk_at "r"
    refine ix_ref (fr2.get (by omega) net2) u1 ?_
    walk_at "r"
    refine ix_ref (fr2.get (by omega) net2) v1 ?_
    walk_at "r"
    refine ix_ref (get_app (fr2.get (by omega) row2)) u2 ?_
    walk_at "r"
    refine ix_ref (get_app (fr2.get (by omega) row2)) v2 ?_
    walk_at "r"
    have hS2 := tp2.len
    have frU : Fr S2 (S2 ++ [MO.lst [D.ref xu, D.ref xv]] ++ [MO.lst [D.ref yu, D.ref yv]]) := ((Fr.refl _).app _).app _
    have frXU := frX2.trans frU
    refine k13_pair_ok (k := 30) ((tp2.app _).app _) (by omega) (by omega) (by rw [List.length_append]; omega) u3 v3 u4 u5 v4 v5 u6 v6 u9 v9 (get_app get_new) get_new (frXU.get (by omega) u7) (frXU.get (by omega) v7) (u8.fr u4 u5 frXU) (v8.fr v4 v5 frXU) ?_ fun S3 fr3 tp3 => ?_
    · rcases hd' with h | ⟨p, f, f0, h1, h2, h3, h4, h5⟩
      · exact Or.inl h
      · exact Or.inr ⟨p, f, f0, h1, h2, frU.get (by omega) h3, h4.fr frU, h5⟩
    walk_at "r"
    exact ⟨_, _, _, rfl, ((frz.trans fr2).trans frU).trans fr3, tp3⟩
  · rintro σ S1 ⟨k13, k14, k15, rfl, frz, tpz⟩
    walk_at "r"

end Law

set_option Elab.async false
set_option linter.all false
set_option autoImplicit false
set_option maxRecDepth 100000
namespace Law
open PySem PySem.Spec PyProof.Rows Flx
set_option maxHeartbeats 0 in
theorem bindsAll : ∀ q ∈ T.zip ps, BindsAll q.2.st q.1.name q.1.np (q.2.ns.take q.1.np) := by
  intro q hq
  simp only [T, ps, List.zip_cons_cons, List.zip_nil_left, List.mem_cons, List.not_mem_nil, or_false] at hq
  rcases hq with rfl | rfl | rfl | rfl | rfl | rfl | rfl | rfl | rfl | rfl | rfl | rfl | rfl | rfl | rfl | rfl | rfl | rfl | rfl | rfl | rfl | rfl | rfl | rfl | rfl | rfl | rfl | rfl | rfl | rfl | rfl | rfl | rfl | rfl | rfl | rfl | rfl | rfl | rfl | rfl
  · exact fun _ _ _ _ _ _ us hl => match us, hl with | [_, _, _], _ => rfl
  · exact fun _ _ _ _ _ _ us hl => match us, hl with | [_, _], _ => rfl
  · exact fun _ _ _ _ _ _ us hl => match us, hl with | [_], _ => rfl
  · exact fun _ _ _ _ _ _ us hl => match us, hl with | [_, _, _, _], _ => rfl
  · exact fun _ _ _ _ _ _ us hl => match us, hl with | [_, _, _, _], _ => rfl
  · exact fun _ _ _ _ _ _ us hl => match us, hl with | [_, _, _], _ => rfl
  · exact fun _ _ _ _ _ _ us hl => match us, hl with | [_], _ => rfl
  · exact fun _ _ _ _ _ _ us hl => match us, hl with | [_, _, _, _], _ => rfl
  · exact fun _ _ _ _ _ _ us hl => match us, hl with | [_], _ => rfl
  · exact fun _ _ _ _ _ _ us hl => match us, hl with | [_, _], _ => rfl
  · exact fun _ _ _ _ _ _ us hl => match us, hl with | [_, _], _ => rfl
  · exact fun _ _ _ _ _ _ us hl => match us, hl with | [_, _, _, _], _ => rfl
  · exact fun _ _ _ _ _ _ us hl => match us, hl with | [_], _ => rfl
  · exact fun _ _ _ _ _ _ us hl => match us, hl with | [_, _], _ => rfl
  · exact fun _ _ _ _ _ _ us hl => match us, hl with | [_, _], _ => rfl
  · exact fun _ _ _ _ _ _ us hl => match us, hl with | [_, _], _ => rfl
  · exact fun _ _ _ _ _ _ us hl => match us, hl with | [_, _], _ => rfl
  · exact fun _ _ _ _ _ _ us hl => match us, hl with | [_, _], _ => rfl
  · exact fun _ _ _ _ _ _ us hl => match us, hl with | [_, _], _ => rfl
  · exact fun _ _ _ _ _ _ us hl => match us, hl with | [_], _ => rfl
  · exact fun _ _ _ _ _ _ us hl => match us, hl with | [_, _], _ => rfl
  · exact fun _ _ _ _ _ _ us hl => match us, hl with | [_], _ => rfl
  · exact fun _ _ _ _ _ _ us hl => match us, hl with | [_, _, _, _], _ => rfl
  · exact fun _ _ _ _ _ _ us hl => match us, hl with | [_, _, _], _ => rfl
  · exact fun _ _ _ _ _ _ us hl => match us, hl with | [_, _, _], _ => rfl
  · exact fun _ _ _ _ _ _ us hl => match us, hl with | [_], _ => rfl
  · exact fun _ _ _ _ _ _ us hl => match us, hl with | [_], _ => rfl
  · exact fun _ _ _ _ _ _ us hl => match us, hl with | [_, _], _ => rfl
  · exact fun _ _ _ _ _ _ us hl => match us, hl with | [_, _, _], _ => rfl
  · exact fun _ _ _ _ _ _ us hl => match us, hl with | [_, _], _ => rfl
  · exact fun _ _ _ _ _ _ us hl => match us, hl with | [_, _, _, _], _ => rfl
  · exact fun _ _ _ _ _ _ us hl => match us, hl with | [_, _, _], _ => rfl
  · exact fun _ _ _ _ _ _ us hl => match us, hl with | [_, _, _, _], _ => rfl
  · exact fun _ _ _ _ _ _ us hl => match us, hl with | [_, _, _, _], _ => rfl
  · exact fun _ _ _ _ _ _ us hl => match us, hl with | [_, _, _], _ => rfl
  · exact fun _ _ _ _ _ _ us hl => match us, hl with | [_, _], _ => rfl
  · exact fun _ _ _ _ _ _ us hl => match us, hl with | [_, _, _], _ => rfl
  · exact fun _ _ _ _ _ _ us hl => match us, hl with | [_, _, _, _, _], _ => rfl
  · exact fun _ _ _ _ _ _ us hl => match us, hl with | [_, _, _, _], _ => rfl
  · exact fun _ _ _ _ _ _ us hl => match us, hl with | [_], _ => rfl
theorem allHere {K : K'}
    (h0 : HereK K "extended" p_extended.st)
    (h1 : HereK K "tightened" p_tightened.st)
    (h2 : HereK K "earliest_of" p_earliest_of.st)
    (h3 : HereK K "with_difference" p_with_difference.st)
    (h4 : HereK K "schedule_at" p_schedule_at.st)
    (h5 : HereK K "are_rigid" p_are_rigid.st)
    (h6 : HereK K "groups_of" p_groups_of.st)
    (h7 : HereK K "is_explained" p_is_explained.st)
    (h8 : HereK K "core_of" p_core_of.st)
    (h9 : HereK K "covers" p_covers.st)
    (h10 : HereK K "parting" p_parting.st)
    (h11 : HereK K "parting_at" p_parting_at.st)
    (h12 : HereK K "_law_tape" p__law_tape.st)
    (h13 : HereK K "_law_draw" p__law_draw.st)
    (h14 : HereK K "_law_pick" p__law_pick.st)
    (h15 : HereK K "_law_turns" p__law_turns.st)
    (h16 : HereK K "_law_shuffled" p__law_shuffled.st)
    (h17 : HereK K "_law_same" p__law_same.st)
    (h18 : HereK K "_law_net_rows" p__law_net_rows.st)
    (h19 : HereK K "_law_net_table" p__law_net_table.st)
    (h20 : HereK K "_law_net_tight" p__law_net_tight.st)
    (h21 : HereK K "_law_net_early" p__law_net_early.st)
    (h22 : HereK K "_law_net_at" p__law_net_at.st)
    (h23 : HereK K "_law_net_kept" p__law_net_kept.st)
    (h24 : HereK K "_law_net_walk" p__law_net_walk.st)
    (h25 : HereK K "_law_net_groups" p__law_net_groups.st)
    (h26 : HereK K "_law_net_core" p__law_net_core.st)
    (h27 : HereK K "_law_net_parting" p__law_net_parting.st)
    (h28 : HereK K "_law_b_arc" p__law_b_arc.st)
    (h29 : HereK K "_law_b_plain" p__law_b_plain.st)
    (h30 : HereK K "_law_b_round" p__law_b_round.st)
    (h31 : HereK K "_law_b_spread_in" p__law_b_spread_in.st)
    (h32 : HereK K "_law_b_kept_other" p__law_b_kept_other.st)
    (h33 : HereK K "_law_b_closing" p__law_b_closing.st)
    (h34 : HereK K "_law_b_tops" p__law_b_tops.st)
    (h35 : HereK K "_law_k13_covers" p__law_k13_covers.st)
    (h36 : HereK K "_law_k13_parted" p__law_k13_parted.st)
    (h37 : HereK K "_law_k13_pair" p__law_k13_pair.st)
    (h38 : HereK K "_law_k13_implied" p__law_k13_implied.st)
    (h39 : HereK K "law" p_law.st)
    : ∀ q ∈ T.zip ps, HereK K q.1.name q.2.st := by
  intro q hq
  simp only [T, ps, List.zip_cons_cons, List.zip_nil_left, List.mem_cons, List.not_mem_nil, or_false] at hq
  rcases hq with rfl | rfl | rfl | rfl | rfl | rfl | rfl | rfl | rfl | rfl | rfl | rfl | rfl | rfl | rfl | rfl | rfl | rfl | rfl | rfl | rfl | rfl | rfl | rfl | rfl | rfl | rfl | rfl | rfl | rfl | rfl | rfl | rfl | rfl | rfl | rfl | rfl | rfl | rfl | rfl
  · exact h0
  · exact h1
  · exact h2
  · exact h3
  · exact h4
  · exact h5
  · exact h6
  · exact h7
  · exact h8
  · exact h9
  · exact h10
  · exact h11
  · exact h12
  · exact h13
  · exact h14
  · exact h15
  · exact h16
  · exact h17
  · exact h18
  · exact h19
  · exact h20
  · exact h21
  · exact h22
  · exact h23
  · exact h24
  · exact h25
  · exact h26
  · exact h27
  · exact h28
  · exact h29
  · exact h30
  · exact h31
  · exact h32
  · exact h33
  · exact h34
  · exact h35
  · exact h36
  · exact h37
  · exact h38
  · exact h39
theorem allFree {K : K'}
    (z0 : PySem.W.nsIn K mainGlobals "len" = some none)
    (z1 : PySem.W.nsIn K mainGlobals "abs" = some none)
    (z2 : PySem.W.nsIn K mainGlobals "int" = some none)
    (z3 : PySem.W.nsIn K mainGlobals "max" = some none)
    (z4 : PySem.W.nsIn K mainGlobals "min" = some none)
    (z5 : PySem.W.nsIn K mainGlobals "sum" = some none)
    (z6 : PySem.W.nsIn K mainGlobals "tuple" = some none)
    (z7 : PySem.W.nsIn K mainGlobals "list" = some none)
    (z8 : PySem.W.nsIn K mainGlobals "any" = some none)
    (z9 : PySem.W.nsIn K mainGlobals "all" = some none)
    (z10 : PySem.W.nsIn K mainGlobals "str" = some none)
    (z11 : PySem.W.nsIn K mainGlobals "sorted" = some none)
    (z12 : PySem.W.nsIn K mainGlobals "bool" = some none)
    (z13 : PySem.W.nsIn K mainGlobals "isinstance" = some none)
    (z14 : PySem.W.nsIn K mainGlobals "range" = some none)
    (z15 : PySem.W.nsIn K mainGlobals "enumerate" = some none)
    (z16 : PySem.W.nsIn K mainGlobals "zip" = some none)
    (z17 : PySem.W.nsIn K mainGlobals "reversed" = some none)
    : ∀ x ∈ builtins, PySem.W.nsIn K mainGlobals x = some none := by
  intro x hx
  simp only [builtins, List.mem_cons, List.not_mem_nil, or_false] at hx
  rcases hx with rfl | rfl | rfl | rfl | rfl | rfl | rfl | rfl | rfl | rfl | rfl | rfl | rfl | rfl | rfl | rfl | rfl | rfl
  · exact z0
  · exact z1
  · exact z2
  · exact z3
  · exact z4
  · exact z5
  · exact z6
  · exact z7
  · exact z8
  · exact z9
  · exact z10
  · exact z11
  · exact z12
  · exact z13
  · exact z14
  · exact z15
  · exact z16
  · exact z17
end Law
open PySem PySem.W PyProof.Rows
set_option maxHeartbeats 0 in
theorem PySem.Challenge.cw_flexplan_k13_cores_covering_parting_holds : PySem.Challenge.rw_flexplan_k13_cores_covering_parting.Holds := by
  w_on; o_law; k_head; (case hw => w_witness2)
  k_fill
  refine L2.walk_of (l := PySem.Challenge.rw_flexplan_k13_cores_covering_parting) (n := 63) (k := 100 + 1) (x := "script") (CX := fun _ => L2.CX0) (sp := fun w => Flx.liftSp _ (Flx.callW Law.T (100 + 1) 39)) rfl (by decide) rfl ⟨rfl, by decide, by decide⟩ (fun w h Y => PySem.W.kIn_of Y) ?F (fun _ H a ns hl hO hS => Flx.law_sp hO hS (Law.main ns hl)) (fun _ _ _ _ _ h => h)
  case F =>
    intro w mg fa h KX G hmg
    refine Flx.law_fn (T := Law.T) (ps := Law.ps) (f := 39) (fd := Law.f_law) (p := Law.p_law) 100 KX G hmg rfl Law.looks rfl rfl rfl Law.bindsAll (Law.allHere ?h0 ?h1 ?h2 ?h3 ?h4 ?h5 ?h6 ?h7 ?h8 ?h9 ?h10 ?h11 ?h12 ?h13 ?h14 ?h15 ?h16 ?h17 ?h18 ?h19 ?h20 ?h21 ?h22 ?h23 ?h24 ?h25 ?h26 ?h27 ?h28 ?h29 ?h30 ?h31 ?h32 ?h33 ?h34 ?h35 ?h36 ?h37 ?h38 ?h39) (Law.allFree ?z0 ?z1 ?z2 ?z3 ?z4 ?z5 ?z6 ?z7 ?z8 ?z9 ?z10 ?z11 ?z12 ?z13 ?z14 ?z15 ?z16 ?z17)
    case h0 => exact ⟨_, _, _, _, _, _, _, _, _, _, by k_is, by k_is, by k_is, by k_is⟩
    case h1 => exact ⟨_, _, _, _, _, _, _, _, _, _, by k_is, by k_is, by k_is, by k_is⟩
    case h2 => exact ⟨_, _, _, _, _, _, _, _, _, _, by k_is, by k_is, by k_is, by k_is⟩
    case h3 => exact ⟨_, _, _, _, _, _, _, _, _, _, by k_is, by k_is, by k_is, by k_is⟩
    case h4 => exact ⟨_, _, _, _, _, _, _, _, _, _, by k_is, by k_is, by k_is, by k_is⟩
    case h5 => exact ⟨_, _, _, _, _, _, _, _, _, _, by k_is, by k_is, by k_is, by k_is⟩
    case h6 => exact ⟨_, _, _, _, _, _, _, _, _, _, by k_is, by k_is, by k_is, by k_is⟩
    case h7 => exact ⟨_, _, _, _, _, _, _, _, _, _, by k_is, by k_is, by k_is, by k_is⟩
    case h8 => exact ⟨_, _, _, _, _, _, _, _, _, _, by k_is, by k_is, by k_is, by k_is⟩
    case h9 => exact ⟨_, _, _, _, _, _, _, _, _, _, by k_is, by k_is, by k_is, by k_is⟩
    case h10 => exact ⟨_, _, _, _, _, _, _, _, _, _, by k_is, by k_is, by k_is, by k_is⟩
    case h11 => exact ⟨_, _, _, _, _, _, _, _, _, _, by k_is, by k_is, by k_is, by k_is⟩
    case h12 => exact ⟨_, _, _, _, _, _, _, _, _, _, by k_is, by k_is, by k_is, by k_is⟩
    case h13 => exact ⟨_, _, _, _, _, _, _, _, _, _, by k_is, by k_is, by k_is, by k_is⟩
    case h14 => exact ⟨_, _, _, _, _, _, _, _, _, _, by k_is, by k_is, by k_is, by k_is⟩
    case h15 => exact ⟨_, _, _, _, _, _, _, _, _, _, by k_is, by k_is, by k_is, by k_is⟩
    case h16 => exact ⟨_, _, _, _, _, _, _, _, _, _, by k_is, by k_is, by k_is, by k_is⟩
    case h17 => exact ⟨_, _, _, _, _, _, _, _, _, _, by k_is, by k_is, by k_is, by k_is⟩
    case h18 => exact ⟨_, _, _, _, _, _, _, _, _, _, by k_is, by k_is, by k_is, by k_is⟩
    case h19 => exact ⟨_, _, _, _, _, _, _, _, _, _, by k_is, by k_is, by k_is, by k_is⟩
    case h20 => exact ⟨_, _, _, _, _, _, _, _, _, _, by k_is, by k_is, by k_is, by k_is⟩
    case h21 => exact ⟨_, _, _, _, _, _, _, _, _, _, by k_is, by k_is, by k_is, by k_is⟩
    case h22 => exact ⟨_, _, _, _, _, _, _, _, _, _, by k_is, by k_is, by k_is, by k_is⟩
    case h23 => exact ⟨_, _, _, _, _, _, _, _, _, _, by k_is, by k_is, by k_is, by k_is⟩
    case h24 => exact ⟨_, _, _, _, _, _, _, _, _, _, by k_is, by k_is, by k_is, by k_is⟩
    case h25 => exact ⟨_, _, _, _, _, _, _, _, _, _, by k_is, by k_is, by k_is, by k_is⟩
    case h26 => exact ⟨_, _, _, _, _, _, _, _, _, _, by k_is, by k_is, by k_is, by k_is⟩
    case h27 => exact ⟨_, _, _, _, _, _, _, _, _, _, by k_is, by k_is, by k_is, by k_is⟩
    case h28 => exact ⟨_, _, _, _, _, _, _, _, _, _, by k_is, by k_is, by k_is, by k_is⟩
    case h29 => exact ⟨_, _, _, _, _, _, _, _, _, _, by k_is, by k_is, by k_is, by k_is⟩
    case h30 => exact ⟨_, _, _, _, _, _, _, _, _, _, by k_is, by k_is, by k_is, by k_is⟩
    case h31 => exact ⟨_, _, _, _, _, _, _, _, _, _, by k_is, by k_is, by k_is, by k_is⟩
    case h32 => exact ⟨_, _, _, _, _, _, _, _, _, _, by k_is, by k_is, by k_is, by k_is⟩
    case h33 => exact ⟨_, _, _, _, _, _, _, _, _, _, by k_is, by k_is, by k_is, by k_is⟩
    case h34 => exact ⟨_, _, _, _, _, _, _, _, _, _, by k_is, by k_is, by k_is, by k_is⟩
    case h35 => exact ⟨_, _, _, _, _, _, _, _, _, _, by k_is, by k_is, by k_is, by k_is⟩
    case h36 => exact ⟨_, _, _, _, _, _, _, _, _, _, by k_is, by k_is, by k_is, by k_is⟩
    case h37 => exact ⟨_, _, _, _, _, _, _, _, _, _, by k_is, by k_is, by k_is, by k_is⟩
    case h38 => exact ⟨_, _, _, _, _, _, _, _, _, _, by k_is, by k_is, by k_is, by k_is⟩
    case h39 => exact ⟨_, _, _, _, _, _, _, _, _, _, by k_is, by k_is, by k_is, by k_is⟩
    case z0 => k_is
    case z1 => k_is
    case z2 => k_is
    case z3 => k_is
    case z4 => k_is
    case z5 => k_is
    case z6 => k_is
    case z7 => k_is
    case z8 => k_is
    case z9 => k_is
    case z10 => k_is
    case z11 => k_is
    case z12 => k_is
    case z13 => k_is
    case z14 => k_is
    case z15 => k_is
    case z16 => k_is
    case z17 => k_is
