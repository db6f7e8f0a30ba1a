import PyProof.Rows.All
import Wide.All
import OpenK.AllK
import Wide.FinOn
import HandS.ForMost
import HandS.Flow
import HandS.TupAny
import HandS.Conv
import HandS.IsInst
import HandS.Deep
import HandS.Rev
import HandS.Zip
import HandS.DictComp
import HandS.SortInts
import KE.SortData
import HandS.TupMul
import HandS.More
import KE.DatumOrd
import KE.GoesMore
import KE.GoesEnum
import HandS.Style
import PySem.Challenge.RW_flexplan_k43_plain_plans_and_eager_start
section
set_option Elab.async false
set_option linter.all false
set_option maxRecDepth 100000
/-! FlxCore: a small pure language (Ex, Sm) with pure data (D), a store of lists (St), and what a text of it asks (wE, wS, callW). -/
namespace Flx
open PySem PySem.Spec PyProof.Rows

/-- pure data: what a value is, without the heap; ref n is the n-th object of the store -/
inductive D where
  | non | bl (b : Bool) | int (i : Int) | str (s : Str) | tup (xs : List D) | ref (n : Nat)
  deriving Inhabited
/-- objects of the store: a list that may change, a list that may be read alone, a dict with keys ints and texts -/
inductive MO where
  | lst (xs : List D) | fro (xs : List D) | dic (kvs : List (L2.Key × D))
  deriving Inhabited
def MO.mut : MO → Bool
  | .lst _ => true
  | .fro _ => false
  | .dic _ => true
abbrev St := List MO
abbrev Sg := List (Option D)
abbrev QD := D → St → Prop

inductive BOp where | add | sub | mul | fdiv | mod | pow deriving DecidableEq
inductive COp where | eq | ne | lt | le | gt | ge | is | isnot | isin | notin deriving DecidableEq
inductive Ty where | tuple | list | str | int | bool deriving DecidableEq
inductive Blt where | len | abs | int | max | min | sum | tuple | list | any | all | str | sorted deriving DecidableEq
inductive Mth where | append | insert | pop | extend | index deriving DecidableEq
inductive SMth where | split deriving DecidableEq
mutual
inductive Tg where
  | nm (i : Nat)
  | tp (ts : Tgs)
inductive Tgs where
  | nil
  | cons (t : Tg) (ts : Tgs)
end
mutual
inductive Ex where
  | var (i : Nat) | cint (k : Int) | cstr (s : Str) | cbl (b : Bool) | cnon
  | bin (op : BOp) (a b : Ex) | neg (a : Ex)
  | cmp (op : COp) (a b : Ex) | cmp2 (op op' : COp) (a b c : Ex) | cmp3 (op op' op2 : COp) (a b c d : Ex)
  | and (a b : Ex) | or (a b : Ex) | not (a : Ex)
  | ite (c a b : Ex)
  | tup (es : Exs) | lst (es : Exs)
  | ix (a b : Ex) | sl (a : Ex) (lo hi : ExO)
  | call (f : Nat) (es : Exs)
  | blt (f : Blt) (es : Exs)
  | isi (a : Ex) (t : Ty)
  | mth (m : Mth) (o : Ex) (es : Exs)
  | smt (m : SMth) (o e : Ex)
  | dnw | dsp (a b : Ex) | dix (a b : Ex) | dgt (a b c : Ex) | dsr (a : Ex)
  | dcm (k v : Ex) (tg : Tg) (it : It) (own : List Nat)
  | din (neg : Bool) (a b : Ex) | sup (o : Ex)
  | lc2 (elt : Ex) (tg : Tg) (it : It) (ifs : Exs) (tg1 : Tg) (it1 : It) (ifs1 : Exs) (own vs1 : List Nat)
  | lrg (es : Exs)
  | lc (elt : Ex) (tg : Tg) (it : It) (ifs : Exs) (own : List Nat)
inductive It where
  | seq (e : Ex) | rng (es : Exs) | rgd (a b : Ex) | enm (e : Ex) | zip (a b : Ex) | rev (e : Ex)
inductive Exs where
  | nil
  | cons (e : Ex) (es : Exs)
inductive ExO where
  | none
  | some (e : Ex)
end
mutual
inductive Sm where
  | set (i : Nat) (e : Ex)
  | setT (ts : Tgs) (e : Ex)
  | par (is : List Nat) (es : Exs)
  | setIx (o i e : Ex)
  | setDx (o i e : Ex)
  | ex (e : Ex)
  | ite (c : Ex) (a b : Sms)
  | for (tg : Tg) (it : It) (b : Sms)
  | whl (c : Ex) (b : Sms)
  | ret (e : Ex) | retN | brk | cnt | pas
inductive Sms where
  | nil
  | cons (s : Sm) (ss : Sms)
end

/-! ### operations on data -/
mutual
def toP : D → Option PyData
  | .non => some .none
  | .bl b => some (.bool b)
  | .int i => some (.int i)
  | .str s => some (.str s)
  | .tup xs => (toPs xs).map .tuple
  | .ref _ => none
def toPs : List D → Option (List PyData)
  | [] => some []
  | d :: ds => (toP d).bind fun p => (toPs ds).map fun ps => p :: ps
end
/-- the items of a list of the store -/
def seqOf (S : St) (n : Nat) : Option (List D) :=
  match S[n]? with
  | some (.lst xs) => some xs
  | some (.fro xs) => some xs
  | _ => none
mutual
/-- data whose tuples may hold lists of plain things -/
def toPR (S : St) : D → Option PyData
  | .non => some .none
  | .bl b => some (.bool b)
  | .int i => some (.int i)
  | .str s => some (.str s)
  | .tup xs => (toPRs S xs).map .tuple
  | .ref n => (seqOf S n).bind fun xs => (toPs xs).map .list
def toPRs (S : St) : List D → Option (List PyData)
  | [] => some []
  | d :: ds => (toPR S d).bind fun p => (toPRs S ds).map fun ps => p :: ps
end
def toPS (S : St) : D → Option PyData
  | .ref n => (seqOf S n).bind fun xs => (toPRs S xs).map .list
  | d => toPR S d
/-- what sorted makes of them -/
def sortD (S : St) (ds : List D) : List D := ds.mergeSort (PySem.W.dataLe false fun d => (toPR S d).getD .none)
def eqB (S : St) (x y : D) : Option Bool :=
  match toPS S x, toPS S y with
  | some p, some q => if SeqAt.shaped p = true ∧ SeqAt.shaped q = true then some (PyData.eqv p q) else none
  | _, _ => none
def truD (S : St) : D → Option Bool
  | .non => some false
  | .bl b => some b
  | .int i => some (i != 0)
  | .str y => if y.length ≤ sizeLine then some ((y.length : Int) != 0) else none
  | .tup xs => some (!xs.isEmpty)
  | .ref n => (seqOf S n).map fun xs => !xs.isEmpty
def isNon : D → Bool
  | .non => true
  | _ => false
/-- x[lo:hi] -/
def cutD (xs : List D) (lo hi : Option Int) : List D := (xs.drop (HT.sIx xs.length 0 lo)).take (HT.sIx xs.length xs.length hi - HT.sIx xs.length 0 lo)
def intsOf : List D → Option (List Int)
  | [] => some []
  | .int i :: r => (intsOf r).map fun is => i :: is
  | _ => none
def blsOf : List D → Option (List Bool)
  | [] => some []
  | .bl i :: r => (blsOf r).map fun is => i :: is
  | _ => none
/-- the items of a tuple or a list -/
def itemsOf (S : St) : D → Option (List D)
  | .tup xs => some xs
  | .ref n => seqOf S n
  | _ => none
def flatD : D → Bool
  | .non => true
  | .bl _ => true
  | .int _ => true
  | .str _ => true
  | _ => false
def eqF : D → D → Bool
  | .non, .non => true
  | .bl a, .bl b => a == b
  | .bl a, .int b => (if a then 1 else 0) == b
  | .int a, .bl b => a == (if b then 1 else 0)
  | .int a, .int b => a == b
  | .str a, .str b => a == b
  | _, _ => false
def binW (op : BOp) (x y : D) (S : St) (Q : QD) : Prop :=
  match op, x, y with
  | .add, .int i, .int j => Q (.int (i + j)) S
  | .add, .str a, .str b => a.length + b.length ≤ sizeLine ∧ Q (.str (a ++ b)) S
  | .add, .tup a, .tup b => a.length + b.length ≤ sizeLine ∧ Q (.tup (a ++ b)) S
  | .add, .ref a, .ref b => ∃ xs ys, S[a]? = some (.lst xs) ∧ S[b]? = some (.lst ys) ∧ xs.length + ys.length ≤ sizeLine ∧ Q (.ref S.length) (S ++ [.lst (xs ++ ys)])
  | .sub, .int i, .int j => Q (.int (i - j)) S
  | .mul, .int i, .int j => L2.CMul i j ∧ Q (.int (i * j)) S
  | .mul, .ref a, .int k => ∃ xs, S[a]? = some (.lst xs) ∧ -(2 ^ 63) ≤ k ∧ k < 2 ^ 63 ∧ xs.length * k.toNat ≤ sizeLine ∧ Q (.ref S.length) (S ++ [.lst (List.replicate k.toNat xs).flatten])
  | .mul, .tup a, .int k => (-(2 ^ 63) ≤ k ∧ k ≤ 1000 ∧ a.length ≤ 1000) ∧ Q (.tup (List.replicate k.toNat a).flatten) S
  | .fdiv, .int i, .int j => L2.CDivN i j ∧ Q (.int (i.fdiv j)) S
  | .mod, .int i, .int j => j ≠ 0 ∧ Q (.int (i.fmod j)) S
  | .pow, .int i, .int j => L2.CPow i j ∧ Q (.int (i ^ j.toNat)) S
  | _, _, _ => False
def cmpW (op : COp) (x y : D) (S : St) (Q : Bool → St → Prop) : Prop :=
  match op with
  | .eq => ∃ b, eqB S x y = some b ∧ Q b S
  | .ne => ∃ b, eqB S x y = some b ∧ Q (!b) S
  | .is => y = .non ∧ Q (isNon x) S
  | .isnot => y = .non ∧ Q (!isNon x) S
  | .isin => (∃ xs, itemsOf S y = some xs ∧ flatD x = true ∧ xs.all flatD = true ∧ Q (xs.any fun z => eqF z x) S) ∨ ∃ xs p ps, itemsOf S y = some xs ∧ toPR S x = some p ∧ toPRs S xs = some ps ∧ PyData.canLayAll0 ps = true ∧ SeqAt.shaped p = true ∧ Q (ps.any fun z => PyData.eqv z p) S
  | .notin => (∃ xs, itemsOf S y = some xs ∧ flatD x = true ∧ xs.all flatD = true ∧ Q (!xs.any fun z => eqF z x) S) ∨ ∃ xs p ps, itemsOf S y = some xs ∧ toPR S x = some p ∧ toPRs S xs = some ps ∧ PyData.canLayAll0 ps = true ∧ SeqAt.shaped p = true ∧ Q (!ps.any fun z => PyData.eqv z p) S
  | .lt => match x, y with | .int i, .int j => Q (decide (i < j)) S | _, _ => False
  | .le => match x, y with | .int i, .int j => Q (decide (i ≤ j)) S | _, _ => False
  | .gt => match x, y with | .int i, .int j => Q (decide (j < i)) S | _, _ => False
  | .ge => match x, y with | .int i, .int j => Q (decide (j ≤ i)) S | _, _ => False
def ixW (x y : D) (S : St) (Q : QD) : Prop :=
  match x, y with
  | .tup xs, .int i => ∃ d, L2.atI xs i = some d ∧ Q d S
  | .ref n, .int i => ∃ xs d, seqOf S n = some xs ∧ L2.atI xs i = some d ∧ Q d S
  | .str z, .int i => ∃ c, z.length ≤ sizeLine ∧ L2.atI z.cps.toList i = some c ∧ Q (.str ⟨#[c]⟩) S
  | _, _ => False
def slW (x : D) (lo hi : Option Int) (S : St) (Q : QD) : Prop :=
  match x with
  | .tup xs => Q (.tup (cutD xs lo hi)) S
  | .ref n => ∃ xs, seqOf S n = some xs ∧ Q (.ref S.length) (S ++ [.lst (cutD xs lo hi)])
  | _ => False
def maxOf : List Int → Int
  | [] => 0
  | x :: xs => xs.foldl max x
def minOf : List Int → Int
  | [] => 0
  | x :: xs => xs.foldl min x
def rgD (a b : Int) : List D := (List.range (b - a).toNat).map fun i => D.int (a + (i : Nat))
/-- a, a - 1, .. above b -/
def rgdD (a b : Int) : List D := (List.range (a - b).toNat).map fun i => D.int (a - (i : Nat))
def bltW (f : Blt) (xs : List D) (S : St) (Q : QD) : Prop :=
  match f, xs with
  | .len, [.tup ds] => Q (.int ds.length) S
  | .len, [.ref n] => ∃ ds, seqOf S n = some ds ∧ Q (.int ds.length) S
  | .len, [.str z] => z.length ≤ sizeLine ∧ Q (.int z.length) S
  | .abs, [.int i] => Q (.int (if i < 0 then -i else i)) S
  | .int, [.int i] => Q (.int i) S
  | .int, [.bl b] => Q (.int (if b then 1 else 0)) S
  | .max, [.int i, .int j] => Q (.int (if j > i then j else i)) S
  | .min, [.int i, .int j] => Q (.int (if j < i then j else i)) S
  | .max, [.int i, .int j, .int k] => Q (.int (max (max i j) k)) S
  | .min, [.int i, .int j, .int k] => Q (.int (min (min i j) k)) S
  | .max, [.int i, .int j, .int k, .int l] => Q (.int (max (max (max i j) k) l)) S
  | .min, [.int i, .int j, .int k, .int l] => Q (.int (min (min (min i j) k) l)) S
  | .max, [.ref n] => ∃ ds ns, seqOf S n = some ds ∧ intsOf ds = some ns ∧ 0 < ns.length ∧ Q (.int (maxOf ns)) S
  | .min, [.ref n] => ∃ ds ns, seqOf S n = some ds ∧ intsOf ds = some ns ∧ 0 < ns.length ∧ Q (.int (minOf ns)) S
  | .max, [.tup ds] => ∃ ns, intsOf ds = some ns ∧ 0 < ns.length ∧ Q (.int (maxOf ns)) S
  | .min, [.tup ds] => ∃ ns, intsOf ds = some ns ∧ 0 < ns.length ∧ Q (.int (minOf ns)) S
  | .sum, [.ref n] => ∃ ds ns, seqOf S n = some ds ∧ intsOf ds = some ns ∧ Q (.int ns.sum) S
  | .tuple, [.tup ds] => Q (.tup ds) S
  | .tuple, [.ref n] => ∃ ds, seqOf S n = some ds ∧ Q (.tup ds) S
  | .list, [.tup ds] => Q (.ref S.length) (S ++ [.lst ds])
  | .list, [.ref n] => ∃ ds, seqOf S n = some ds ∧ Q (.ref S.length) (S ++ [.lst ds])
  | .any, [.ref n] => ∃ ds bs, seqOf S n = some ds ∧ blsOf ds = some bs ∧ Q (.bl (bs.any id)) S
  | .all, [.ref n] => ∃ ds bs, seqOf S n = some ds ∧ blsOf ds = some bs ∧ Q (.bl (bs.all id)) S
  | .sorted, [.ref n] => ∃ ds ps, seqOf S n = some ds ∧ toPRs S ds = some ps ∧ PySem.W.AllAlike ps ∧ PySem.W.Sortable ps ∧ (∀ p ∈ ps, p.depth ≤ 60) ∧ Q (.ref S.length) (S ++ [.lst (sortD S ds)])
  | .str, [.int i] => i.natAbs.log2 < 1920 ∧ Q (.str (toString i)) S
  | _, _ => False
def isTy : Ty → D → Option Bool
  | .tuple, .tup _ => some true
  | .tuple, _ => some false
  | .list, .ref _ => none
  | .list, _ => some false
  | .str, .str _ => some true
  | .str, _ => some false
  | .bool, .bl _ => some true
  | .bool, _ => some false
  | .int, .int _ => some true
  | .int, .bl _ => some true
  | .int, _ => some false
/-- where list.insert puts it -/
def insAt (n : Nat) (i : Int) : Nat := if i < 0 then (i + n).toNat else min i.toNat n
def mthW (m : Mth) (x : D) (xs : List D) (S : St) (Q : QD) : Prop :=
  match m, x, xs with
  | .append, .ref n, [y] => ∃ ds, S[n]? = some (.lst ds) ∧ ds.length < sizeLine ∧ Q .non (S.set n (.lst (ds ++ [y])))
  | .insert, .ref n, [.int i, y] => ∃ ds, S[n]? = some (.lst ds) ∧ ds.length < sizeLine ∧ 0 ≤ i ∧ i ≤ ds.length ∧ Q .non (S.set n (.lst (ds.take i.toNat ++ y :: ds.drop i.toNat)))
  | .pop, .ref n, [] => ∃ ds y, S[n]? = some (.lst ds) ∧ ds[ds.length - 1]? = some y ∧ Q y (S.set n (.lst ds.dropLast))
  | .pop, .ref n, [.int i] => ∃ ds k y, S[n]? = some (.lst ds) ∧ -(2 ^ 63) ≤ i ∧ i < 2 ^ 63 ∧ seqIndex? i ds.length = some k ∧ ds[k]? = some y ∧ Q y (S.set n (.lst (ds.eraseIdx k)))
  | .extend, .ref n, [.ref b] => ∃ ds es, S[n]? = some (.lst ds) ∧ S[b]? = some (.lst es) ∧ ds.length + es.length ≤ sizeLine ∧ Q .non (S.set n (.lst (ds ++ es)))
  | .index, .ref n, [y] => ∃ ds p ps j z, seqOf S n = some ds ∧ toPR S y = some p ∧ toPRs S ds = some ps ∧ SeqAt.shaped (.list ps) = true ∧ SeqAt.shaped p = true ∧ ps[j]? = some z ∧ PyData.eqv z p = true ∧ (∀ (m : Nat) (z' : PyData), m < j → ps[m]? = some z' → PyData.eqv z' p = false) ∧ Q (.int (j : Nat)) S
  | _, _, _ => False
/-- a list of the store -/
def lstD (S : St) (x : D) : Prop := ∃ n ys, x = .ref n ∧ seqOf S n = some ys
/-- methods of text -/
def smtW (m : SMth) (x y : D) (S : St) (Q : QD) : Prop :=
  match m, x, y with
  | .split, .str a, .str b => (b.length == 0) = false ∧ a.length + 2 ≤ sizeLine ∧ Q (.ref S.length) (S ++ [.lst ((PySem.Txt.split a b).map D.str)])
  | _, _, _ => False
def setIxW (o i v : D) (S : St) (Q : St → Prop) : Prop :=
  match o, i with
  | .ref n, .int k => ∃ xs j, S[n]? = some (.lst xs) ∧ L2.ixN xs.length k = some j ∧ Q (S.set n (.lst (xs.set j v)))
  | _, _ => False
/-! dicts -/
def keyD : D → Option L2.Key
  | .int i => some (.inl i)
  | .str s => some (.inr s)
  | _ => none
/-- what stands at a key -/
def valD (kvs : List (L2.Key × D)) (k : L2.Key) : Option D := (kvs.find? fun kv => decide (kv.1 = k)).map (·.2)
/-- in its place, or at the end -/
def putD (kvs : List (L2.Key × D)) (k : L2.Key) (v : D) : List (L2.Key × D) :=
  if (kvs.any fun kv => decide (kv.1 = k)) = true then kvs.map (fun kv => if kv.1 = k then (kv.1, v) else kv) else kvs ++ [(k, v)]
def dixW (x y : D) (S : St) (Q : QD) : Prop := ∃ n kvs k d, x = .ref n ∧ S[n]? = some (.dic kvs) ∧ keyD y = some k ∧ valD kvs k = some d ∧ Q d S
def dicD (S : St) (x : D) : Prop := ∃ n kvs, x = .ref n ∧ S[n]? = some (.dic kvs)
def dinW (neg : Bool) (x y : D) (S : St) (Q : Bool → St → Prop) : Prop := ∃ n kvs k, y = .ref n ∧ S[n]? = some (.dic kvs) ∧ keyD x = some k ∧ Q (if neg then !(valD kvs k).isSome else (valD kvs k).isSome) S
def supW (x : D) (S : St) (Q : QD) : Prop := ∃ a, x = .str a ∧ a.length ≤ 5592405 ∧ Q (.str (Txt.upper a)) S
def dgtW (x y z : D) (S : St) (Q : QD) : Prop := ∃ n kvs k, x = .ref n ∧ S[n]? = some (.dic kvs) ∧ keyD y = some k ∧ Q ((valD kvs k).getD z) S
def dspW (n : Nat) (x y : D) (S : St) (Q : QD) : Prop := S[n]? = some (.dic []) ∧ ∃ k, keyD x = some k ∧ Q (.ref n) (S.set n (.dic [(k, y)]))
def dsrW (x : D) (S : St) (Q : QD) : Prop := ∃ n kvs ks, x = .ref n ∧ S[n]? = some (.dic kvs) ∧ kvs.map (·.1) = ks.map Sum.inl ∧ ks.length < 64 ∧
  ∀ ys : List Int, ys.Perm ks → ys.Pairwise (· ≤ ·) → Q (.ref S.length) (S ++ [.lst (ys.map D.int)])
def setDxW (o i v : D) (S : St) (Q : St → Prop) : Prop := ∃ n kvs k, o = .ref n ∧ S[n]? = some (.dic kvs) ∧ keyD i = some k ∧ kvs.length < sizeLine ∧ Q (S.set n (.dic (putD kvs k v)))
def varW (i : Nat) (σ : Sg) (S : St) (Q : QD) : Prop := ∃ d, σ[i]? = some (some d) ∧ Q d S
mutual
def gA : Tg → D → Sg → Option Sg
  | .nm i, d, σ => some (σ.set i (some d))
  | .tp ts, .tup ds, σ => gAs ts ds σ
  | .tp _, _, _ => none
def gAs : Tgs → List D → Sg → Option Sg
  | .nil, [], σ => some σ
  | .cons t ts, d :: ds, σ => (gA t d σ).bind fun σ' => gAs ts ds σ'
  | _, _, _ => none
end
def wipeD (σ : Sg) : List Nat → Sg
  | [] => σ
  | v :: vs => (wipeD σ vs).set v none
/-- a comprehension's turns over the items -/
def lcW (G : St → Prop) (tg : Tg) (tt : Sg → St → (Bool → St → Prop) → Prop) (te : Sg → St → QD → Prop) (σ : Sg) : List D → List D → St → (List D → St → Prop) → Prop
  | [], acc, S, Q => G S ∧ Q acc S
  | x :: xs, acc, S, Q => G S ∧ ∃ σ', gA tg x σ = some σ' ∧ tt σ' S fun b S1 =>
      if b = true then te σ' S1 fun y S2 => lcW G tg tt te σ xs (acc ++ [y]) S2 Q else lcW G tg tt te σ xs acc S1 Q
/-- a comprehension of two walks -/
def lc2W (G : St → Prop) (tg : Tg) (tt : Sg → St → (Bool → St → Prop) → Prop) (ti : Sg → St → ((St → Prop) → List D → St → Prop) → Prop) (tg1 : Tg) (tt1 : Sg → St → (Bool → St → Prop) → Prop) (te : Sg → St → QD → Prop) (vs1 : List Nat) (σ : Sg) : List D → List D → St → (List D → St → Prop) → Prop
  | [], acc, S, Q => G S ∧ Q acc S
  | x :: xs, acc, S, Q => G S ∧ ∃ σ', gA tg x σ = some σ' ∧ tt σ' S fun b S1 =>
      if b = true then ti σ' S1 fun G1 ys S2 => acc.length + ys.length < sizeLine ∧ lcW G1 tg1 tt1 te (wipeD σ' vs1) ys acc S2 fun acc' S3 => lc2W G tg tt ti tg1 tt1 te vs1 σ xs acc' S3 Q
      else lc2W G tg tt ti tg1 tt1 te vs1 σ xs acc S1 Q
/-- a dict comprehension's turns over the items -/
def dcW (G : St → Prop) (tg : Tg) (tk tv : Sg → St → QD → Prop) (σ : Sg) : List D → List (L2.Key × D) → St → (List (L2.Key × D) → St → Prop) → Prop
  | [], acc, S, Q => G S ∧ Q acc S
  | x :: xs, acc, S, Q => G S ∧ ∃ σ', gA tg x σ = some σ' ∧ tk σ' S fun y S1 => tv σ' S1 fun z S2 => ∃ k, keyD y = some k ∧ dcW G tg tk tv σ xs (putD acc k z) S2 Q
/-- a range's bounds -/
def rngW (xs : List D) (Q : Int → Int → Prop) : Prop :=
  match xs with
  | [.int j] => -(2 ^ 62) ≤ j ∧ j < 2 ^ 62 ∧ Q 0 j
  | [.int i, .int j] => (-(2 ^ 62) ≤ i ∧ i < 2 ^ 62 ∧ -(2 ^ 62) ≤ j ∧ j < 2 ^ 62) ∧ Q i j
  | _ => False
def noG : St → Prop := fun _ => True
/-- that which is walked stands still -/
def still (d : D) (xs : List D) : St → Prop := fun S => itemsOf S d = some xs

section
variable (C : Nat → List D → St → QD → Prop)
mutual
def wE : Ex → Sg → St → QD → Prop
  | .var i, σ, S, Q => varW i σ S Q
  | .cint k, _, S, Q => Q (.int k) S
  | .cstr s, _, S, Q => Q (.str s) S
  | .cbl b, _, S, Q => Q (.bl b) S
  | .cnon, _, S, Q => Q .non S
  | .bin op a b, σ, S, Q => wE a σ S fun x S1 => wE b σ S1 fun y S2 => binW op x y S2 Q
  | .neg a, σ, S, Q => wE a σ S fun x S1 => ∃ i, x = .int i ∧ Q (.int (-i)) S1
  | .cmp op a b, σ, S, Q => wE a σ S fun x S1 => wE b σ S1 fun y S2 => cmpW op x y S2 fun k S3 => Q (.bl k) S3
  | .cmp2 op op' a b c, σ, S, Q => wE a σ S fun x S1 => wE b σ S1 fun y S2 => cmpW op x y S2 fun k S3 => if k = true then wE c σ S3 fun z S4 => cmpW op' y z S4 fun k' S5 => Q (.bl k') S5 else Q (.bl false) S3
  | .cmp3 op op' op2 a b c d, σ, S, Q => wE a σ S fun x S1 => wE b σ S1 fun y S2 => cmpW op x y S2 fun k S3 => if k = true then wE c σ S3 fun z S4 => cmpW op' y z S4 fun k' S5 => if k' = true then wE d σ S5 fun u S6 => cmpW op2 z u S6 fun k2 S7 => Q (.bl k2) S7 else Q (.bl false) S5 else Q (.bl false) S3
  | .and a b, σ, S, Q => wE a σ S fun x S1 => ∃ k, truD S1 x = some k ∧ if k = true then wE b σ S1 Q else Q x S1
  | .or a b, σ, S, Q => wE a σ S fun x S1 => ∃ k, truD S1 x = some k ∧ if k = true then Q x S1 else wE b σ S1 Q
  | .not a, σ, S, Q => wE a σ S fun x S1 => ∃ k, truD S1 x = some k ∧ Q (.bl (!k)) S1
  | .ite c a b, σ, S, Q => wE c σ S fun x S1 => ∃ k, truD S1 x = some k ∧ if k = true then wE a σ S1 Q else wE b σ S1 Q
  | .tup es, σ, S, Q => wEs es σ S fun xs S1 => xs.length ≤ sizeLine ∧ Q (.tup xs) S1
  | .lst es, σ, S, Q => wEs es σ S fun xs S1 => xs.length ≤ sizeLine ∧ Q (.ref S1.length) (S1 ++ [.lst xs])
  | .ix a b, σ, S, Q => wE a σ S fun x S1 => wE b σ S1 fun y S2 => ixW x y S2 Q
  | .sl a lo hi, σ, S, Q => wE a σ S fun x S1 => wO lo σ S1 fun l S2 => wO hi σ S2 fun h S3 => slW x l h S3 Q
  | .call f es, σ, S, Q => wEs es σ S fun xs S1 => C f xs S1 Q
  | .blt f es, σ, S, Q => wEs es σ S fun xs S1 => bltW f xs S1 Q
  | .isi a t, σ, S, Q => wE a σ S fun x S1 => ∃ b, isTy t x = some b ∧ Q (.bl b) S1
  | .mth m o es, σ, S, Q => wE o σ S fun x S1 => lstD S1 x ∧ wEs es σ S1 fun xs S2 => mthW m x xs S2 Q
  | .smt m o e, σ, S, Q => wE o σ S fun x S1 => (∃ a, x = .str a) ∧ wE e σ S1 fun y S2 => smtW m x y S2 Q
  | .dnw, _, S, Q => Q (.ref S.length) (S ++ [.dic []])
  | .dsp a b, σ, S, Q => wE a σ (S ++ [.dic []]) fun x S1 => wE b σ S1 fun y S2 => dspW S.length x y S2 Q
  | .dix a b, σ, S, Q => wE a σ S fun x S1 => wE b σ S1 fun y S2 => dixW x y S2 Q
  | .dgt a b c, σ, S, Q => wE a σ S fun x S1 => dicD S1 x ∧ wE b σ S1 fun y S2 => wE c σ S2 fun z S3 => dgtW x y z S3 Q
  | .dsr a, σ, S, Q => wE a σ S fun x S1 => dsrW x S1 Q
  | .dcm k v tg it own, σ, S, Q => wI it σ S fun G xs S1 => xs.length < sizeLine ∧
      dcW G tg (fun σ' S' Q' => wE k σ' S' Q') (fun σ' S' Q' => wE v σ' S' Q') (wipeD σ own) xs [] S1 fun acc S2 => Q (.ref S2.length) (S2 ++ [.dic acc])
  | .din neg a b, σ, S, Q => wE a σ S fun x S1 => wE b σ S1 fun y S2 => dinW neg x y S2 fun k S3 => Q (.bl k) S3
  | .sup o, σ, S, Q => wE o σ S fun x S1 => supW x S1 Q
  | .lc2 elt tg it ifs tg1 it1 ifs1 own vs1, σ, S, Q => wI it σ S fun G xs S1 =>
      lc2W G tg (fun σ' S' Q' => wC ifs σ' S' Q') (fun σ' S' R' => wI it1 σ' S' R') tg1 (fun σ' S' Q' => wC ifs1 σ' S' Q') (fun σ' S' Q' => wE elt σ' S' Q') vs1 (wipeD σ own) xs [] S1 fun acc S2 => Q (.ref S2.length) (S2 ++ [.lst acc])
  | .lrg es, σ, S, Q => wEs es σ S fun xs S1 => rngW xs fun a b => (b - a).toNat ≤ 2 ^ 24 ∧ Q (.ref S1.length) (S1 ++ [.lst (rgD a b)])
  | .lc elt tg it ifs own, σ, S, Q => wI it σ S fun G xs S1 => xs.length < sizeLine ∧
      lcW G tg (fun σ' S' Q' => wC ifs σ' S' Q') (fun σ' S' Q' => wE elt σ' S' Q') (wipeD σ own) xs [] S1 fun acc S2 => Q (.ref S2.length) (S2 ++ [.lst acc])
def wI : It → Sg → St → ((St → Prop) → List D → St → Prop) → Prop
  | .seq e, σ, S, R => wE e σ S fun x S1 => ∃ xs, itemsOf S1 x = some xs ∧ R (still x xs) xs S1
  | .rng es, σ, S, R => wEs es σ S fun xs S1 => rngW xs fun a b => R noG (rgD a b) S1
  | .rgd a b, σ, S, R => wE a σ S fun x S1 => wE b σ S1 fun y S2 => ∃ i j, x = .int i ∧ y = .int j ∧ (-(2 ^ 62) ≤ i ∧ i < 2 ^ 62 ∧ -(2 ^ 62) ≤ j ∧ j < 2 ^ 62) ∧ R noG (rgdD i j) S2
  | .enm e, σ, S, R => wE e σ S fun x S1 => ∃ xs, itemsOf S1 x = some xs ∧ R (still x xs) ((List.range xs.length).zipWith (fun i d => .tup [.int (i : Nat), d]) xs) S1
  | .zip a b, σ, S, R => wE a σ S fun x S1 => wE b σ S1 fun y S2 => ∃ xs ys, itemsOf S2 x = some xs ∧ itemsOf S2 y = some ys ∧ R (fun S' => still x xs S' ∧ still y ys S') (List.zipWith (fun d e => .tup [d, e]) xs ys) S2
  | .rev e, σ, S, R => wE e σ S fun x S1 => ∃ xs, itemsOf S1 x = some xs ∧ R (still x xs) xs.reverse S1
def wEs : Exs → Sg → St → (List D → St → Prop) → Prop
  | .nil, _, S, Q => Q [] S
  | .cons e es, σ, S, Q => wE e σ S fun x S1 => wEs es σ S1 fun xs S2 => Q (x :: xs) S2
def wO : ExO → Sg → St → (Option Int → St → Prop) → Prop
  | .none, _, S, Q => Q none S
  | .some e, σ, S, Q => wE e σ S fun x S1 => ∃ i, x = .int i ∧ Q (some i) S1
/-- a clause's tests: none or one -/
def wC : Exs → Sg → St → (Bool → St → Prop) → Prop
  | .nil, _, S, Q => Q true S
  | .cons e .nil, σ, S, Q => wE e σ S fun x S1 => ∃ k, truD S1 x = some k ∧ Q k S1
  | .cons _ (.cons _ _), _, _, _ => False
end
end
/-- a test -/
def wT (C : Nat → List D → St → QD → Prop) (e : Ex) (σ : Sg) (S : St) (Q : Bool → St → Prop) : Prop := wE C e σ S fun x S1 => ∃ k, truD S1 x = some k ∧ Q k S1

/-- what is wanted behind a statement -/
structure En where
  nx : Sg → St → Prop
  rt : QD
  bk : Sg → St → Prop := fun _ _ => False
  ct : Sg → St → Prop := fun _ _ => False
/-- values to names, one by one -/
def parW : List Nat → List D → Sg → (Sg → Prop) → Prop
  | [], [], σ, k => k σ
  | i :: is, x :: xs, σ, k => parW is xs (σ.set i (some x)) k
  | _, _, _, _ => False
abbrev TSt := En → Sg → St → Prop
/-- a for's turns over the items -/
def forW (G : St → Prop) (tg : Tg) (b : TSt) : List D → TSt
  | [], E, σ, S => G S ∧ E.nx σ S
  | x :: xs, E, σ, S => G S ∧ ∃ σ', gA tg x σ = some σ' ∧ b { nx := fun σ2 S2 => forW G tg b xs E σ2 S2, ct := fun σ2 S2 => forW G tg b xs E σ2 S2, bk := E.nx, rt := E.rt } σ' S
def whlW (c : Sg → St → (Bool → St → Prop) → Prop) (b : TSt) : Nat → TSt
  | 0, _, _, _ => False
  | n + 1, E, σ, S => c σ S fun k S1 => if k = true then b { nx := fun σ2 S2 => whlW c b n E σ2 S2, ct := fun σ2 S2 => whlW c b n E σ2 S2, bk := E.nx, rt := E.rt } σ S1 else E.nx σ S1
section
variable (C : Nat → List D → St → QD → Prop)
mutual
def wS : Sm → TSt
  | .set i e, E, σ, S => wE C e σ S fun x S1 => E.nx (σ.set i (some x)) S1
  | .setT ts e, E, σ, S => wE C e σ S fun x S1 => ∃ σ', gA (.tp ts) x σ = some σ' ∧ E.nx σ' S1
  | .par is es, E, σ, S => wEs C es σ S fun xs S1 => parW is xs σ fun σ' => E.nx σ' S1
  | .setIx o i e, E, σ, S => wE C e σ S fun v S1 => wE C o σ S1 fun x S2 => wE C i σ S2 fun y S3 => setIxW x y v S3 fun S4 => E.nx σ S4
  | .setDx o i e, E, σ, S => wE C e σ S fun v S1 => wE C o σ S1 fun x S2 => wE C i σ S2 fun y S3 => setDxW x y v S3 fun S4 => E.nx σ S4
  | .ex e, E, σ, S => wE C e σ S fun _ S1 => E.nx σ S1
  | .ite c a b, E, σ, S => wT C c σ S fun k S1 => if k = true then wSs a E σ S1 else wSs b E σ S1
  | .for tg it b, E, σ, S => wI C it σ S fun G xs S1 => forW G tg (fun E' σ' S' => wSs b E' σ' S') xs E σ S1
  | .whl c b, E, σ, S => ∃ n, whlW (fun σ' S' Q' => wT C c σ' S' Q') (fun E' σ' S' => wSs b E' σ' S') n E σ S
  | .ret e, E, σ, S => wE C e σ S E.rt
  | .retN, E, _, S => E.rt .non S
  | .brk, E, σ, S => E.bk σ S
  | .cnt, E, σ, S => E.ct σ S
  | .pas, E, σ, S => E.nx σ S
def wSs : Sms → TSt
  | .nil, E, σ, S => E.nx σ S
  | .cons s ss, E, σ, S => wS s { nx := fun σ2 S2 => wSs ss E σ2 S2, rt := E.rt, bk := E.bk, ct := E.ct } σ S
end
end
/-- a def: its parameters' number, its slots' number, its body -/
structure FDef where
  name : Str
  np : Nat
  nn : Nat
  body : Sms
def startD (nn : Nat) (ds : List D) : Sg := ds.map some ++ List.replicate (nn - ds.length) none
def callW (T : List FDef) : Nat → Nat → List D → St → QD → Prop
  | 0, _, _, _, _ => False
  | k + 1, f, ds, S, Q => ∃ fd, T[f]? = some fd ∧ ds.length = fd.np ∧ wSs (callW T k) fd.body { nx := fun _ S' => Q .non S', rt := Q } (startD fd.nn ds) S
end Flx

end
section
set_option Elab.async false
set_option linter.all false
set_option autoImplicit false
set_option maxRecDepth 100000
/-! FlxMax: max and min of three and four ints; a chain of three comparisons. -/
namespace Flx
open PySem PySem.Spec PyProof.Rows
section
variable {prog : Program} {w : World} {A : Around} {E : Value → Shared → Prop} {s : Shared}
theorem args_max4 (a b c d : Value) : argsOk "max" ⟨[a, b, c, d], []⟩ := by unfold argsOk; kernel_rfl
theorem args_min4 (a b c d : Value) : argsOk "min" ⟨[a, b, c, d], []⟩ := by unfold argsOk; kernel_rfl
theorem call_max_four {a b c d : Value} {Q : Value → Shared → Prop}
    (h : wpAny (model prog w) A.in1 (pyIter (.ref s.heap.objs.size)) (fun it s₂ => ∃ I fp wr n P St bt, it = .ref I ∧ Walks prog w A.in1 I fp wr n P St ∧ St 0 s₂.heap ∧ (∀ b ∈ fp, b < s₂.heap.objs.size) ∧ 0 < n ∧ CmpOf prog w A.in1 .Gt P bt ∧
      ∀ v h' tk, P (argBest bt (n - 1)) v → (∀ b o, b ∉ wr → s₂.heap.get? b = some o → h'.get? b = some o) → Q v { s₂ with heap := h', toks := tk }) E
      { s with heap := s.heap.push { cls := .type "tuple", data := .seq #[a, b, c, d] } }) :
    wpAny (model prog w) A (call (.builtin "max") [a, b, c, d]) Q E s := by
  have hname : (toString "max" ++ toString ".loop" : String) = "max.loop" := by decide
  refine call_function_tree F.kind_max F.plain_max F.entry_max (args_max4 _ _ _ _) ?_
  show wpAny _ A.in1 (Builtin.Builtins.bindParams "max" ["key", "default"] 0 ⟨[], []⟩ >>= _) _ _ s
  refine wpAny_bind (wpAny_of_eq (show Builtin.Builtins.bindParams "max" ["key", "default"] 0 ⟨[], []⟩ = pure [none, none] from rfl) ?_)
  show wpAny _ A.in1 (newTuple [a, b, c, d] >>= _) _ _ s
  refine wpAny_bind (wpAny_newObj_type ?_)
  refine wpAny_bind (wpAny_mono h (fun it s₂ h₂ => ?_) fun _ _ e => e)
  obtain ⟨I, fp, wr, n, P, St, bt, rfl, W, hst, hfp, hn, hcmp, hQ⟩ := h₂
  refine wpAny_bind (wpAny_newObj_type ?_)
  have hSf : s₂.heap.objs.size ∉ fp := fun hm => Nat.lt_irrefl _ (hfp _ hm)
  rw [hname]
  refine wpAny_pure ⟨plainId_quiet F.plain_max_loop _, codeAny_max_loop_first W bt hcmp s₂.heap.objs.size hSf hn (W.frame _ _ _ hst fun b _ o e => Heap.get?_push_of_some _ e) (Heap.get?_push_size _ rfl) fun v h' tk hP hk => ?_⟩
  exact hQ v h' tk hP fun b o hbw e => hk b o hbw (Nat.ne_of_lt (Heap.lt_size e)) (Heap.get?_push_of_some _ e)
theorem call_min_four {a b c d : Value} {Q : Value → Shared → Prop}
    (h : wpAny (model prog w) A.in1 (pyIter (.ref s.heap.objs.size)) (fun it s₂ => ∃ I fp wr n P St bt, it = .ref I ∧ Walks prog w A.in1 I fp wr n P St ∧ St 0 s₂.heap ∧ (∀ b ∈ fp, b < s₂.heap.objs.size) ∧ 0 < n ∧ CmpOf prog w A.in1 .Lt P bt ∧
      ∀ v h' tk, P (argBest bt (n - 1)) v → (∀ b o, b ∉ wr → s₂.heap.get? b = some o → h'.get? b = some o) → Q v { s₂ with heap := h', toks := tk }) E
      { s with heap := s.heap.push { cls := .type "tuple", data := .seq #[a, b, c, d] } }) :
    wpAny (model prog w) A (call (.builtin "min") [a, b, c, d]) Q E s := by
  have hname : (toString "min" ++ toString ".loop" : String) = "min.loop" := by decide
  refine call_function_tree F.kind_min F.plain_min F.entry_min (args_min4 _ _ _ _) ?_
  show wpAny _ A.in1 (Builtin.Builtins.bindParams "min" ["key", "default"] 0 ⟨[], []⟩ >>= _) _ _ s
  refine wpAny_bind (wpAny_of_eq (show Builtin.Builtins.bindParams "min" ["key", "default"] 0 ⟨[], []⟩ = pure [none, none] from rfl) ?_)
  show wpAny _ A.in1 (newTuple [a, b, c, d] >>= _) _ _ s
  refine wpAny_bind (wpAny_newObj_type ?_)
  refine wpAny_bind (wpAny_mono h (fun it s₂ h₂ => ?_) fun _ _ e => e)
  obtain ⟨I, fp, wr, n, P, St, bt, rfl, W, hst, hfp, hn, hcmp, hQ⟩ := h₂
  refine wpAny_bind (wpAny_newObj_type ?_)
  have hSf : s₂.heap.objs.size ∉ fp := fun hm => Nat.lt_irrefl _ (hfp _ hm)
  rw [hname]
  refine wpAny_pure ⟨plainId_quiet F.plain_min_loop _, codeAny_min_loop_first W bt hcmp s₂.heap.objs.size hSf hn (W.frame _ _ _ hst fun b _ o e => Heap.get?_push_of_some _ e) (Heap.get?_push_size _ rfl) fun v h' tk hP hk => ?_⟩
  exact hQ v h' tk hP fun b o hbw e => hk b o hbw (Nat.ne_of_lt (Heap.lt_size e)) (Heap.get?_push_of_some _ e)
/-- what is asked of a walk over the tuple of the arguments -/
theorem best_of {xs : Array (Int × Tok)} {Q : Value → Shared → Prop} {op : CmpOp} {bt : Nat → Nat → Bool} (hh : A.handled = none) (hne : 0 < xs.size)
    (hc : CmpOf prog w A.in1 op (fun i v => (intItems xs)[i]? = some v) bt)
    (h : ∀ v h' tk, (intItems xs)[argBest bt (xs.size - 1)]? = some v → (∀ d o, s.heap.get? d = some o → h'.get? d = some o) → Q v { s with heap := h', toks := tk }) :
    wpAny (model prog w) A.in1 (pyIter (.ref s.heap.objs.size)) (fun it s₂ => ∃ I fp wr n P St bt, it = .ref I ∧ Walks prog w A.in1 I fp wr n P St ∧ St 0 s₂.heap ∧ (∀ b ∈ fp, b < s₂.heap.objs.size) ∧ 0 < n ∧ CmpOf prog w A.in1 op P bt ∧
      ∀ v h' tk, P (argBest bt (n - 1)) v → (∀ b o, b ∉ wr → s₂.heap.get? b = some o → h'.get? b = some o) → Q v { s₂ with heap := h', toks := tk }) E
      { s with heap := s.heap.push { cls := .type "tuple", data := .seq (intItems xs) } } := by
  have hT : (s.heap.push { cls := .type "tuple", data := .seq (intItems xs) }).IsTuple s.heap.objs.size (intItems xs) := ⟨_, Heap.get?_push_size _ rfl, rfl, 0, rfl⟩
  refine wpAny_pyIter_tuple hT ?_
  have hsz : (s.heap.push { cls := .type "tuple", data := .seq (intItems xs) }).objs.size = s.heap.objs.size + 1 := Heap.size_push ..
  refine ⟨_, [_, s.heap.objs.size], [_], _, _, _, _, rfl, Walks.tuple (A := A.in1) hh _ s.heap.objs.size (by rw [hsz]; exact Nat.ne_of_lt (Nat.lt_succ_self _)) (intItems xs),
    ⟨⟨_, Heap.get?_push_size _ rfl, rfl, rfl⟩, hT.push _⟩, fun d hd => ?_, by simpa [intItems] using hne, hc, fun v h' tk hP hk => ?_⟩
  · show d < ((s.heap.push _).push _).objs.size
    rw [Heap.size_push, hsz]
    rcases List.mem_cons.mp hd with rfl | hd
    · rw [hsz]; exact Nat.lt_succ_self _
    · rcases List.mem_cons.mp hd with rfl | hd
      · exact Nat.lt_succ_of_lt (Nat.lt_succ_self _)
      · cases hd
  · have hold : ∀ d o, s.heap.get? d = some o → h'.get? d = some o := fun d o e => by
      refine hk d o (fun hm => ?_) (Heap.get?_push_of_some _ (Heap.get?_push_of_some _ e))
      rcases List.mem_cons.mp hm with e1 | hm
      · have := Heap.lt_size e; rw [e1, hsz] at this; exact Nat.lt_irrefl _ (Nat.lt_of_succ_lt this)
      · cases hm
    have := h v h' tk (by simpa [intItems] using hP) hold
    simpa using this
theorem max_four_ints {a b c d : Int} {t u x y : Tok} {Q : Value → Shared → Prop} (hh : A.handled = none)
    (h : ∀ h' tk z, (∀ d o, s.heap.get? d = some o → h'.get? d = some o) → Q (.int (max (max (max a b) c) d) z) { s with heap := h', toks := tk }) :
    wpAny (model prog w) A (call (.builtin "max") [.int a t, .int b u, .int c x, .int d y]) Q E s := by
  refine call_max_four ?_
  rw [show (#[Value.int a t, .int b u, .int c x, .int d y] : Array Value) = intItems #[(a, t), (b, u), (c, x), (d, y)] by simp [intItems]]
  refine best_of (xs := #[(a, t), (b, u), (c, x), (d, y)]) hh (by simp) (CmpOf.ints_gt (numAt #[(a, t), (b, u), (c, x), (d, y)]) (fun _ _ => intItems_at)) fun v h' tk hv hk => ?_
  obtain ⟨z, rfl⟩ := intItems_at hv
  obtain ⟨h1, h2⟩ := argBest_gt (numAt #[(a, t), (b, u), (c, x), (d, y)]) 3
  have hv' : argBest (fun i j => decide (numAt #[(a, t), (b, u), (c, x), (d, y)] i > numAt #[(a, t), (b, u), (c, x), (d, y)] j)) ((#[(a, t), (b, u), (c, x), (d, y)] : Array (Int × Tok)).size - 1) =
    argBest (fun i j => decide (numAt #[(a, t), (b, u), (c, x), (d, y)] i > numAt #[(a, t), (b, u), (c, x), (d, y)] j)) 3 := rfl
  rw [hv']
  generalize argBest (fun i j => decide (numAt #[(a, t), (b, u), (c, x), (d, y)] i > numAt #[(a, t), (b, u), (c, x), (d, y)] j)) 3 = k at *
  have e : numAt #[(a, t), (b, u), (c, x), (d, y)] k = max (max (max a b) c) d := by
    have g0 : a ≤ _ := h2 0 (by omega)
    have g1 : b ≤ _ := h2 1 (by omega)
    have g2 : c ≤ _ := h2 2 (by omega)
    have g3 : d ≤ _ := h2 3 (by omega)
    have g4 : numAt #[(a, t), (b, u), (c, x), (d, y)] k = a ∨ numAt #[(a, t), (b, u), (c, x), (d, y)] k = b ∨ numAt #[(a, t), (b, u), (c, x), (d, y)] k = c ∨ numAt #[(a, t), (b, u), (c, x), (d, y)] k = d := by
      have : k = 0 ∨ k = 1 ∨ k = 2 ∨ k = 3 := by omega
      rcases this with rfl | rfl | rfl | rfl
      · exact Or.inl rfl
      · exact Or.inr (Or.inl rfl)
      · exact Or.inr (Or.inr (Or.inl rfl))
      · exact Or.inr (Or.inr (Or.inr rfl))
    omega
  rw [e]
  exact h _ _ _ hk
theorem min_four_ints {a b c d : Int} {t u x y : Tok} {Q : Value → Shared → Prop} (hh : A.handled = none)
    (h : ∀ h' tk z, (∀ d o, s.heap.get? d = some o → h'.get? d = some o) → Q (.int (min (min (min a b) c) d) z) { s with heap := h', toks := tk }) :
    wpAny (model prog w) A (call (.builtin "min") [.int a t, .int b u, .int c x, .int d y]) Q E s := by
  refine call_min_four ?_
  rw [show (#[Value.int a t, .int b u, .int c x, .int d y] : Array Value) = intItems #[(a, t), (b, u), (c, x), (d, y)] by simp [intItems]]
  refine best_of (xs := #[(a, t), (b, u), (c, x), (d, y)]) hh (by simp) (CmpOf.ints_lt (numAt #[(a, t), (b, u), (c, x), (d, y)]) (fun _ _ => intItems_at)) fun v h' tk hv hk => ?_
  obtain ⟨z, rfl⟩ := intItems_at hv
  obtain ⟨h1, h2⟩ := argBest_lt (numAt #[(a, t), (b, u), (c, x), (d, y)]) 3
  have hv' : argBest (fun i j => decide (numAt #[(a, t), (b, u), (c, x), (d, y)] i < numAt #[(a, t), (b, u), (c, x), (d, y)] j)) ((#[(a, t), (b, u), (c, x), (d, y)] : Array (Int × Tok)).size - 1) =
    argBest (fun i j => decide (numAt #[(a, t), (b, u), (c, x), (d, y)] i < numAt #[(a, t), (b, u), (c, x), (d, y)] j)) 3 := rfl
  rw [hv']
  generalize argBest (fun i j => decide (numAt #[(a, t), (b, u), (c, x), (d, y)] i < numAt #[(a, t), (b, u), (c, x), (d, y)] j)) 3 = k at *
  have e : numAt #[(a, t), (b, u), (c, x), (d, y)] k = min (min (min a b) c) d := by
    have g0 : _ ≤ a := h2 0 (by omega)
    have g1 : _ ≤ b := h2 1 (by omega)
    have g2 : _ ≤ c := h2 2 (by omega)
    have g3 : _ ≤ d := h2 3 (by omega)
    have g4 : numAt #[(a, t), (b, u), (c, x), (d, y)] k = a ∨ numAt #[(a, t), (b, u), (c, x), (d, y)] k = b ∨ numAt #[(a, t), (b, u), (c, x), (d, y)] k = c ∨ numAt #[(a, t), (b, u), (c, x), (d, y)] k = d := by
      have : k = 0 ∨ k = 1 ∨ k = 2 ∨ k = 3 := by omega
      rcases this with rfl | rfl | rfl | rfl
      · exact Or.inl rfl
      · exact Or.inr (Or.inl rfl)
      · exact Or.inr (Or.inr (Or.inl rfl))
      · exact Or.inr (Or.inr (Or.inr rfl))
    omega
  rw [e]
  exact h _ _ _ hk
end
section
variable {X : L2.Cx}
theorem vals3 {x y z : L2.V} {us : List Value} (r : L2.Vals [x, y, z] us) : ∃ u v w, us = [u, v, w] ∧ L2.RelV x u ∧ L2.RelV y v ∧ L2.RelV z w := by
  cases r with
  | cons r1 r2 =>
    obtain ⟨u, v, rfl, r3, r4⟩ := L2.vals2 r2
    exact ⟨_, _, _, rfl, r1, r3, r4⟩
theorem vals4 {x y z a : L2.V} {us : List Value} (r : L2.Vals [x, y, z, a] us) : ∃ u v w b, us = [u, v, w, b] ∧ L2.RelV x u ∧ L2.RelV y v ∧ L2.RelV z w ∧ L2.RelV a b := by
  cases r with
  | cons r1 r2 =>
    obtain ⟨u, v, w, rfl, r3, r4, r5⟩ := vals3 r2
    exact ⟨_, _, _, _, rfl, r1, r3, r4, r5⟩
def rMax3 : List L2.V → L2.Hp → L2.VK → Prop := fun xs H Q => ∃ i j k, xs = [.int i, .int j, .int k] ∧ Q (.int (max (max i j) k)) H
def rMin3 : List L2.V → L2.Hp → L2.VK → Prop := fun xs H Q => ∃ i j k, xs = [.int i, .int j, .int k] ∧ Q (.int (min (min i j) k)) H
def rMax4 : List L2.V → L2.Hp → L2.VK → Prop := fun xs H Q => ∃ i j k l, xs = [.int i, .int j, .int k, .int l] ∧ Q (.int (max (max (max i j) k) l)) H
def rMin4 : List L2.V → L2.Hp → L2.VK → Prop := fun xs H Q => ∃ i j k l, xs = [.int i, .int j, .int k, .int l] ∧ Q (.int (min (min (min i j) k) l)) H
theorem call_max3 (hc : X.calm = true) : L2.CallR X (.builtin "max") rMax3 := by
  intro pins s σ H xs us Q I r h
  obtain ⟨i, j, k, rfl, q⟩ := h
  obtain ⟨u, v, w', rfl, ⟨t, rfl⟩, ⟨t', rfl⟩, ⟨t2, rfl⟩⟩ := vals3 r
  refine max_three_ints (I.ok.hd hc) fun h' tk kk => ⟨_, H, I.kept kk, ?_, q⟩
  by_cases h1 : j > i
  · by_cases h2 : k > j
    · rw [if_pos h1, if_pos h2]; exact ⟨_, by congr 1; omega⟩
    · rw [if_pos h1, if_neg h2]; exact ⟨_, by congr 1; omega⟩
  · by_cases h2 : k > i
    · rw [if_neg h1, if_pos h2]; exact ⟨_, by congr 1; omega⟩
    · rw [if_neg h1, if_neg h2]; exact ⟨_, by congr 1; omega⟩
theorem call_min3 (hc : X.calm = true) : L2.CallR X (.builtin "min") rMin3 := by
  intro pins s σ H xs us Q I r h
  obtain ⟨i, j, k, rfl, q⟩ := h
  obtain ⟨u, v, w', rfl, ⟨t, rfl⟩, ⟨t', rfl⟩, ⟨t2, rfl⟩⟩ := vals3 r
  refine min_three_ints (I.ok.hd hc) fun h' tk kk => ⟨_, H, I.kept kk, ?_, q⟩
  by_cases h1 : j < i
  · by_cases h2 : k < j
    · rw [if_pos h1, if_pos h2]; exact ⟨_, by congr 1; omega⟩
    · rw [if_pos h1, if_neg h2]; exact ⟨_, by congr 1; omega⟩
  · by_cases h2 : k < i
    · rw [if_neg h1, if_pos h2]; exact ⟨_, by congr 1; omega⟩
    · rw [if_neg h1, if_neg h2]; exact ⟨_, by congr 1; omega⟩
theorem call_max4 (hc : X.calm = true) : L2.CallR X (.builtin "max") rMax4 := by
  intro pins s σ H xs us Q I r h
  obtain ⟨i, j, k, l, rfl, q⟩ := h
  obtain ⟨u, v, w', b, rfl, ⟨t, rfl⟩, ⟨t', rfl⟩, ⟨t2, rfl⟩, ⟨t3, rfl⟩⟩ := vals4 r
  exact max_four_ints (I.ok.hd hc) fun h' tk z kk => ⟨.int _, H, I.kept kk, ⟨z, rfl⟩, q⟩
theorem call_min4 (hc : X.calm = true) : L2.CallR X (.builtin "min") rMin4 := by
  intro pins s σ H xs us Q I r h
  obtain ⟨i, j, k, l, rfl, q⟩ := h
  obtain ⟨u, v, w', b, rfl, ⟨t, rfl⟩, ⟨t', rfl⟩, ⟨t2, rfl⟩, ⟨t3, rfl⟩⟩ := vals4 r
  exact min_four_ints (I.ok.hd hc) fun h' tk z kk => ⟨.int _, H, I.kept kk, ⟨z, rfl⟩, q⟩
/-! a op1 b op2 c op3 d -/
def tChain3 (r r' r2 : L2.R2) (ta tb tc td : L2.TE) : L2.TE := fun σ H Q => ta σ H fun x H1 => tb σ H1 fun y H2 => r x y H2 fun z H3 => ∃ k, z = .bl k ∧
  (if k = true then tc σ H3 fun w' H4 => r' y w' H4 fun z2 H5 => ∃ k', z2 = .bl k' ∧ (if k' = true then td σ H5 fun w2 H6 => r2 w' w2 H6 Q else Q (.bl false) H5) else Q (.bl false) H3)
variable {a b c d : Expr} {pos : Pos} {ta tb tc td : L2.TE}
theorem pe_chain3 {op op' op2 : CmpOp} {r r' r2 : L2.R2} (ho : L2.OpR X (compareOp op) r) (ho' : L2.OpR X (compareOp op') r') (ho2 : L2.OpR X (compareOp op2) r2) (ha : L2.PE X a ta) (hb : L2.PE X b tb) (hc : L2.PE X c tc) (hd : L2.PE X d td)
    (hm : lastMarks [op, op', op2] [b, c, d] = false) : L2.PE X (.Compare a [op, op', op2] [b, c, d] pos) (tChain3 r r' r2 ta tb tc td) := by
  refine ⟨fun pins s σ H Q I h => ?_⟩
  refine Compare_chain (L2.thn (ha.run pins s σ H _ I h) fun v s1 ⟨x, H1, I1, r1, q1⟩ => chain_link (L2.thn (hb.run pins s1 σ H1 _ I1 q1) fun u s2 ⟨y, H2, I2, r2, q2⟩ =>
    L2.thn (ho pins s2 σ H2 x y v u _ I2 r1 r2 q2) fun d s3 ⟨z, H3, I3, r3, k, e, q3⟩ => ?_)) hm
  subst e
  cases r3
  refine wpAny_truthy_bool ?_
  cases k with
  | false => exact ite_ff ⟨.bl false, H3, I3, rfl, q3⟩
  | true =>
    refine ite_tt (chain_link (L2.thn (hc.run pins s3 σ H3 _ I3 q3) fun w' s4 ⟨z', H4, I4, r4, q4⟩ => L2.thn (ho' pins s4 σ H4 y z' u w' _ I4 r2 r4 q4) fun d' s5 ⟨z2, H5, I5, r5, k2, e2, q5⟩ => ?_))
    subst e2
    cases r5
    refine wpAny_truthy_bool ?_
    cases k2 with
    | false => exact ite_ff ⟨.bl false, H5, I5, rfl, q5⟩
    | true => exact ite_tt (chain_last (L2.thn (hd.run pins s5 σ H5 _ I5 q5) fun w2 s6 ⟨z3, H6, I6, r6, q6⟩ => ho2 pins s6 σ H6 z' z3 w' w2 Q I6 r4 r6 q6))
theorem pt_chain3 {op op' op2 : CmpOp} {r r' r2 : L2.R2} (ho : L2.OpR X (compareOp op) r) (ho' : L2.OpR X (compareOp op') r') (ho2 : L2.OpR X (compareOp op2) r2) (ha : L2.PE X a ta) (hb : L2.PE X b tb) (hc : L2.PE X c tc) (hd : L2.PE X d td)
    (hm : lastMarks [op, op', op2] [b, c, d] = false) : L2.PT X (.Compare a [op, op', op2] [b, c, d] pos) (L2.tTest (tChain3 r r' r2 ta tb tc td)) := by
  refine ⟨fun pins s σ H Q I h => ?_⟩
  refine isTrue_chain (L2.thn (ha.run pins s σ H _ I h) fun v s1 ⟨x, H1, I1, r1, q1⟩ => test_link (L2.thn (hb.run pins s1 σ H1 _ I1 q1) fun u s2 ⟨y, H2, I2, r2, q2⟩ =>
    L2.thn (ho pins s2 σ H2 x y v u _ I2 r1 r2 q2) fun d s3 ⟨z, H3, I3, r3, k, e, q3⟩ => ?_)) hm
  subst e
  cases r3
  refine wpAny_truthy_bool ?_
  cases k with
  | false =>
    obtain ⟨k', e', q'⟩ := q3
    cases e'
    exact ite_ff ⟨H3, I3, q'⟩
  | true =>
    refine ite_tt (test_link (L2.thn (hc.run pins s3 σ H3 _ I3 q3) fun w' s4 ⟨z', H4, I4, r4, q4⟩ => L2.thn (ho' pins s4 σ H4 y z' u w' _ I4 r2 r4 q4) fun d' s5 ⟨z2, H5, I5, r5, k2, e2, q5⟩ => ?_))
    subst e2
    cases r5
    refine wpAny_truthy_bool ?_
    cases k2 with
    | false =>
      obtain ⟨k', e', q'⟩ := q5
      cases e'
      exact ite_ff ⟨H5, I5, q'⟩
    | true =>
      refine ite_tt (test_last (L2.thn (hd.run pins s5 σ H5 _ I5 q5) fun w2 s6 ⟨z3, H6, I6, r6, q6⟩ => L2.thn (ho2 pins s6 σ H6 z' z3 w' w2 _ I6 r4 r6 q6) fun d2 s7 ⟨z4, H7, I7, r7, k3, e3, q7⟩ => ?_))
      subst e3
      cases r7
      exact wpAny_truthy_bool ⟨H7, I7, q7⟩
end
end Flx

end
section
set_option Elab.async false
set_option linter.all false
set_option maxRecDepth 100000
set_option autoImplicit false
/-! FlxRel: how pure data stands for values of the heap; what is kept; mono. -/
namespace Flx
open PySem PySem.Spec PyProof.Rows
abbrev K' := PySem.W.Frag

section
variable (K : K') (m : List Addr) (H : L2.Hp)
mutual
def RD : D → L2.V → Prop
  | .non, v => v = .non
  | .bl b, v => v = .bl b
  | .int i, v => v = .int i
  | .str s, v => v = .str s
  | .tup ds, v => ∃ a vs, v = .ref a ∧ L2.SqT K H a vs ∧ RDs ds vs
  | .ref n, v => ∃ a, v = .ref a ∧ m[n]? = some a
def RDs : List D → List L2.V → Prop
  | [], vs => vs = []
  | d :: ds, vs => ∃ v r, vs = v :: r ∧ RD d v ∧ RDs ds r
end
end
/-- a list that is read alone: known to the object, or one of the module's -/
def Fro (K : K') (H : L2.Hp) (a : Addr) (vs : List L2.V) : Prop :=
  (∃ o, H a = some (.frz o (.lst vs))) ∨
    ∃ (o : Obj) (its : Array Value) (n : Nat), K.lookup a = some o ∧ o.cls = .type "list" ∧ o.dict = none ∧ o.data = .seq its n ∧ its.size ≤ sizeLine ∧ L2.Vals vs its.toList
theorem Fro.sq {K : K'} {H : L2.Hp} {a : Addr} {vs : List L2.V} (h : Fro K H a vs) : L2.SqL K H a vs := by
  rcases h with ⟨o, h⟩ | h
  · exact .inl (.inr ⟨o, h⟩)
  · exact .inr h
section
variable (K : K') (m : List Addr) (H : L2.Hp)
/-- a cell stands at a -/
def RM (o : MO) (a : Addr) : Prop :=
  match o with
  | .lst ds => ∃ vs, H a = some (.lst vs) ∧ RDs K m H ds vs
  | .fro ds => ∃ vs, Fro K H a vs ∧ RDs K m H ds vs
  | .dic kvs => ∃ vs, H a = some (.dK vs) ∧ vs.map (·.1) = kvs.map (·.1) ∧ RDs K m H (kvs.map (·.2)) (vs.map (·.2))
end
/-- what a writable cell may hold -/
def HW : L2.HO → Prop
  | .lst _ => True
  | .dK _ => True
  | _ => False
/-- what may be written -/
def Wr (m : List Addr) (S : St) (a : Addr) : Prop := ∃ (n : Nat) (o : MO), m[n]? = some a ∧ S[n]? = some o ∧ o.mut = true
structure RS (K : K') (m : List Addr) (S : St) (H : L2.Hp) : Prop where
  len : m.length = S.length
  at' : ∀ (n : Nat) (o : MO) (a : Addr), S[n]? = some o → m[n]? = some a → RM K m H o a
  inj : ∀ (n n' : Nat) (o o' : MO) (a : Addr), S[n]? = some o → S[n']? = some o' → o.mut = true → o'.mut = true → m[n]? = some a → m[n']? = some a → n = n'
structure Xt (m : List Addr) (S : St) (H : L2.Hp) (m' : List Addr) (S' : St) (H' : L2.Hp) : Prop where
  pre : ∃ r, m' = m ++ r
  keep : ∀ a o, H a = some o → ¬ Wr m S a → H' a = some o
  new : ∀ a, Wr m' S' a → Wr m S a ∨ H a = none

theorem Xt.refl {m : List Addr} {S : St} {H : L2.Hp} : Xt m S H m S H := ⟨⟨[], by simp⟩, fun _ _ h _ => h, fun _ h => .inl h⟩
theorem Xt.trans {m m1 m2 : List Addr} {S S1 S2 : St} {H H1 H2 : L2.Hp} (x : Xt m S H m1 S1 H1) (y : Xt m1 S1 H1 m2 S2 H2) : Xt m S H m2 S2 H2 := by
  obtain ⟨r1, rfl⟩ := x.pre
  obtain ⟨r2, rfl⟩ := y.pre
  have free : ∀ a, H1 a = none → ¬ Wr m S a → H a = none := fun a h n => by
    cases e : H a with
    | none => rfl
    | some o => rw [x.keep a o e n] at h; cases h
  refine ⟨⟨r1 ++ r2, by simp⟩, fun a o h n => ?_, fun a h => ?_⟩
  · refine y.keep a o (x.keep a o h n) fun w => ?_
    rcases x.new a w with w | w
    · exact n w
    · rw [w] at h; cases h
  · by_cases n : Wr m S a
    · exact .inl n
    · rcases y.new a h with w | w
      · exact x.new a w
      · exact .inr (free a w n)
theorem Xt.get {m m' : List Addr} {S S' : St} {H H' : L2.Hp} (x : Xt m S H m' S' H') {n : Nat} {a : Addr} (h : m[n]? = some a) : m'[n]? = some a := by
  obtain ⟨r, rfl⟩ := x.pre
  rw [List.getElem?_append_left (by exact (List.getElem?_eq_some_iff.mp h).1)]
  exact h
/-- a writable cell stands as a list -/
theorem RS.wr {K : K'} {m : List Addr} {S : St} {H : L2.Hp} (r : RS K m S H) {a : Addr} (w : Wr m S a) : ∃ u, H a = some u ∧ HW u := by
  obtain ⟨n, o, h1, h2, h3⟩ := w
  have q := r.at' n o a h2 h1
  cases o with
  | lst ds => obtain ⟨vs, e, _⟩ := q; exact ⟨_, e, trivial⟩
  | fro ds => cases h3
  | dic ds => obtain ⟨vs, e, _⟩ := q; exact ⟨_, e, trivial⟩
theorem sqT_keep {K : K'} {m m' : List Addr} {S S' : St} {H H' : L2.Hp} (r : RS K m S H) (x : Xt m S H m' S' H') {a : Addr} {vs : List L2.V} (h : L2.SqT K H a vs) : L2.SqT K H' a vs := by
  rcases h with (h | ⟨o, h⟩) | h
  · refine .inl (.inl (x.keep a _ h fun w => ?_))
    obtain ⟨us, e, z⟩ := r.wr w
    rw [h] at e; cases e; exact z
  · refine .inl (.inr ⟨o, x.keep a _ h fun w => ?_⟩)
    obtain ⟨us, e, z⟩ := r.wr w
    rw [h] at e; cases e; exact z
  · exact .inr h
mutual
theorem RD.keep {K : K'} {m m' : List Addr} {S S' : St} {H H' : L2.Hp} (r : RS K m S H) (x : Xt m S H m' S' H') : ∀ {d : D} {v : L2.V}, RD K m H d v → RD K m' H' d v
  | .non, _, h => h
  | .bl _, _, h => h
  | .int _, _, h => h
  | .str _, _, h => h
  | .tup ds, v, h => by
    obtain ⟨a, vs, e, h1, h2⟩ := h
    exact ⟨a, vs, e, sqT_keep r x h1, RDs.keep r x h2⟩
  | .ref n, v, h => by
    obtain ⟨a, e, h1⟩ := h
    exact ⟨a, e, x.get h1⟩
theorem RDs.keep {K : K'} {m m' : List Addr} {S S' : St} {H H' : L2.Hp} (r : RS K m S H) (x : Xt m S H m' S' H') : ∀ {ds : List D} {vs : List L2.V}, RDs K m H ds vs → RDs K m' H' ds vs
  | [], _, h => h
  | d :: ds, vs, h => by
    obtain ⟨v, rr, e, h1, h2⟩ := h
    exact ⟨v, rr, e, RD.keep r x h1, RDs.keep r x h2⟩
end
theorem RDs.length {K : K'} {m : List Addr} {H : L2.Hp} : ∀ {ds : List D} {vs : List L2.V}, RDs K m H ds vs → ds.length = vs.length
  | [], _, h => by
    have e : _ = [] := h
    rw [e]; rfl
  | d :: ds, vs, h => by
    obtain ⟨v, rr, e, _, h2⟩ := h
    rw [e, List.length_cons, List.length_cons, RDs.length h2]
theorem RDs.get {K : K'} {m : List Addr} {H : L2.Hp} : ∀ {ds : List D} {vs : List L2.V} {i : Nat} {d : D}, RDs K m H ds vs → ds[i]? = some d → ∃ v, vs[i]? = some v ∧ RD K m H d v
  | [], _, _, _, _, e => by simp at e
  | d :: ds, vs, 0, d', h, e => by
    obtain ⟨v, rr, rfl, h1, _⟩ := h
    have e' : d = d' := by simpa using e
    subst e'
    exact ⟨v, rfl, h1⟩
  | d :: ds, vs, i + 1, d', h, e => by
    obtain ⟨v, rr, rfl, _, h2⟩ := h
    obtain ⟨w, e1, e2⟩ := RDs.get (i := i) h2 (by simpa using e)
    exact ⟨w, by simpa using e1, e2⟩
theorem RDs.append {K : K'} {m : List Addr} {H : L2.Hp} : ∀ {ds es : List D} {vs ws : List L2.V}, RDs K m H ds vs → RDs K m H es ws → RDs K m H (ds ++ es) (vs ++ ws)
  | [], _, _, _, h, h' => by
    have e : _ = [] := h
    rw [e]
    exact h'
  | d :: ds, es, vs, ws, h, h' => by
    obtain ⟨v, rr, rfl, h1, h2⟩ := h
    exact ⟨v, rr ++ ws, rfl, h1, RDs.append h2 h'⟩
theorem RDs.set {K : K'} {m : List Addr} {H : L2.Hp} {d : D} {v : L2.V} (hd : RD K m H d v) : ∀ {ds : List D} {vs : List L2.V} (i : Nat), RDs K m H ds vs → RDs K m H (ds.set i d) (vs.set i v)
  | [], vs, i, h => by
    have e : vs = [] := h
    rw [e]
    exact rfl
  | d' :: ds, vs, 0, h => by
    obtain ⟨w, rr, rfl, _, h2⟩ := h
    exact ⟨v, rr, rfl, hd, h2⟩
  | d' :: ds, vs, i + 1, h => by
    obtain ⟨w, rr, rfl, h1, h2⟩ := h
    exact ⟨w, rr.set i v, rfl, h1, RDs.set hd i h2⟩
theorem RDs.take {K : K'} {m : List Addr} {H : L2.Hp} : ∀ {ds : List D} {vs : List L2.V} (i : Nat), RDs K m H ds vs → RDs K m H (ds.take i) (vs.take i)
  | _, _, 0, _ => rfl
  | [], vs, i + 1, h => by
    have e : vs = [] := h
    rw [e]
    exact rfl
  | d :: ds, vs, i + 1, h => by
    obtain ⟨w, rr, rfl, h1, h2⟩ := h
    exact ⟨w, rr.take i, rfl, h1, RDs.take i h2⟩
theorem RDs.drop {K : K'} {m : List Addr} {H : L2.Hp} : ∀ {ds : List D} {vs : List L2.V} (i : Nat), RDs K m H ds vs → RDs K m H (ds.drop i) (vs.drop i)
  | _, _, 0, h => h
  | [], vs, i + 1, h => by
    have e : vs = [] := h
    rw [e]
    exact rfl
  | d :: ds, vs, i + 1, h => by
    obtain ⟨w, rr, rfl, h1, h2⟩ := h
    exact RDs.drop i h2
theorem RDs.erase {K : K'} {m : List Addr} {H : L2.Hp} : ∀ {ds : List D} {vs : List L2.V} (i : Nat), RDs K m H ds vs → RDs K m H (ds.eraseIdx i) (vs.eraseIdx i)
  | [], vs, i, h => by
    have e : vs = [] := h
    rw [e]
    exact rfl
  | d :: ds, vs, 0, h => by
    obtain ⟨w, rr, rfl, h1, h2⟩ := h
    exact h2
  | d :: ds, vs, i + 1, h => by
    obtain ⟨w, rr, rfl, h1, h2⟩ := h
    exact ⟨w, rr.eraseIdx i, rfl, h1, RDs.erase i h2⟩
theorem RDs.rep {K : K'} {m : List Addr} {H : L2.Hp} {ds : List D} {vs : List L2.V} (h : RDs K m H ds vs) : ∀ k : Nat, RDs K m H (List.replicate k ds).flatten (List.replicate k vs).flatten
  | 0 => rfl
  | k + 1 => by
    rw [List.replicate_succ, List.replicate_succ, List.flatten_cons, List.flatten_cons]
    exact h.append (RDs.rep h k)
theorem RDs.reverse {K : K'} {m : List Addr} {H : L2.Hp} : ∀ {ds : List D} {vs : List L2.V}, RDs K m H ds vs → RDs K m H ds.reverse vs.reverse
  | [], vs, h => by
    have e : vs = [] := h
    rw [e]
    exact rfl
  | d :: ds, vs, h => by
    obtain ⟨w, rr, rfl, h1, h2⟩ := h
    rw [List.reverse_cons, List.reverse_cons]
    exact (RDs.reverse h2).append ⟨w, [], rfl, h1, rfl⟩
theorem RDs.map_int {K : K'} {m : List Addr} {H : L2.Hp} : ∀ (ns : List Int), RDs K m H (ns.map D.int) (ns.map L2.V.int)
  | [] => rfl
  | n :: ns => ⟨.int n, _, rfl, rfl, RDs.map_int ns⟩
theorem RDs.cut {K : K'} {m : List Addr} {H : L2.Hp} {ds : List D} {vs : List L2.V} (h : RDs K m H ds vs) (lo hi : Option Int) : RDs K m H (cutD ds lo hi) (L2.cutV vs lo hi) := by
  unfold cutD L2.cutV
  rw [h.length]
  exact (h.drop _).take _
theorem RDs.ints {K : K'} {m : List Addr} {H : L2.Hp} : ∀ {ds : List D} {vs : List L2.V} {ns : List Int}, RDs K m H ds vs → intsOf ds = some ns → vs = ns.map L2.V.int
  | [], vs, ns, h, e => by
    have e1 : vs = [] := h
    have e2 : ns = [] := by simpa [intsOf] using e.symm
    rw [e1, e2]; rfl
  | .int i :: ds, vs, ns, h, e => by
    obtain ⟨w, rr, rfl, h1, h2⟩ := h
    cases q : intsOf ds with
    | none => simp [intsOf, q] at e
    | some js =>
      have e2 : i :: js = ns := by simpa [intsOf, q] using e
      have h1' : w = .int i := h1
      rw [h1', ← e2, RDs.ints h2 q]; rfl
  | .non :: _, _, _, _, e => by simp [intsOf] at e
  | .bl _ :: _, _, _, _, e => by simp [intsOf] at e
  | .str _ :: _, _, _, _, e => by simp [intsOf] at e
  | .tup _ :: _, _, _, _, e => by simp [intsOf] at e
  | .ref _ :: _, _, _, _, e => by simp [intsOf] at e
theorem RDs.bls {K : K'} {m : List Addr} {H : L2.Hp} : ∀ {ds : List D} {vs : List L2.V} {ns : List Bool}, RDs K m H ds vs → blsOf ds = some ns → vs = ns.map L2.V.bl
  | [], vs, ns, h, e => by
    have e1 : vs = [] := h
    have e2 : ns = [] := by simpa [blsOf] using e.symm
    rw [e1, e2]; rfl
  | .bl i :: ds, vs, ns, h, e => by
    obtain ⟨w, rr, rfl, h1, h2⟩ := h
    cases q : blsOf ds with
    | none => simp [blsOf, q] at e
    | some js =>
      have e2 : i :: js = ns := by simpa [blsOf, q] using e
      have h1' : w = .bl i := h1
      rw [h1', ← e2, RDs.bls h2 q]; rfl
  | .non :: _, _, _, _, e => by simp [blsOf] at e
  | .int _ :: _, _, _, _, e => by simp [blsOf] at e
  | .str _ :: _, _, _, _, e => by simp [blsOf] at e
  | .tup _ :: _, _, _, _, e => by simp [blsOf] at e
  | .ref _ :: _, _, _, _, e => by simp [blsOf] at e

/-! ### the store's moves -/
section
variable {K : K'} {m : List Addr} {S : St} {H : L2.Hp}
/-- what a cell says is kept -/
theorem RM.keep {m' : List Addr} {S' : St} {H' : L2.Hp} (r : RS K m S H) (x : Xt m S H m' S' H') {o : MO} {a : Addr} (h : H' a = H a) (q : RM K m H o a) : RM K m' H' o a := by
  cases o with
  | lst es =>
    obtain ⟨us, e, q⟩ := q
    exact ⟨us, by rw [h]; exact e, q.keep r x⟩
  | fro es =>
    obtain ⟨us, e, q⟩ := q
    refine ⟨us, ?_, q.keep r x⟩
    rcases e with ⟨o, e⟩ | e
    · exact .inl ⟨o, by rw [h]; exact e⟩
    · exact .inr e
  | dic es =>
    obtain ⟨us, e, e2, q⟩ := q
    exact ⟨us, by rw [h]; exact e, e2, q.keep r x⟩
/-- a cell stands at an address that is taken, or is the module's -/
theorem RM.at_free {o : MO} {a p : Addr} {m' : List Addr} {S' : St} {u : L2.HO} (r : RS K m S H) (x : Xt m S H m' S' (L2.upd H p u)) (hp : H p = none) (q : RM K m H o a) : RM K m' (L2.upd H p u) o a := by
  by_cases h : a = p
  · subst h
    cases o with
    | lst es => obtain ⟨us, e, q⟩ := q; rw [hp] at e; cases e
    | fro es =>
      obtain ⟨us, e, q⟩ := q
      rcases e with ⟨o, e⟩ | e
      · rw [hp] at e; cases e
      · exact ⟨us, .inr e, q.keep r x⟩
    | dic es => obtain ⟨us, e, q⟩ := q; rw [hp] at e; cases e
  · exact RM.keep r x (L2.upd_ne h) q
/-- a new cell at a free place -/
theorem laid_mo {p : Addr} {u : L2.HO} {o : MO} (r : RS K m S H) (hp : H p = none) (hm : o.mut = true) (hv : Xt m S H (m ++ [p]) (S ++ [o]) (L2.upd H p u) → RM K (m ++ [p]) (L2.upd H p u) o p) :
    Xt m S H (m ++ [p]) (S ++ [o]) (L2.upd H p u) ∧ RS K (m ++ [p]) (S ++ [o]) (L2.upd H p u) ∧ RD K (m ++ [p]) (L2.upd H p u) (.ref S.length) (.ref p) := by
  have wnew : ∀ a, Wr (m ++ [p]) (S ++ [o]) a → Wr m S a ∨ a = p := fun a ⟨n, o, h1, h2, h3⟩ => by
    by_cases hn : n < m.length
    · rw [List.getElem?_append_left hn] at h1
      rw [List.getElem?_append_left (by rw [← r.len]; exact hn)] at h2
      exact .inl ⟨n, o, h1, h2, h3⟩
    · rw [List.getElem?_append_right (by omega)] at h1
      by_cases h0 : n - m.length = 0
      · rw [h0] at h1
        exact .inr (by simpa using h1.symm)
      · rw [List.getElem?_eq_none (by simp; omega)] at h1
        cases h1
  have xt : Xt m S H (m ++ [p]) (S ++ [o]) (L2.upd H p u) := by
    refine ⟨⟨[p], rfl⟩, fun a o h _ => ?_, fun a h => ?_⟩
    · rw [L2.upd_ne (L2.ne_of_none h hp)]
      exact h
    · rcases wnew a h with w | rfl
      · exact .inl w
      · exact .inr hp
  have last : (m ++ [p])[S.length]? = some p := by
    rw [← r.len, List.getElem?_append_right (Nat.le_refl _), Nat.sub_self]
    rfl
  refine ⟨xt, ⟨by simp [r.len], fun n o' a h1 h2 => ?_, fun n n' o1 o' a h1 h2 h3 h4 h5 h6 => ?_⟩, ⟨p, rfl, last⟩⟩
  · by_cases hn : n < S.length
    · rw [List.getElem?_append_left hn] at h1
      rw [List.getElem?_append_left (by rw [r.len]; exact hn)] at h2
      exact RM.at_free r xt hp (r.at' n o' a h1 h2)
    · rw [List.getElem?_append_right (by omega)] at h1
      by_cases h0 : n - S.length = 0
      · have hn' : n = S.length := by omega
        subst hn'
        rw [last] at h2
        cases h2
        rw [h0] at h1
        have e : o' = o := by simpa using h1.symm
        subst e
        exact hv xt
      · rw [List.getElem?_eq_none (by simp; omega)] at h1
        cases h1
  · have cls : ∀ {n : Nat} {o' : MO} {a : Addr}, (S ++ [o])[n]? = some o' → (m ++ [p])[n]? = some a → (n < S.length ∧ S[n]? = some o' ∧ m[n]? = some a) ∨ (n = S.length ∧ a = p) := fun {n o' a} h1 h2 => by
      by_cases hn : n < S.length
      · rw [List.getElem?_append_left hn] at h1
        rw [List.getElem?_append_left (by rw [r.len]; exact hn)] at h2
        exact .inl ⟨hn, h1, h2⟩
      · have hl : n < (S ++ [o]).length := (List.getElem?_eq_some_iff.mp h1).1
        have hn' : n = S.length := by simp at hl; omega
        subst hn'
        rw [last] at h2
        cases h2
        exact .inr ⟨rfl, rfl⟩
    have apart : ∀ {n : Nat} {o : MO} {a : Addr}, S[n]? = some o → o.mut = true → m[n]? = some a → a ≠ p := fun {n o a} h1 h3 h2 => by
      obtain ⟨us, e, _⟩ := r.wr ⟨n, o, h2, h1, h3⟩
      exact L2.ne_of_none e hp
    rcases cls h1 h5 with ⟨_, q1, q2⟩ | ⟨q1, q2⟩
    · rcases cls h2 h6 with ⟨_, q3, q4⟩ | ⟨q3, q4⟩
      · exact r.inj n n' o1 o' a q1 q3 h3 h4 q2 q4
      · exact absurd q4 (apart q1 h3 q2)
    · rcases cls h2 h6 with ⟨_, q3, q4⟩ | ⟨q3, q4⟩
      · exact absurd q2 (apart q3 h4 q4)
      · rw [q1, q3]
/-- a new list at a free place -/
theorem laid_new {p : Addr} {vs : List L2.V} {ds : List D} (r : RS K m S H) (hp : H p = none) (hv : RDs K m H ds vs) :
    Xt m S H (m ++ [p]) (S ++ [.lst ds]) (L2.upd H p (.lst vs)) ∧ RS K (m ++ [p]) (S ++ [.lst ds]) (L2.upd H p (.lst vs)) ∧ RD K (m ++ [p]) (L2.upd H p (.lst vs)) (.ref S.length) (.ref p) :=
  laid_mo r hp rfl fun xt => ⟨vs, L2.upd_same, hv.keep r xt⟩
/-- a new dict at a free place -/
theorem laid_dic {p : Addr} {vs : List (L2.Key × L2.V)} {kvs : List (L2.Key × D)} (r : RS K m S H) (hp : H p = none) (hk : vs.map (·.1) = kvs.map (·.1)) (hv : RDs K m H (kvs.map (·.2)) (vs.map (·.2))) :
    Xt m S H (m ++ [p]) (S ++ [.dic kvs]) (L2.upd H p (.dK vs)) ∧ RS K (m ++ [p]) (S ++ [.dic kvs]) (L2.upd H p (.dK vs)) ∧ RD K (m ++ [p]) (L2.upd H p (.dK vs)) (.ref S.length) (.ref p) :=
  laid_mo r hp rfl fun xt => ⟨vs, L2.upd_same, hk, hv.keep r xt⟩
/-- a new tuple -/
theorem laid_tup {p : Addr} {vs : List L2.V} {ds : List D} (r : RS K m S H) (hp : H p = none) (hv : RDs K m H ds vs) :
    Xt m S H m S (L2.upd H p (.tup vs)) ∧ RS K m S (L2.upd H p (.tup vs)) ∧ RD K m (L2.upd H p (.tup vs)) (.tup ds) (.ref p) := by
  have xt : Xt m S H m S (L2.upd H p (.tup vs)) := ⟨⟨[], by simp⟩, fun a o h _ => by rw [L2.upd_ne (L2.ne_of_none h hp)]; exact h, fun _ h => .inl h⟩
  exact ⟨xt, ⟨r.len, fun n o a h1 h2 => RM.at_free r xt hp (r.at' n o a h1 h2), r.inj⟩, ⟨p, vs, rfl, .inl (.inl L2.upd_same), hv.keep r xt⟩⟩
/-- any other thing at a free place (an iterator's tuple, a comprehension's list) -/
theorem laid_any {p : Addr} {o : L2.HO} (r : RS K m S H) (hp : H p = none) : Xt m S H m S (L2.upd H p o) ∧ RS K m S (L2.upd H p o) := by
  have xt : Xt m S H m S (L2.upd H p o) := ⟨⟨[], by simp⟩, fun a o h _ => by rw [L2.upd_ne (L2.ne_of_none h hp)]; exact h, fun _ h => .inl h⟩
  exact ⟨xt, ⟨r.len, fun n o a h1 h2 => RM.at_free r xt hp (r.at' n o a h1 h2), r.inj⟩⟩
/-- a writable cell is changed -/
theorem wrote_mo {n : Nat} {a : Addr} {o o' : MO} {u : L2.HO} (r : RS K m S H) (hn : S[n]? = some o) (hm : o.mut = true) (ha : m[n]? = some a)
    (hu : Xt m S H m (S.set n o') (L2.upd H a u) → RM K m (L2.upd H a u) o' a) :
    Xt m S H m (S.set n o') (L2.upd H a u) ∧ RS K m (S.set n o') (L2.upd H a u) := by
  have hlt : n < S.length := (List.getElem?_eq_some_iff.mp hn).1
  have wa : Wr m S a := ⟨n, _, ha, hn, hm⟩
  have weq : ∀ b, Wr m (S.set n o') b → Wr m S b := fun b ⟨k, o, h1, h2, h3⟩ => by
    by_cases hk : k = n
    · subst hk
      rw [ha] at h1; cases h1
      exact wa
    · rw [List.getElem?_set_ne (Ne.symm hk)] at h2
      exact ⟨k, o, h1, h2, h3⟩
  have xt : Xt m S H m (S.set n o') (L2.upd H a u) := by
    refine ⟨⟨[], by simp⟩, fun b o h nw => ?_, fun b h => .inl (weq b h)⟩
    have hb : b ≠ a := fun e => nw (e ▸ wa)
    rw [L2.upd_ne hb]
    exact h
  refine ⟨xt, ⟨by simp [r.len], fun k o1 b h1 h2 => ?_, fun k k' o1 o2 b h1 h2 h3 h4 h5 h6 => ?_⟩⟩
  · by_cases hk : k = n
    · subst hk
      rw [List.getElem?_set_self hlt] at h1
      cases h1
      rw [ha] at h2; cases h2
      exact hu xt
    · rw [List.getElem?_set_ne (Ne.symm hk)] at h1
      have q := r.at' k o1 b h1 h2
      by_cases hb : b = a
      · cases o1 with
        | lst fs => exact absurd (r.inj k n _ _ a h1 hn rfl hm (hb ▸ h2) ha) hk
        | dic fs => exact absurd (r.inj k n _ _ a h1 hn rfl hm (hb ▸ h2) ha) hk
        | fro fs =>
          obtain ⟨vs, e, q⟩ := q
          refine ⟨vs, ?_, q.keep r xt⟩
          obtain ⟨ws, e0, z⟩ := r.wr wa
          rcases e with ⟨o, e⟩ | e
          · rw [hb, e0] at e; cases e; exact z.elim
          · exact .inr e
      · exact RM.keep r xt (L2.upd_ne hb) q
  · have cls : ∀ {k : Nat} {o1 : MO}, (S.set n o')[k]? = some o1 → o1.mut = true → ∃ o2, S[k]? = some o2 ∧ o2.mut = true := fun {k o1} h hm' => by
      by_cases hk : k = n
      · subst hk; exact ⟨_, hn, hm⟩
      · rw [List.getElem?_set_ne (Ne.symm hk)] at h
        exact ⟨o1, h, hm'⟩
    obtain ⟨p1, e1, m1⟩ := cls h1 h3
    obtain ⟨p2, e2, m2⟩ := cls h2 h4
    exact r.inj k k' p1 p2 b e1 e2 m1 m2 h5 h6
/-- a list is changed -/
theorem wrote {n : Nat} {a : Addr} {ds es : List D} {us : List L2.V} (r : RS K m S H) (hn : S[n]? = some (.lst ds)) (ha : m[n]? = some a) (hu : RDs K m H es us) :
    Xt m S H m (S.set n (.lst es)) (L2.upd H a (.lst us)) ∧ RS K m (S.set n (.lst es)) (L2.upd H a (.lst us)) :=
  wrote_mo r hn rfl ha fun xt => ⟨us, L2.upd_same, hu.keep r xt⟩
/-- a dict is changed -/
theorem wrote_dic {n : Nat} {a : Addr} {ds kvs : List (L2.Key × D)} {vs : List (L2.Key × L2.V)} (r : RS K m S H) (hn : S[n]? = some (.dic ds)) (ha : m[n]? = some a) (hk : vs.map (·.1) = kvs.map (·.1)) (hv : RDs K m H (kvs.map (·.2)) (vs.map (·.2))) :
    Xt m S H m (S.set n (.dic kvs)) (L2.upd H a (.dK vs)) ∧ RS K m (S.set n (.dic kvs)) (L2.upd H a (.dK vs)) :=
  wrote_mo r hn rfl ha fun xt => ⟨vs, L2.upd_same, hk, hv.keep r xt⟩
/-! dicts' tables -/
theorem keys_get {K : K'} {m : List Addr} {H : L2.Hp} {k : L2.Key} : ∀ {kvs : List (L2.Key × D)} {vs : List (L2.Key × L2.V)}, vs.map (·.1) = kvs.map (·.1) → RDs K m H (kvs.map (·.2)) (vs.map (·.2)) →
    (∀ d, valD kvs k = some d → ∃ v, L2.valV vs k = some v ∧ RD K m H d v) ∧ (valD kvs k = none → L2.valV vs k = none)
  | [], [], _, _ => ⟨fun _ h => (by cases h), fun _ => rfl⟩
  | [], _ :: _, h, _ => by simp at h
  | _ :: _, [], h, _ => by simp at h
  | p :: kvs, q :: vs, h, hv => by
    obtain ⟨v, rr, e, h1, h2⟩ := hv
    rw [List.map_cons] at e h
    rw [List.map_cons] at h
    cases e
    obtain ⟨e1, e2⟩ := List.cons.inj h
    have ih := keys_get (k := k) e2 h2
    by_cases hk : p.1 = k
    · have e3 : valD (p :: kvs) k = some p.2 := by simp [valD, List.find?_cons, hk]
      rw [e3, L2.valV_pos (e1.trans hk)]
      exact ⟨fun d h => by cases h; exact ⟨_, rfl, h1⟩, fun h => by cases h⟩
    · have e3 : valD (p :: kvs) k = valD kvs k := by simp [valD, List.find?_cons, hk]
      rw [e3, L2.valV_neg (by rw [e1]; exact hk)]
      exact ih
theorem putD_ok {K : K'} {m : List Addr} {H : L2.Hp} {k : L2.Key} {d : D} {v : L2.V} (hd : RD K m H d v) {kvs : List (L2.Key × D)} {vs : List (L2.Key × L2.V)} (h : vs.map (·.1) = kvs.map (·.1)) (hv : RDs K m H (kvs.map (·.2)) (vs.map (·.2))) :
    (L2.putK vs k v).map (·.1) = (putD kvs k d).map (·.1) ∧ RDs K m H ((putD kvs k d).map (·.2)) ((L2.putK vs k v).map (·.2)) := by
  have e : (vs.any fun kv => decide (kv.1 = k)) = (kvs.any fun kv => decide (kv.1 = k)) := by
    have e1 : (vs.any fun kv => decide (kv.1 = k)) = (vs.map (·.1)).any fun x => decide (x = k) := by rw [List.any_map]; rfl
    have e2 : (kvs.any fun kv => decide (kv.1 = k)) = (kvs.map (·.1)).any fun x => decide (x = k) := by rw [List.any_map]; rfl
    rw [e1, e2, h]
  unfold L2.putK putD
  rw [e]
  by_cases c : (kvs.any fun kv => decide (kv.1 = k)) = true
  · rw [if_pos c, if_pos c]
    clear e c
    revert vs
    induction kvs with
    | nil =>
      intro vs h hv
      cases vs with
      | nil => exact ⟨rfl, rfl⟩
      | cons a b => simp at h
    | cons p kvs ih =>
      intro vs h hv
      cases vs with
      | nil => simp at h
      | cons q vs =>
        obtain ⟨w, rr, e, h1, h2⟩ := hv
        rw [List.map_cons] at e h
        rw [List.map_cons] at h
        cases e
        obtain ⟨e1, e2⟩ := List.cons.inj h
        obtain ⟨i1, i2⟩ := ih e2 h2
        by_cases hk : p.1 = k
        · have hq : q.1 = k := e1.trans hk
          simp only [List.map_cons, hk, hq, if_true]
          exact ⟨by rw [i1], ⟨v, _, rfl, hd, i2⟩⟩
        · have hq : ¬ q.1 = k := by rw [e1]; exact hk
          simp only [List.map_cons, if_neg hk, if_neg hq]
          exact ⟨by rw [i1, e1], ⟨_, _, rfl, h1, i2⟩⟩
  · rw [if_neg c, if_neg c, List.map_append, List.map_append, List.map_append, List.map_append, h]
    exact ⟨rfl, hv.append ⟨v, [], rfl, hd, rfl⟩⟩
end
end Flx

end
section
set_option Elab.async false
set_option linter.all false
set_option maxRecDepth 100000
set_option maxHeartbeats 4000000
/-! FlxTMul: tuple * int, at any int. -/
namespace Flx
open PySem PySem.Spec PyProof.Rows L2
theorem tuple_mulS (l : Addr) (items : Array Value) (n : Nat) (dd : Option Addr) (sl : Array (Option Value)) (x : Int) (u : Tok) (c0 : (decide (x < -(2 ^ 63)) || decide (x ≥ 2 ^ 63)) = false) (c1 : (items.isEmpty || x == 1) = true) :
    Meets (Builtin.«tuple.__mul__» ⟨[.ref l, .int x u], []⟩) (fun _ R s => s.heap.get? l = some { cls := .type "tuple", dict := dd, data := .seq items n, slots := sl } ∧ R (.ok (.ret (Value.ref l))) s) :=
  .of_wp fun prog w A R s h => by
    obtain ⟨hp, g, d, tk, os⟩ := s
    obtain ⟨hl, h⟩ := h
    have f1 := AutoSeq1.idx_int
    wp_walk using wpAny_loadPart' hl
    repeat (first
      | (refine wpAny_ite_false (decide_eq_false (by rw [c0]; exact Bool.false_ne_true)) ?_; wp_walk using wpAny_loadPart' hl)
      | (refine wpAny_ite_true (decide_eq_true c1) ?_; wp_walk using wpAny_loadPart' hl))
    exact ⟨_, rfl, h⟩
theorem tuple_mulE (l : Addr) (items : Array Value) (n : Nat) (dd : Option Addr) (sl : Array (Option Value)) (x : Int) (u : Tok) (c0 : (decide (x < -(2 ^ 63)) || decide (x ≥ 2 ^ 63)) = false) (c1 : (items.isEmpty || x == 1) = false) (c2 : (decide (x ≤ 0) || items.isEmpty) = true) :
    Meets (Builtin.«tuple.__mul__» ⟨[.ref l, .int x u], []⟩) (fun _ R s => s.heap.get? l = some { cls := .type "tuple", dict := dd, data := .seq items n, slots := sl } ∧
      R (.ok (.ret (Value.ref s.heap.objs.size))) { s with heap := s.heap.push { cls := Value.type "tuple", data := Data.seq #[] }, toks := s.toks }) :=
  .of_wp fun prog w A R s h => by
    obtain ⟨hp, g, d, tk, os⟩ := s
    obtain ⟨hl, h⟩ := h
    have f1 := AutoSeq1.idx_int
    wp_walk using wpAny_loadPart' hl
    repeat (first
      | (refine wpAny_ite_false (decide_eq_false (by rw [c0]; exact Bool.false_ne_true)) ?_; wp_walk using wpAny_loadPart' hl)
      | (refine wpAny_ite_false (decide_eq_false (by rw [c1]; exact Bool.false_ne_true)) ?_; wp_walk using wpAny_loadPart' hl)
      | (refine wpAny_ite_true (decide_eq_true c2) ?_; wp_walk using wpAny_loadPart' hl))
    exact ⟨_, rfl, h⟩
def rRepA (K : PySem.W.Frag) : R2 := fun x y H Q => ∃ l k xs, x = .ref l ∧ y = .int k ∧ SqT K H l xs ∧ k ≤ 1000 ∧ -(2 ^ 63) ≤ k ∧ xs.length ≤ 1000 ∧
  (xs = [] ∨ k = 1 → Q (.ref l) H) ∧ (¬ (xs = [] ∨ k = 1) → ∀ p, H p = none → Q (.ref p) (upd H p (.tup (List.replicate k.toNat xs).flatten)))
theorem op_repA {X : Cx} : OpR X (binaryOp .Mult) (rRepA X.K) := by
  intro pins s σ H x y v u Q I rx ry h
  obtain ⟨l, k, xs, rfl, rfl, hT, h2, h3, hz, q1, q2⟩ := h
  have c0 : (decide (k < -(2 ^ 63)) || decide (k ≥ 2 ^ 63)) = false := by
    rw [decide_eq_false (by omega), decide_eq_false (by omega)] <;> rfl
  by_cases hs : xs = [] ∨ k = 1
  · have q := q1 hs
    cases rx
    obtain ⟨t, rfl⟩ := ry
    obtain ⟨its, r, ⟨⟨cls, dd, data, sl⟩, ho, hc, n, hd⟩, hs'⟩ := I.tuple hT
    simp only at hc hd
    subst hc hd
    have hle : its.length = xs.length := r.length.symm
    have c1 : (its.toArray.isEmpty || k == 1) = true := by
      rcases hs with e | e
      · subst e
        cases its with
        | nil => rfl
        | cons a b => cases hle
      · subst e; simp
    refine wpAny_binaryOp_repeat_ref (T := "tuple") (U := "int") (by decide) ⟨_, ho, rfl⟩ (fun s' => typeIs_int s' k t) noFill_tuple_mul F.fills_int_mul F.slot_int_rmul repeat_tuple F.slot_int_index.lookup
      (call_meets F.slot_int_rmul (typeIs_int s k t) F.entry_int_rmul (F.args_int_rmul_2 _ _) (int_rmul_tuple k t l its.toArray n dd sl)
        ⟨ho, rfl, ⟨_, ho, rfl⟩, call_meets F.slot_tuple_mul ⟨_, ho, rfl⟩ F.entry_tuple_mul (F.args_tuple_mul_2 _ _) (tuple_mulS l its.toArray n dd sl k t c0 c1) ⟨ho, ?_⟩⟩)
    exact ⟨.ref l, H, I, rfl, q⟩
  · have q := q2 hs
    have hne : xs ≠ [] := fun e => hs (.inl e)
    have hk1 : k ≠ 1 := fun e => hs (.inr e)
    by_cases hk : 2 ≤ k
    · exact op_repT pins s σ H _ _ v u Q I rx ry ⟨l, k, xs, rfl, rfl, hT, hne, hk, h2, hz, q⟩
    · cases rx
      obtain ⟨t, rfl⟩ := ry
      obtain ⟨its, r, ⟨⟨cls, dd, data, sl⟩, ho, hc, n, hd⟩, hs'⟩ := I.tuple hT
      simp only at hc hd
      subst hc hd
      have hle : its.length = xs.length := r.length.symm
      have hi : its.toArray.isEmpty = false := by
        cases its with
        | nil => exact absurd (List.eq_nil_of_length_eq_zero hle.symm) hne
        | cons a b => rfl
      have c1 : (its.toArray.isEmpty || k == 1) = false := by
        rw [hi, Bool.false_or]; exact beq_eq_false_iff_ne.mpr hk1
      have c2 : (decide (k ≤ 0) || its.toArray.isEmpty) = true := by
        rw [decide_eq_true (by omega)]; rfl
      refine wpAny_binaryOp_repeat_ref (T := "tuple") (U := "int") (by decide) ⟨_, ho, rfl⟩ (fun s' => typeIs_int s' k t) noFill_tuple_mul F.fills_int_mul F.slot_int_rmul repeat_tuple F.slot_int_index.lookup
        (call_meets F.slot_int_rmul (typeIs_int s k t) F.entry_int_rmul (F.args_int_rmul_2 _ _) (int_rmul_tuple k t l its.toArray n dd sl)
          ⟨ho, rfl, ⟨_, ho, rfl⟩, call_meets F.slot_tuple_mul ⟨_, ho, rfl⟩ F.entry_tuple_mul (F.args_tuple_mul_2 _ _) (tuple_mulE l its.toArray n dd sl k t c0 c1 c2) ⟨ho, ?_⟩⟩)
      have e0 : (List.replicate k.toNat xs).flatten = [] := by rw [show k.toNat = 0 by omega]; rfl
      rw [e0] at q
      refine ⟨.ref s.heap.objs.size, _, I.laid (t' := s.toks) (o := .tup []) (fun b ob q => Heap.get?_push_of_some _ q) (Nat.le_refl _) ?_, rfl, q _ (I.hok.fresh (Nat.le_refl _))⟩
      exact ⟨by decide, _, .nil, IsTup.new _ _⟩
end Flx

end
section
set_option Elab.async false
set_option linter.all false
set_option maxRecDepth 100000
set_option autoImplicit false
/-! FlxSrt: sorted of data, any length. -/
namespace Flx
open PySem PySem.Spec PyProof.Rows L2
def rSortedD (K : PySem.W.Frag) : List V → Hp → VK → Prop := fun vs H Q => ∃ (a : Addr) (xs : List V) (ps : List PyData), vs = [V.ref a] ∧ SqL K H a xs ∧ DpAll K H xs ps ∧ PySem.W.AllAlike ps ∧ PySem.W.Sortable ps ∧ (∀ p ∈ ps, p.depth ≤ 60) ∧
  ∀ p, H p = none → Q (.ref p) (upd H p (.lst (((xs.zip ps).mergeSort (PySem.W.dataLe false Prod.snd)).map Prod.fst)))
theorem dpAll_len {K : PySem.W.Frag} {H : Hp} : ∀ {xs : List V} {ps : List PyData}, DpAll K H xs ps → xs.length = ps.length
  | [], _, h => by cases h; rfl
  | _ :: _, _, h => by
    cases h with
    | cons _ t => rw [List.length_cons, List.length_cons, dpAll_len t]
theorem each_zip {X : Cx} {pins : List (Addr × Obj)} {σ : L2.St} {H : Hp} {s : Shared} (I : Inv X pins σ H s) : ∀ {xs : List V} {us : List Value} {ps : List PyData}, Vals xs us → DpAll X.K H xs ps →
    PySem.W.EachIs (fun (v : Value) (b : V × PyData) => RelV b.1 v) us (xs.zip ps) ∧ PySem.W.EachIs (fun (v : Value) (b : V × PyData) => ∃ as, Reads s.heap v b.2 as) us (xs.zip ps)
  | _, _, _, .nil, h => by cases h; exact ⟨.nil, .nil⟩
  | _, _, _, .cons r t, h => by
    cases h with
    | cons h1 h2 =>
      obtain ⟨e1, e2⟩ := each_zip I t h2
      exact ⟨.cons r e1, .cons (Dp.reads I _ _ _ h1 r) e2⟩
theorem vals_of_each : ∀ {out : List Value} {bs : List (V × PyData)}, PySem.W.EachIs (fun (v : Value) (b : V × PyData) => RelV b.1 v) out bs → Vals (bs.map Prod.fst) out
  | _, _, .nil => .nil
  | _, _, .cons r t => .cons r (vals_of_each t)
theorem cr_sortedD {X : Cx} (hu : X.A.units + 64 < cLine) : CallR X (.builtin "sorted") (rSortedD X.K) := by
  intro pins s σ H vs us Q I r h
  obtain ⟨a, xs, ps, rfl, hs, hd, hal, hk, hdep, q⟩ := h
  obtain ⟨its, rv, hl, hz⟩ := I.list hs
  obtain ⟨u, rfl, ru⟩ := vals1 r
  obtain rfl : u = Value.ref a := ru
  obtain ⟨e, er⟩ := each_zip I rv hd
  have hlen := dpAll_len hd
  have hsnd : (xs.zip ps).map Prod.snd = ps := List.map_snd_zip (by omega)
  have hbl : (xs.zip ps).length = xs.length := by rw [List.length_zip]; omega
  refine PySem.W.sorted_data (R := fun v (b : V × PyData) => RelV b.1 v) (bs := xs.zip ps) (enc := Prod.snd) hl.isList e er (by rw [hsnd]; exact hal) (by rw [hsnd]; exact hk) (by rw [hbl]; exact hz) (fun b hb => ?_) fun out hlo eo => ?_
  · have := hdep b.2 (by rw [← hsnd]; exact List.mem_map_of_mem hb)
    omega
  · refine ⟨.ref (s.heap.objs.size + 1), upd H (s.heap.objs.size + 1) (.lst (((xs.zip ps).mergeSort (PySem.W.dataLe false Prod.snd)).map Prod.fst)), I.laid (t' := s.toks) (fun b o e => PyProof.Rows.sortedAll_old e) (Nat.le_succ _) ⟨?_, out, ?_⟩, rfl, q _ (I.hok.fresh (Nat.le_succ _))⟩
    · rw [List.length_map, List.length_mergeSort, hbl]; exact hz
    · obtain ⟨n, hn⟩ := PyProof.Rows.sortedAll_at s.heap its out.toArray
      exact ⟨n, vals_of_each eo, hn⟩
end Flx

end
section
set_option Elab.async false
set_option linter.all false
set_option maxRecDepth 100000
set_option autoImplicit false
/-! FlxMono: what is asked may be weakened at its end. -/
namespace Flx
open PySem PySem.Spec PyProof.Rows

theorem binW_mono {op : BOp} {x y : D} {S : St} {Q Q' : QD} (hQ : ∀ d S, Q d S → Q' d S) (h : binW op x y S Q) : binW op x y S Q' := by
  unfold binW at h ⊢
  split at h <;> first
    | exact hQ _ _ h
    | exact ⟨h.1, hQ _ _ h.2⟩
    | (obtain ⟨xs, ys, h1, h2, h3, h4⟩ := h; exact ⟨xs, ys, h1, h2, h3, hQ _ _ h4⟩)
    | (obtain ⟨xs, h1, h2, h3, h4, h5⟩ := h; exact ⟨xs, h1, h2, h3, h4, hQ _ _ h5⟩)
    | exact h.elim
theorem cmpW_mono {op : COp} {x y : D} {S : St} {Q Q' : Bool → St → Prop} (hQ : ∀ d S, Q d S → Q' d S) (h : cmpW op x y S Q) : cmpW op x y S Q' := by
  unfold cmpW at h ⊢
  cases op <;> dsimp only at h ⊢ <;> first
    | (obtain ⟨b, h1, h2⟩ := h; exact ⟨b, h1, hQ _ _ h2⟩)
    | exact ⟨h.1, hQ _ _ h.2⟩
    | exact Or.imp (fun ⟨b, h1, h2, h3, h4⟩ => ⟨b, h1, h2, h3, hQ _ _ h4⟩) (fun ⟨b, p, ps, h1, h2, h3, h4, h5, h6⟩ => ⟨b, p, ps, h1, h2, h3, h4, h5, hQ _ _ h6⟩) h
    | (split at h <;> first | exact hQ _ _ h | exact h.elim)
theorem ixW_mono {x y : D} {S : St} {Q Q' : QD} (hQ : ∀ d S, Q d S → Q' d S) (h : ixW x y S Q) : ixW x y S Q' := by
  unfold ixW at h ⊢
  split at h <;> first
    | (obtain ⟨d, h1, h2⟩ := h; exact ⟨d, h1, hQ _ _ h2⟩)
    | (obtain ⟨xs, d, h1, h2, h3⟩ := h; exact ⟨xs, d, h1, h2, hQ _ _ h3⟩)
    | (obtain ⟨c, h1, h2, h3⟩ := h; exact ⟨c, h1, h2, hQ _ _ h3⟩)
    | exact h.elim
theorem slW_mono {x : D} {l h' : Option Int} {S : St} {Q Q' : QD} (hQ : ∀ d S, Q d S → Q' d S) (h : slW x l h' S Q) : slW x l h' S Q' := by
  unfold slW at h ⊢
  split at h <;> first
    | exact hQ _ _ h
    | (obtain ⟨xs, h1, h2⟩ := h; exact ⟨xs, h1, hQ _ _ h2⟩)
    | exact h.elim
theorem bltW_mono {f : Blt} {xs : List D} {S : St} {Q Q' : QD} (hQ : ∀ d S, Q d S → Q' d S) (h : bltW f xs S Q) : bltW f xs S Q' := by
  unfold bltW at h ⊢
  split at h <;> first
    | exact hQ _ _ h
    | exact ⟨h.1, hQ _ _ h.2⟩
    | (obtain ⟨xs, h1, h2⟩ := h; exact ⟨xs, h1, hQ _ _ h2⟩)
    | (obtain ⟨xs, ns, h1, h2, h3⟩ := h; exact ⟨xs, ns, h1, h2, hQ _ _ h3⟩)
    | (obtain ⟨ns, h1, h2, h3⟩ := h; exact ⟨ns, h1, h2, hQ _ _ h3⟩)
    | (obtain ⟨xs, ns, h1, h2, h3, h4⟩ := h; exact ⟨xs, ns, h1, h2, h3, hQ _ _ h4⟩)
    | (obtain ⟨xs, ns, h1, h2, h3, h4, h5, h6⟩ := h; exact ⟨xs, ns, h1, h2, h3, h4, h5, hQ _ _ h6⟩)
    | exact h.elim
theorem mthW_mono {f : Mth} {x : D} {xs : List D} {S : St} {Q Q' : QD} (hQ : ∀ d S, Q d S → Q' d S) (h : mthW f x xs S Q) : mthW f x xs S Q' := by
  unfold mthW at h ⊢
  split at h
  · obtain ⟨ds, h1, h2, h3⟩ := h; exact ⟨ds, h1, h2, hQ _ _ h3⟩
  · obtain ⟨ds, h1, h2, h3, h4, h5⟩ := h; exact ⟨ds, h1, h2, h3, h4, hQ _ _ h5⟩
  · obtain ⟨ds, y, h1, h2, h3⟩ := h; exact ⟨ds, y, h1, h2, hQ _ _ h3⟩
  · obtain ⟨ds, k, y, h1, h2, h3, h4, h5, h6⟩ := h; exact ⟨ds, k, y, h1, h2, h3, h4, h5, hQ _ _ h6⟩
  · obtain ⟨ds, es, h1, h2, h3, h4⟩ := h; exact ⟨ds, es, h1, h2, h3, hQ _ _ h4⟩
  · obtain ⟨ds, p, ps, j, z, h1, h2, h3, h4, h5, h6, h7, h8, h9⟩ := h; exact ⟨ds, p, ps, j, z, h1, h2, h3, h4, h5, h6, h7, h8, hQ _ _ h9⟩
  · exact h.elim
theorem smtW_mono {f : SMth} {x y : D} {S : St} {Q Q' : QD} (hQ : ∀ d S, Q d S → Q' d S) (h : smtW f x y S Q) : smtW f x y S Q' := by
  unfold smtW at h ⊢
  split at h
  · exact ⟨h.1, h.2.1, hQ _ _ h.2.2⟩
  · exact h.elim
theorem setIxW_mono {o i v : D} {S : St} {Q Q' : St → Prop} (hQ : ∀ S, Q S → Q' S) (h : setIxW o i v S Q) : setIxW o i v S Q' := by
  unfold setIxW at h ⊢
  split at h
  · obtain ⟨xs, j, h1, h2, h3⟩ := h; exact ⟨xs, j, h1, h2, hQ _ h3⟩
  · exact h.elim
theorem dinW_mono {neg : Bool} {x y : D} {S : St} {Q Q' : Bool → St → Prop} (hQ : ∀ d S, Q d S → Q' d S) (h : dinW neg x y S Q) : dinW neg x y S Q' := by
  obtain ⟨n, kvs, k, h1, h2, h3, h4⟩ := h; exact ⟨n, kvs, k, h1, h2, h3, hQ _ _ h4⟩
theorem supW_mono {x : D} {S : St} {Q Q' : QD} (hQ : ∀ d S, Q d S → Q' d S) (h : supW x S Q) : supW x S Q' := by
  obtain ⟨a, h1, h2, h3⟩ := h; exact ⟨a, h1, h2, hQ _ _ h3⟩
theorem dixW_mono {x y : D} {S : St} {Q Q' : QD} (hQ : ∀ d S, Q d S → Q' d S) (h : dixW x y S Q) : dixW x y S Q' := by
  obtain ⟨n, kvs, k, d, h1, h2, h3, h4, h5⟩ := h; exact ⟨n, kvs, k, d, h1, h2, h3, h4, hQ _ _ h5⟩
theorem dgtW_mono {x y z : D} {S : St} {Q Q' : QD} (hQ : ∀ d S, Q d S → Q' d S) (h : dgtW x y z S Q) : dgtW x y z S Q' := by
  obtain ⟨n, kvs, k, h1, h2, h3, h4⟩ := h; exact ⟨n, kvs, k, h1, h2, h3, hQ _ _ h4⟩
theorem dspW_mono {n : Nat} {x y : D} {S : St} {Q Q' : QD} (hQ : ∀ d S, Q d S → Q' d S) (h : dspW n x y S Q) : dspW n x y S Q' := by
  obtain ⟨h1, k, h2, h3⟩ := h; exact ⟨h1, k, h2, hQ _ _ h3⟩
theorem dsrW_mono {x : D} {S : St} {Q Q' : QD} (hQ : ∀ d S, Q d S → Q' d S) (h : dsrW x S Q) : dsrW x S Q' := by
  obtain ⟨n, kvs, ks, h1, h2, h3, h4, h5⟩ := h; exact ⟨n, kvs, ks, h1, h2, h3, h4, fun ys p q => hQ _ _ (h5 ys p q)⟩
theorem setDxW_mono {o i v : D} {S : St} {Q Q' : St → Prop} (hQ : ∀ S, Q S → Q' S) (h : setDxW o i v S Q) : setDxW o i v S Q' := by
  obtain ⟨n, kvs, k, h1, h2, h3, h4, h5⟩ := h; exact ⟨n, kvs, k, h1, h2, h3, h4, hQ _ h5⟩
theorem rngW_mono {xs : List D} {Q Q' : Int → Int → Prop} (hQ : ∀ a b, Q a b → Q' a b) (h : rngW xs Q) : rngW xs Q' := by
  unfold rngW at h ⊢
  split at h
  · exact ⟨h.1, h.2.1, hQ _ _ h.2.2⟩
  · exact ⟨h.1, hQ _ _ h.2⟩
  · exact h.elim
theorem lcW_mono {G : St → Prop} {tg : Tg} {tt : Sg → St → (Bool → St → Prop) → Prop} {te : Sg → St → QD → Prop} {σ : Sg}
    (mt : ∀ σ S Q Q', (∀ b S, Q b S → Q' b S) → tt σ S Q → tt σ S Q') (me : ∀ σ S Q Q', (∀ d S, Q d S → Q' d S) → te σ S Q → te σ S Q') :
    ∀ (xs acc : List D) (S : St) (Q Q' : List D → St → Prop), (∀ a S, Q a S → Q' a S) → lcW G tg tt te σ xs acc S Q → lcW G tg tt te σ xs acc S Q'
  | [], acc, S, Q, Q', hQ, h => ⟨h.1, hQ _ _ h.2⟩
  | x :: xs, acc, S, Q, Q', hQ, h => by
    obtain ⟨g, σ', e, h⟩ := h
    refine ⟨g, σ', e, mt _ _ _ _ (fun b S1 q => ?_) h⟩
    cases b with
    | true => exact me _ _ _ _ (fun y S2 q2 => lcW_mono mt me xs _ S2 Q Q' hQ q2) q
    | false => exact lcW_mono mt me xs _ S1 Q Q' hQ q
theorem lc2W_mono {G : St → Prop} {tg tg1 : Tg} {tt tt1 : Sg → St → (Bool → St → Prop) → Prop} {ti : Sg → St → ((St → Prop) → List D → St → Prop) → Prop} {te : Sg → St → QD → Prop} {σ : Sg} {vs1 : List Nat}
    (mt : ∀ σ S Q Q', (∀ b S, Q b S → Q' b S) → tt σ S Q → tt σ S Q') (mi : ∀ σ S Q Q', (∀ G d S, Q G d S → Q' G d S) → ti σ S Q → ti σ S Q') (mt1 : ∀ σ S Q Q', (∀ b S, Q b S → Q' b S) → tt1 σ S Q → tt1 σ S Q') (me : ∀ σ S Q Q', (∀ d S, Q d S → Q' d S) → te σ S Q → te σ S Q') :
    ∀ (xs acc : List D) (S : St) (Q Q' : List D → St → Prop), (∀ a S, Q a S → Q' a S) → lc2W G tg tt ti tg1 tt1 te vs1 σ xs acc S Q → lc2W G tg tt ti tg1 tt1 te vs1 σ xs acc S Q'
  | [], acc, S, Q, Q', hQ, h => ⟨h.1, hQ _ _ h.2⟩
  | x :: xs, acc, S, Q, Q', hQ, h => by
    obtain ⟨g, σ', e, h⟩ := h
    refine ⟨g, σ', e, mt _ _ _ _ (fun b S1 q => ?_) h⟩
    cases b with
    | true => exact mi _ _ _ _ (fun G1 ys S2 q2 => ⟨q2.1, lcW_mono mt1 me ys acc S2 _ _ (fun acc' S3 q3 => lc2W_mono mt mi mt1 me xs acc' S3 Q Q' hQ q3) q2.2⟩) q
    | false => exact lc2W_mono mt mi mt1 me xs _ S1 Q Q' hQ q
theorem dcW_mono {G : St → Prop} {tg : Tg} {tk tv : Sg → St → QD → Prop} {σ : Sg}
    (mk : ∀ σ S Q Q', (∀ d S, Q d S → Q' d S) → tk σ S Q → tk σ S Q') (mv : ∀ σ S Q Q', (∀ d S, Q d S → Q' d S) → tv σ S Q → tv σ S Q') :
    ∀ (xs : List D) (acc : List (L2.Key × D)) (S : St) (Q Q' : List (L2.Key × D) → St → Prop), (∀ a S, Q a S → Q' a S) → dcW G tg tk tv σ xs acc S Q → dcW G tg tk tv σ xs acc S Q'
  | [], acc, S, Q, Q', hQ, h => ⟨h.1, hQ _ _ h.2⟩
  | x :: xs, acc, S, Q, Q', hQ, h => by
    obtain ⟨g, σ', e, h⟩ := h
    exact ⟨g, σ', e, mk _ _ _ _ (fun y S1 h1 => mv _ _ _ _ (fun z S2 ⟨k, h2, h3⟩ => ⟨k, h2, dcW_mono mk mv xs _ S2 Q Q' hQ h3⟩) h1) h⟩
def MonoC (C : Nat → List D → St → QD → Prop) : Prop := ∀ f xs S Q Q', (∀ d S, Q d S → Q' d S) → C f xs S Q → C f xs S Q'
section
variable {C : Nat → List D → St → QD → Prop} (mC : MonoC C)
include mC
mutual
theorem wE_mono : ∀ (e : Ex) (σ : Sg) (S : St) (Q Q' : QD), (∀ d S, Q d S → Q' d S) → wE C e σ S Q → wE C e σ S Q'
  | .var i, σ, S, Q, Q', hQ, h => by
    rw [wE] at h ⊢
    obtain ⟨d, h1, h2⟩ := h
    exact ⟨d, h1, hQ _ _ h2⟩
  | .cint k, σ, S, Q, Q', hQ, h => by rw [wE] at h ⊢; exact hQ _ _ h
  | .cstr k, σ, S, Q, Q', hQ, h => by rw [wE] at h ⊢; exact hQ _ _ h
  | .cbl k, σ, S, Q, Q', hQ, h => by rw [wE] at h ⊢; exact hQ _ _ h
  | .cnon, σ, S, Q, Q', hQ, h => by rw [wE] at h ⊢; exact hQ _ _ h
  | .bin op a b, σ, S, Q, Q', hQ, h => by
    rw [wE] at h ⊢
    exact wE_mono a _ _ _ _ (fun x S1 h1 => wE_mono b _ _ _ _ (fun y S2 h2 => binW_mono hQ h2) h1) h
  | .neg a, σ, S, Q, Q', hQ, h => by
    rw [wE] at h ⊢
    exact wE_mono a _ _ _ _ (fun x S1 ⟨i, e, h1⟩ => ⟨i, e, hQ _ _ h1⟩) h
  | .cmp op a b, σ, S, Q, Q', hQ, h => by
    rw [wE] at h ⊢
    exact wE_mono a _ _ _ _ (fun x S1 h1 => wE_mono b _ _ _ _ (fun y S2 h2 => cmpW_mono (fun b S h => hQ _ _ h) h2) h1) h
  | .cmp2 op op' a b c, σ, S, Q, Q', hQ, h => by
    rw [wE] at h ⊢
    refine wE_mono a _ _ _ _ (fun x S1 h1 => wE_mono b _ _ _ _ (fun y S2 h2 => cmpW_mono (fun k S h => ?_) h2) h1) h
    cases k with
    | true => exact wE_mono c _ _ _ _ (fun z S3 h3 => cmpW_mono (fun b S h => hQ _ _ h) h3) h
    | false => exact hQ _ _ h
  | .cmp3 op op' op2 a b c d, σ, S, Q, Q', hQ, h => by
    rw [wE] at h ⊢
    refine wE_mono a _ _ _ _ (fun x S1 h1 => wE_mono b _ _ _ _ (fun y S2 h2 => cmpW_mono (fun k S h => ?_) h2) h1) h
    cases k with
    | true =>
      refine wE_mono c _ _ _ _ (fun z S3 h3 => cmpW_mono (fun k' S h => ?_) h3) h
      cases k' with
      | true => exact wE_mono d _ _ _ _ (fun z S3 h3 => cmpW_mono (fun b S h => hQ _ _ h) h3) h
      | false => exact hQ _ _ h
    | false => exact hQ _ _ h
  | .and a b, σ, S, Q, Q', hQ, h => by
    rw [wE] at h ⊢
    refine wE_mono a _ _ _ _ (fun x S1 ⟨k, e, h1⟩ => ⟨k, e, ?_⟩) h
    cases k with
    | true => exact wE_mono b _ _ _ _ hQ h1
    | false => exact hQ _ _ h1
  | .or a b, σ, S, Q, Q', hQ, h => by
    rw [wE] at h ⊢
    refine wE_mono a _ _ _ _ (fun x S1 ⟨k, e, h1⟩ => ⟨k, e, ?_⟩) h
    cases k with
    | true => exact hQ _ _ h1
    | false => exact wE_mono b _ _ _ _ hQ h1
  | .not a, σ, S, Q, Q', hQ, h => by
    rw [wE] at h ⊢
    exact wE_mono a _ _ _ _ (fun x S1 ⟨k, e, h1⟩ => ⟨k, e, hQ _ _ h1⟩) h
  | .ite c a b, σ, S, Q, Q', hQ, h => by
    rw [wE] at h ⊢
    refine wE_mono c _ _ _ _ (fun x S1 ⟨k, e, h1⟩ => ⟨k, e, ?_⟩) h
    cases k with
    | true => exact wE_mono a _ _ _ _ hQ h1
    | false => exact wE_mono b _ _ _ _ hQ h1
  | .tup es, σ, S, Q, Q', hQ, h => by
    rw [wE] at h ⊢
    exact wEs_mono es _ _ _ _ (fun xs S1 h1 => ⟨h1.1, hQ _ _ h1.2⟩) h
  | .lst es, σ, S, Q, Q', hQ, h => by
    rw [wE] at h ⊢
    exact wEs_mono es _ _ _ _ (fun xs S1 h1 => ⟨h1.1, hQ _ _ h1.2⟩) h
  | .ix a b, σ, S, Q, Q', hQ, h => by
    rw [wE] at h ⊢
    exact wE_mono a _ _ _ _ (fun x S1 h1 => wE_mono b _ _ _ _ (fun y S2 h2 => ixW_mono hQ h2) h1) h
  | .sl a lo hi, σ, S, Q, Q', hQ, h => by
    rw [wE] at h ⊢
    exact wE_mono a _ _ _ _ (fun x S1 h1 => wO_mono lo _ _ _ _ (fun y S2 h2 => wO_mono hi _ _ _ _ (fun z S3 h3 => slW_mono hQ h3) h2) h1) h
  | .call f es, σ, S, Q, Q', hQ, h => by
    rw [wE] at h ⊢
    exact wEs_mono es _ _ _ _ (fun xs S1 h1 => mC _ _ _ _ _ hQ h1) h
  | .blt f es, σ, S, Q, Q', hQ, h => by
    rw [wE] at h ⊢
    exact wEs_mono es _ _ _ _ (fun xs S1 h1 => bltW_mono hQ h1) h
  | .isi a t, σ, S, Q, Q', hQ, h => by
    rw [wE] at h ⊢
    exact wE_mono a _ _ _ _ (fun x S1 ⟨k, e, h1⟩ => ⟨k, e, hQ _ _ h1⟩) h
  | .mth m o es, σ, S, Q, Q', hQ, h => by
    rw [wE] at h ⊢
    exact wE_mono o _ _ _ _ (fun x S1 h1 => ⟨h1.1, wEs_mono es _ _ _ _ (fun xs S2 h2 => mthW_mono hQ h2) h1.2⟩) h
  | .smt m o e, σ, S, Q, Q', hQ, h => by
    rw [wE] at h ⊢
    exact wE_mono o _ _ _ _ (fun x S1 h1 => ⟨h1.1, wE_mono e _ _ _ _ (fun xs S2 h2 => smtW_mono hQ h2) h1.2⟩) h
  | .dnw, σ, S, Q, Q', hQ, h => by rw [wE] at h ⊢; exact hQ _ _ h
  | .dsp a b, σ, S, Q, Q', hQ, h => by
    rw [wE] at h ⊢
    exact wE_mono a _ _ _ _ (fun x S1 h1 => wE_mono b _ _ _ _ (fun y S2 h2 => dspW_mono hQ h2) h1) h
  | .dix a b, σ, S, Q, Q', hQ, h => by
    rw [wE] at h ⊢
    exact wE_mono a _ _ _ _ (fun x S1 h1 => wE_mono b _ _ _ _ (fun y S2 h2 => dixW_mono hQ h2) h1) h
  | .dgt a b c, σ, S, Q, Q', hQ, h => by
    rw [wE] at h ⊢
    exact wE_mono a _ _ _ _ (fun x S1 h1 => ⟨h1.1, wE_mono b _ _ _ _ (fun y S2 h2 => wE_mono c _ _ _ _ (fun z S3 h3 => dgtW_mono hQ h3) h2) h1.2⟩) h
  | .dsr a, σ, S, Q, Q', hQ, h => by
    rw [wE] at h ⊢
    exact wE_mono a _ _ _ _ (fun x S1 h1 => dsrW_mono hQ h1) h
  | .dcm k v tg it own, σ, S, Q, Q', hQ, h => by
    rw [wE] at h ⊢
    exact wI_mono it _ _ _ _ (fun G xs S1 h1 => ⟨h1.1, dcW_mono (fun σ S Q Q' => wE_mono k σ S Q Q') (fun σ S Q Q' => wE_mono v σ S Q Q') xs [] S1 _ _ (fun acc S2 h2 => hQ _ _ h2) h1.2⟩) h
  | .din neg a b, σ, S, Q, Q', hQ, h => by
    rw [wE] at h ⊢
    exact wE_mono a _ _ _ _ (fun x S1 h1 => wE_mono b _ _ _ _ (fun y S2 h2 => dinW_mono (fun b S h => hQ _ _ h) h2) h1) h
  | .sup o, σ, S, Q, Q', hQ, h => by
    rw [wE] at h ⊢
    exact wE_mono o _ _ _ _ (fun x S1 h1 => supW_mono hQ h1) h
  | .lc2 elt tg it ifs tg1 it1 ifs1 own vs1, σ, S, Q, Q', hQ, h => by
    rw [wE] at h ⊢
    exact wI_mono it _ _ _ _ (fun G xs S1 h1 => lc2W_mono (fun σ S Q Q' => wC_mono ifs σ S Q Q') (fun σ S Q Q' => wI_mono it1 σ S Q Q') (fun σ S Q Q' => wC_mono ifs1 σ S Q Q') (fun σ S Q Q' => wE_mono elt σ S Q Q') xs [] S1 _ _ (fun acc S2 h2 => hQ _ _ h2) h1) h
  | .lrg es, σ, S, Q, Q', hQ, h => by
    rw [wE] at h ⊢
    exact wEs_mono es _ _ _ _ (fun xs S1 h1 => rngW_mono (fun a b h2 => ⟨h2.1, hQ _ _ h2.2⟩) h1) h
  | .lc elt tg it ifs own, σ, S, Q, Q', hQ, h => by
    rw [wE] at h ⊢
    exact wI_mono it _ _ _ _ (fun G xs S1 h1 => ⟨h1.1, lcW_mono (fun σ S Q Q' => wC_mono ifs σ S Q Q') (fun σ S Q Q' => wE_mono elt σ S Q Q') xs [] S1 _ _ (fun acc S2 h2 => hQ _ _ h2) h1.2⟩) h
theorem wI_mono : ∀ (e : It) (σ : Sg) (S : St) (Q Q' : (St → Prop) → List D → St → Prop), (∀ G d S, Q G d S → Q' G d S) → wI C e σ S Q → wI C e σ S Q'
  | .seq e, σ, S, Q, Q', hQ, h => by
    rw [wI] at h ⊢
    exact wE_mono e _ _ _ _ (fun x S1 ⟨xs, h1, h2⟩ => ⟨xs, h1, hQ _ _ _ h2⟩) h
  | .rng es, σ, S, Q, Q', hQ, h => by
    rw [wI] at h ⊢
    exact wEs_mono es _ _ _ _ (fun x S1 h1 => rngW_mono (fun a b h2 => hQ _ _ _ h2) h1) h
  | .rgd a b, σ, S, Q, Q', hQ, h => by
    rw [wI] at h ⊢
    exact wE_mono a _ _ _ _ (fun x S1 h1 => wE_mono b _ _ _ _ (fun y S2 ⟨i, j, h2, h3, h4, h5⟩ => ⟨i, j, h2, h3, h4, hQ _ _ _ h5⟩) h1) h
  | .enm e, σ, S, Q, Q', hQ, h => by
    rw [wI] at h ⊢
    exact wE_mono e _ _ _ _ (fun x S1 ⟨xs, h1, h2⟩ => ⟨xs, h1, hQ _ _ _ h2⟩) h
  | .zip a b, σ, S, Q, Q', hQ, h => by
    rw [wI] at h ⊢
    exact wE_mono a _ _ _ _ (fun x S1 h1 => wE_mono b _ _ _ _ (fun y S2 ⟨xs, ys, h2, h3, h4⟩ => ⟨xs, ys, h2, h3, hQ _ _ _ h4⟩) h1) h
  | .rev e, σ, S, Q, Q', hQ, h => by
    rw [wI] at h ⊢
    exact wE_mono e _ _ _ _ (fun x S1 ⟨xs, h1, h2⟩ => ⟨xs, h1, hQ _ _ _ h2⟩) h
theorem wEs_mono : ∀ (e : Exs) (σ : Sg) (S : St) (Q Q' : List D → St → Prop), (∀ d S, Q d S → Q' d S) → wEs C e σ S Q → wEs C e σ S Q'
  | .nil, σ, S, Q, Q', hQ, h => by rw [wEs] at h ⊢; exact hQ _ _ h
  | .cons e es, σ, S, Q, Q', hQ, h => by
    rw [wEs] at h ⊢
    exact wE_mono e _ _ _ _ (fun x S1 h1 => wEs_mono es _ _ _ _ (fun xs S2 h2 => hQ _ _ h2) h1) h
theorem wO_mono : ∀ (e : ExO) (σ : Sg) (S : St) (Q Q' : Option Int → St → Prop), (∀ d S, Q d S → Q' d S) → wO C e σ S Q → wO C e σ S Q'
  | .none, σ, S, Q, Q', hQ, h => by rw [wO] at h ⊢; exact hQ _ _ h
  | .some e, σ, S, Q, Q', hQ, h => by
    rw [wO] at h ⊢
    exact wE_mono e _ _ _ _ (fun x S1 ⟨i, e1, h1⟩ => ⟨i, e1, hQ _ _ h1⟩) h
theorem wC_mono : ∀ (e : Exs) (σ : Sg) (S : St) (Q Q' : Bool → St → Prop), (∀ d S, Q d S → Q' d S) → wC C e σ S Q → wC C e σ S Q'
  | .nil, σ, S, Q, Q', hQ, h => by rw [wC] at h ⊢; exact hQ _ _ h
  | .cons e .nil, σ, S, Q, Q', hQ, h => by
    rw [wC] at h ⊢
    exact wE_mono e _ _ _ _ (fun x S1 ⟨k, e1, h1⟩ => ⟨k, e1, hQ _ _ h1⟩) h
  | .cons _ (.cons _ _), σ, S, Q, Q', hQ, h => by rw [wC] at h; exact h.elim
end
theorem wT_mono (e : Ex) (σ : Sg) (S : St) (Q Q' : Bool → St → Prop) (hQ : ∀ d S, Q d S → Q' d S) (h : wT C e σ S Q) : wT C e σ S Q' :=
  wE_mono mC e _ _ _ _ (fun x S1 ⟨k, e1, h1⟩ => ⟨k, e1, hQ _ _ h1⟩) h
end
/-- ends, weaker -/
structure EnLe (E E' : En) : Prop where
  nx : ∀ σ S, E.nx σ S → E'.nx σ S
  rt : ∀ d S, E.rt d S → E'.rt d S
  bk : ∀ σ S, E.bk σ S → E'.bk σ S
  ct : ∀ σ S, E.ct σ S → E'.ct σ S
def MonoT (b : TSt) : Prop := ∀ E E' σ S, EnLe E E' → b E σ S → b E' σ S
theorem forW_mono {G : St → Prop} {tg : Tg} {b : TSt} (mb : MonoT b) : ∀ (xs : List D) (E E' : En) (σ : Sg) (S : St), EnLe E E' → forW G tg b xs E σ S → forW G tg b xs E' σ S
  | [], E, E', σ, S, le, h => ⟨h.1, le.nx _ _ h.2⟩
  | x :: xs, E, E', σ, S, le, h => by
    obtain ⟨g, σ', e, h⟩ := h
    refine ⟨g, σ', e, mb _ _ _ _ ?_ h⟩
    exact ⟨fun σ S q => forW_mono mb xs E E' σ S le q, le.rt, le.nx, fun σ S q => forW_mono mb xs E E' σ S le q⟩
theorem whlW_mono {c : Sg → St → (Bool → St → Prop) → Prop} {b : TSt} (mc : ∀ σ S Q Q', (∀ b S, Q b S → Q' b S) → c σ S Q → c σ S Q') (mb : MonoT b) :
    ∀ (n : Nat) (E E' : En) (σ : Sg) (S : St), EnLe E E' → whlW c b n E σ S → whlW c b n E' σ S
  | 0, E, E', σ, S, le, h => h
  | n + 1, E, E', σ, S, le, h => by
    refine mc _ _ _ _ (fun k S1 q => ?_) h
    cases k with
    | true =>
      refine mb _ _ _ _ ?_ q
      exact ⟨fun σ S q => whlW_mono mc mb n E E' σ S le q, le.rt, le.nx, fun σ S q => whlW_mono mc mb n E E' σ S le q⟩
    | false => exact le.nx _ _ q
theorem parW_mono {k k' : Sg → Prop} : ∀ (is : List Nat) (xs : List D) (σ : Sg), (∀ σ, k σ → k' σ) → parW is xs σ k → parW is xs σ k'
  | [], [], σ, hk, h => hk _ h
  | i :: is, x :: xs, σ, hk, h => parW_mono is xs _ hk h
  | [], _ :: _, _, _, h => h.elim
  | _ :: _, [], _, _, h => h.elim
section
variable {C : Nat → List D → St → QD → Prop} (mC : MonoC C)
include mC
mutual
theorem wS_mono : ∀ (s : Sm), MonoT (wS C s)
  | .set i e => fun E E' σ S le h => by
    rw [wS] at h ⊢
    exact wE_mono mC e _ _ _ _ (fun x S1 h1 => le.nx _ _ h1) h
  | .setT ts e => fun E E' σ S le h => by
    rw [wS] at h ⊢
    exact wE_mono mC e _ _ _ _ (fun x S1 ⟨σ', e1, h1⟩ => ⟨σ', e1, le.nx _ _ h1⟩) h
  | .par is es => fun E E' σ S le h => by
    rw [wS] at h ⊢
    exact wEs_mono mC es _ _ _ _ (fun x S1 h1 => parW_mono _ _ _ (fun σ' h2 => le.nx _ _ h2) h1) h
  | .setIx o i e => fun E E' σ S le h => by
    rw [wS] at h ⊢
    exact wE_mono mC e _ _ _ _ (fun v S1 h1 => wE_mono mC o _ _ _ _ (fun x S2 h2 => wE_mono mC i _ _ _ _ (fun y S3 h3 => setIxW_mono (fun S4 h4 => le.nx _ _ h4) h3) h2) h1) h
  | .setDx o i e => fun E E' σ S le h => by
    rw [wS] at h ⊢
    exact wE_mono mC e _ _ _ _ (fun v S1 h1 => wE_mono mC o _ _ _ _ (fun x S2 h2 => wE_mono mC i _ _ _ _ (fun y S3 h3 => setDxW_mono (fun S4 h4 => le.nx _ _ h4) h3) h2) h1) h
  | .ex e => fun E E' σ S le h => by
    rw [wS] at h ⊢
    exact wE_mono mC e _ _ _ _ (fun x S1 h1 => le.nx _ _ h1) h
  | .ite c a b => fun E E' σ S le h => by
    rw [wS] at h ⊢
    refine wT_mono mC c _ _ _ _ (fun k S1 h1 => ?_) h
    cases k with
    | true => exact wSs_mono a _ _ _ _ le h1
    | false => exact wSs_mono b _ _ _ _ le h1
  | .for tg it b => fun E E' σ S le h => by
    rw [wS] at h ⊢
    exact wI_mono mC it _ _ _ _ (fun G xs S1 h1 => forW_mono (wSs_mono b) xs _ _ _ _ le h1) h
  | .whl c b => fun E E' σ S le h => by
    rw [wS] at h ⊢
    obtain ⟨n, h⟩ := h
    exact ⟨n, whlW_mono (fun σ S Q Q' => wT_mono mC c σ S Q Q') (wSs_mono b) n _ _ _ _ le h⟩
  | .ret e => fun E E' σ S le h => by
    rw [wS] at h ⊢
    exact wE_mono mC e _ _ _ _ le.rt h
  | .retN => fun E E' σ S le h => by rw [wS] at h ⊢; exact le.rt _ _ h
  | .brk => fun E E' σ S le h => by rw [wS] at h ⊢; exact le.bk _ _ h
  | .cnt => fun E E' σ S le h => by rw [wS] at h ⊢; exact le.ct _ _ h
  | .pas => fun E E' σ S le h => by rw [wS] at h ⊢; exact le.nx _ _ h
theorem wSs_mono : ∀ (s : Sms), MonoT (wSs C s)
  | .nil => fun E E' σ S le h => by rw [wSs] at h ⊢; exact le.nx _ _ h
  | .cons s ss => fun E E' σ S le h => by
    rw [wSs] at h ⊢
    refine wS_mono s _ _ _ _ ?_ h
    exact ⟨fun σ S q => wSs_mono ss _ _ _ _ le q, le.rt, le.bk, le.ct⟩
end
end
theorem callW_mono (T : List FDef) : ∀ k, MonoC (callW T k)
  | 0 => fun f xs S Q Q' hQ h => h
  | k + 1 => fun f xs S Q Q' hQ h => by
    obtain ⟨fd, e, hl, h⟩ := h
    refine ⟨fd, e, hl, wSs_mono (callW_mono T k) fd.body _ _ _ _ ?_ h⟩
    exact ⟨fun _ S q => hQ _ _ q, hQ, fun _ _ q => q, fun _ _ q => q⟩
end Flx

end
section
set_option Elab.async false
set_option linter.all false
set_option maxRecDepth 100000
set_option autoImplicit false
/-! FlxOps: the hand layer's rules for values, asked by pure data. -/
namespace Flx
open PySem PySem.Spec PyProof.Rows

/-- what is wanted behind an expression, at the values -/
def Po (K : K') (m : List Addr) (S : St) (H : L2.Hp) (Q : L2.VK) : QD := fun d S' => ∀ m' H' v, Xt m S H m' S' H' → RS K m' S' H' → RD K m' H' d v → Q v H'
theorem Po.shift {K : K'} {m m1 : List Addr} {S S1 : St} {H H1 : L2.Hp} {Q : L2.VK} (x : Xt m S H m1 S1 H1) {d : D} {S' : St} (p : Po K m S H Q d S') : Po K m1 S1 H1 Q d S' :=
  fun m' H' v x' r d => p m' H' v (x.trans x') r d
def RSg (K : K') (m : List Addr) (H : L2.Hp) (σd : Sg) (σ : L2.St) : Prop := σd.length = σ.length ∧ ∀ (i : Nat) (d : D), σd[i]? = some (some d) → ∃ v, σ[i]? = some (some v) ∧ RD K m H d v
theorem RSg.keep {K : K'} {m m1 : List Addr} {S S1 : St} {H H1 : L2.Hp} {σd : Sg} {σ : L2.St} (r : RS K m S H) (x : Xt m S H m1 S1 H1) (g : RSg K m H σd σ) : RSg K m1 H1 σd σ :=
  ⟨g.1, fun i d h => let ⟨v, e, q⟩ := g.2 i d h; ⟨v, e, q.keep r x⟩⟩
theorem RSg.set {K : K'} {m : List Addr} {H : L2.Hp} {σd : Sg} {σ : L2.St} {i : Nat} {d : D} {v : L2.V} (g : RSg K m H σd σ) (q : RD K m H d v) : RSg K m H (σd.set i (some d)) (σ.set i (some v)) := by
  refine ⟨by simp [g.1], fun j e h => ?_⟩
  by_cases hj : i = j
  · subst hj
    have hl : i < σd.length := by
      have := (List.getElem?_eq_some_iff.mp h).1
      simpa using this
    rw [List.getElem?_set_self hl] at h
    cases h
    exact ⟨v, by rw [List.getElem?_set_self (by rw [← g.1]; exact hl)], q⟩
  · rw [List.getElem?_set_ne hj] at h
    obtain ⟨w, e1, e2⟩ := g.2 j e h
    exact ⟨w, by rw [List.getElem?_set_ne hj]; exact e1, e2⟩

section
variable {K : K'} {m : List Addr} {S : St} {H : L2.Hp}
/-- a cell of the store is read -/
theorem seq_read (r : RS K m S H) {n : Nat} {xs : List D} {v : L2.V} (h : seqOf S n = some xs) (d : RD K m H (.ref n) v) : ∃ a vs, v = .ref a ∧ L2.SqL K H a vs ∧ RDs K m H xs vs := by
  obtain ⟨a, rfl, ha⟩ := d
  unfold seqOf at h
  cases e : S[n]? with
  | none => rw [e] at h; cases h
  | some o =>
    rw [e] at h
    have q := r.at' n o a e ha
    cases o with
    | lst ys =>
      cases h
      obtain ⟨vs, e1, e2⟩ := q
      exact ⟨a, vs, rfl, .inl (.inl e1), e2⟩
    | fro ys =>
      cases h
      obtain ⟨vs, e1, e2⟩ := q
      exact ⟨a, vs, rfl, e1.sq, e2⟩
    | dic ys => cases h
theorem dic_read (r : RS K m S H) {n : Nat} {kvs : List (L2.Key × D)} {v : L2.V} (h : S[n]? = some (.dic kvs)) (d : RD K m H (.ref n) v) :
    ∃ a vs, v = .ref a ∧ m[n]? = some a ∧ H a = some (.dK vs) ∧ vs.map (·.1) = kvs.map (·.1) ∧ RDs K m H (kvs.map (·.2)) (vs.map (·.2)) := by
  obtain ⟨a, rfl, ha⟩ := d
  obtain ⟨vs, e1, e2, e3⟩ := r.at' n _ a h ha
  exact ⟨a, vs, rfl, ha, e1, e2, e3⟩
theorem lst_read (r : RS K m S H) {n : Nat} {xs : List D} {v : L2.V} (h : S[n]? = some (.lst xs)) (d : RD K m H (.ref n) v) : ∃ a vs, v = .ref a ∧ m[n]? = some a ∧ H a = some (.lst vs) ∧ RDs K m H xs vs := by
  obtain ⟨a, rfl, ha⟩ := d
  obtain ⟨vs, e1, e2⟩ := r.at' n _ a h ha
  exact ⟨a, vs, rfl, ha, e1, e2⟩
theorem items_read (r : RS K m S H) {x : D} {xs : List D} {v : L2.V} (h : itemsOf S x = some xs) (d : RD K m H x v) :
    ∃ a vs, v = .ref a ∧ (L2.SqL K H a vs ∨ L2.SqT K H a vs) ∧ RDs K m H xs vs := by
  cases x with
  | tup ys =>
    cases h
    obtain ⟨a, vs, e, h1, h2⟩ := d
    exact ⟨a, vs, e, .inr h1, h2⟩
  | ref n =>
    obtain ⟨a, vs, e, h1, h2⟩ := seq_read r h d
    exact ⟨a, vs, e, .inl h1, h2⟩
  | _ => cases h
/-- a new list at a free place, what is wanted of it -/
theorem new_list (r : RS K m S H) {xs : List D} {vs : List L2.V} {Q : L2.VK} (hv : RDs K m H xs vs) (h : Po K m S H Q (.ref S.length) (S ++ [.lst xs])) : ∀ p, H p = none → Q (.ref p) (L2.upd H p (.lst vs)) := fun p hp => by
  obtain ⟨x1, r1, d1⟩ := laid_new r hp hv
  exact h _ _ _ x1 r1 d1
theorem new_tup (r : RS K m S H) {xs : List D} {vs : List L2.V} {Q : L2.VK} (hv : RDs K m H xs vs) (h : Po K m S H Q (.tup xs) S) : ∀ p, H p = none → Q (.ref p) (L2.upd H p (.tup vs)) := fun p hp => by
  obtain ⟨x1, r1, d1⟩ := laid_tup r hp hv
  exact h _ _ _ x1 r1 d1
theorem at_once (r : RS K m S H) {d : D} {v : L2.V} {Q : L2.VK} (h : Po K m S H Q d S) (q : RD K m H d v) : Q v H := h _ _ _ .refl r q
/-- a list written -/
theorem put_list (r : RS K m S H) {n : Nat} {a : Addr} {xs ys : List D} {us : List L2.V} {Q : L2.VK} {d : D} {v : L2.V} (hn : S[n]? = some (.lst xs)) (ha : m[n]? = some a) (hu : RDs K m H ys us) (hd : RD K m H d v)
    (h : Po K m S H Q d (S.set n (.lst ys))) : Q v (L2.upd H a (.lst us)) := by
  obtain ⟨x1, r1⟩ := wrote r hn ha hu
  exact h _ _ _ x1 r1 (hd.keep r x1)

/-! ### two values -/
def opOf : BOp → Operator
  | .add => .Add | .sub => .Sub | .mul => .Mult | .fdiv => .FloorDiv | .mod => .Mod | .pow => .Pow
def rBin (K : K') : BOp → L2.R2
  | .add => fun x y H Q => L2.rI0 (fun i j => .int (i + j)) x y H Q ∨ ((∃ i j, x = .str i ∧ y = .str j ∧ i.length + j.length ≤ sizeLine ∧ Q (.str (i ++ j)) H) ∨ (L2.rCatA K x y H Q ∨ L2.rCat x y H Q))
  | .sub => L2.rI0 fun i j => .int (i - j)
  | .mul => fun x y H Q => L2.rI L2.CMul (fun i j => .int (i * j)) x y H Q ∨ (L2.rRep x y H Q ∨ rRepA K x y H Q)
  | .fdiv => L2.rI L2.CDivN fun i j => .int (i.fdiv j)
  | .mod => L2.rI (fun _ j => j ≠ 0) fun i j => .int (i.fmod j)
  | .pow => L2.rI L2.CPow fun i j => .int (i ^ j.toNat)
theorem opBin {X : L2.Cx} (op : BOp) : L2.OpR X (binaryOp (opOf op)) (rBin X.K op) := by
  cases op with
  | add => exact L2.op_add.or (L2.op_add_str.or (L2.op_catA.or L2.op_cat))
  | sub => exact L2.op_sub
  | mul => exact L2.op_mul.or (L2.op_rep.or op_repA)
  | fdiv => exact L2.op_fdivN
  | mod => exact L2.op_modN
  | pow => exact L2.op_pow
theorem bin_ok (r : RS K m S H) {op : BOp} {x y : D} {v u : L2.V} {Q : L2.VK} (dx : RD K m H x v) (dy : RD K m H y u) (h : binW op x y S (Po K m S H Q)) : rBin K op v u H Q := by
  unfold binW at h
  split at h
  · cases dx; cases dy; exact .inl ⟨_, _, rfl, rfl, at_once r h rfl⟩
  · cases dx; cases dy; exact .inr (.inl ⟨_, _, rfl, rfl, h.1, at_once r h.2 rfl⟩)
  · obtain ⟨a, vs, rfl, h1, h2⟩ := dx
    obtain ⟨b, us, rfl, h3, h4⟩ := dy
    obtain ⟨hz, h⟩ := h
    refine .inr (.inr (.inl ⟨a, b, vs, us, rfl, rfl, h1, h3, by rw [← h2.length, ← h4.length]; exact hz, fun e => ?_, fun _ e => ?_, fun _ _ => new_tup r (h2.append h4) h⟩))
    · subst e
      have e2 := h2.length
      have e3 : _ = ([] : List D) := List.length_eq_zero_iff.mp e2
      subst e3
      exact at_once r h ⟨b, us, rfl, h3, h4⟩
    · subst e
      have e2 := h4.length
      have e3 : _ = ([] : List D) := List.length_eq_zero_iff.mp e2
      subst e3
      rw [List.append_nil] at h
      exact at_once r h ⟨a, vs, rfl, h1, h2⟩
  · obtain ⟨xs, ys, h1, h2, hz, h⟩ := h
    obtain ⟨a, vs, rfl, _, e1, q1⟩ := lst_read r h1 dx
    obtain ⟨b, us, rfl, _, e2, q2⟩ := lst_read r h2 dy
    exact .inr (.inr (.inr ⟨a, b, vs, us, rfl, rfl, e1, e2, by rw [← q1.length, ← q2.length]; exact hz, new_list r (q1.append q2) h⟩))
  · cases dx; cases dy; exact ⟨_, _, rfl, rfl, at_once r h rfl⟩
  · cases dx; cases dy; exact .inl ⟨_, _, rfl, rfl, h.1, at_once r h.2 rfl⟩
  · obtain ⟨xs, h1, h2, h3, h4, h⟩ := h
    obtain ⟨a, vs, rfl, _, e1, q1⟩ := lst_read r h1 dx
    cases dy
    exact .inr (.inl ⟨a, _, vs, rfl, rfl, e1, h2, h3, by rw [← q1.length]; exact h4, new_list r (q1.rep _) h⟩)
  · obtain ⟨a, vs, rfl, h1, h2⟩ := dx
    cases dy
    rename_i xs k
    obtain ⟨⟨hz1, hz2, hz3⟩, h⟩ := h
    refine .inr (.inr ⟨a, k, vs, rfl, rfl, h1, hz2, hz1, by rw [← h2.length]; exact hz3, fun e => ?_, fun _ => new_tup r (h2.rep _) h⟩)
    have e2 : (List.replicate k.toNat xs).flatten = xs := by
      rcases e with e | e
      · subst e
        have e3 : xs = [] := List.length_eq_zero_iff.mp h2.length
        subst e3
        generalize k.toNat = n
        induction n with
        | zero => rfl
        | succ n ih => rw [List.replicate_succ, List.flatten_cons, ih]; rfl
      · subst e
        show ([xs]).flatten = xs
        simp
    rw [e2] at h
    exact at_once r h ⟨a, vs, rfl, h1, h2⟩
  · cases dx; cases dy; exact ⟨_, _, rfl, rfl, h.1, at_once r h.2 rfl⟩
  · cases dx; cases dy; exact ⟨_, _, rfl, rfl, h.1, at_once r h.2 rfl⟩
  · cases dx; cases dy; exact ⟨_, _, rfl, rfl, h.1, at_once r h.2 rfl⟩
  · exact h.elim

/-! ### comparisons -/
mutual
theorem dp_of : ∀ {d : D} {v : L2.V} {p : PyData}, RD K m H d v → toP d = some p → L2.Dp K H v p
  | .non, v, p, h, e => by
    have e' : PyData.none = p := by simpa [toP] using e
    have h' : v = .non := h
    rw [← e', h']; exact .non
  | .bl b, v, p, h, e => by
    have e' : PyData.bool b = p := by simpa [toP] using e
    have h' : v = .bl b := h
    rw [← e', h']; exact .bl b
  | .int b, v, p, h, e => by
    have e' : PyData.int b = p := by simpa [toP] using e
    have h' : v = .int b := h
    rw [← e', h']; exact .int b
  | .str b, v, p, h, e => by
    have e' : PyData.str b = p := by simpa [toP] using e
    have h' : v = .str b := h
    rw [← e', h']; exact .str b
  | .tup ds, v, p, h, e => by
    obtain ⟨a, vs, rfl, h1, h2⟩ := h
    cases q : toPs ds with
    | none => simp [toP, q] at e
    | some ps =>
      have e' : PyData.tuple ps = p := by simpa [toP, q] using e
      rw [← e']
      exact .tup h1 (dps_of h2 q)
  | .ref n, v, p, h, e => by simp [toP] at e
theorem dps_of : ∀ {ds : List D} {vs : List L2.V} {ps : List PyData}, RDs K m H ds vs → toPs ds = some ps → L2.DpAll K H vs ps
  | [], vs, ps, h, e => by
    have e' : [] = ps := by simpa [toPs] using e
    have h' : vs = [] := h
    rw [← e', h']; exact .nil
  | d :: ds, vs, ps, h, e => by
    obtain ⟨v, r, rfl, h1, h2⟩ := h
    cases q : toP d with
    | none => simp [toPs, q] at e
    | some p =>
      cases q2 : toPs ds with
      | none => simp [toPs, q, q2] at e
      | some ps' =>
        have e' : p :: ps' = ps := by simpa [toPs, q, q2] using e
        rw [← e']
        exact .cons (dp_of h1 q) (dps_of h2 q2)
end
mutual
theorem dpR_of (r : RS K m S H) : ∀ {d : D} {v : L2.V} {p : PyData}, RD K m H d v → toPR S d = some p → L2.Dp K H v p
  | .non, v, p, h, e => by
    have e' : PyData.none = p := by simpa [toPR] using e
    have h' : v = .non := h
    rw [← e', h']; exact .non
  | .bl b, v, p, h, e => by
    have e' : PyData.bool b = p := by simpa [toPR] using e
    have h' : v = .bl b := h
    rw [← e', h']; exact .bl b
  | .int b, v, p, h, e => by
    have e' : PyData.int b = p := by simpa [toPR] using e
    have h' : v = .int b := h
    rw [← e', h']; exact .int b
  | .str b, v, p, h, e => by
    have e' : PyData.str b = p := by simpa [toPR] using e
    have h' : v = .str b := h
    rw [← e', h']; exact .str b
  | .tup ds, v, p, h, e => by
    obtain ⟨a, vs, rfl, h1, h2⟩ := h
    cases q : toPRs S ds with
    | none => simp [toPR, q] at e
    | some ps =>
      have e' : PyData.tuple ps = p := by simpa [toPR, q] using e
      rw [← e']
      exact .tup h1 (dpRs_of r h2 q)
  | .ref n, v, p, h, e => by
    cases q : seqOf S n with
    | none => simp [toPR, q] at e
    | some xs =>
      cases q2 : toPs xs with
      | none => simp [toPR, q, q2] at e
      | some ps =>
        have e' : PyData.list ps = p := by simpa [toPR, q, q2] using e
        obtain ⟨a, vs, rfl, h1, h2⟩ := seq_read r q h
        rw [← e']
        exact .lst h1 (dps_of h2 q2)
theorem dpRs_of (r : RS K m S H) : ∀ {ds : List D} {vs : List L2.V} {ps : List PyData}, RDs K m H ds vs → toPRs S ds = some ps → L2.DpAll K H vs ps
  | [], vs, ps, h, e => by
    have e' : [] = ps := by simpa [toPRs] using e
    have h' : vs = [] := h
    rw [← e', h']; exact .nil
  | d :: ds, vs, ps, h, e => by
    obtain ⟨v, r', rfl, h1, h2⟩ := h
    cases q : toPR S d with
    | none => simp [toPRs, q] at e
    | some p =>
      cases q2 : toPRs S ds with
      | none => simp [toPRs, q, q2] at e
      | some ps' =>
        have e' : p :: ps' = ps := by simpa [toPRs, q, q2] using e
        rw [← e']
        exact .cons (dpR_of r h1 q) (dpRs_of r h2 q2)
end
theorem dpS_of (r : RS K m S H) {d : D} {v : L2.V} {p : PyData} (h : RD K m H d v) (e : toPS S d = some p) : L2.Dp K H v p := by
  cases d with
  | ref n =>
    cases q : seqOf S n with
    | none => simp [toPS, q] at e
    | some xs =>
      cases q2 : toPRs S xs with
      | none => simp [toPS, q, q2] at e
      | some ps =>
        have e' : PyData.list ps = p := by simpa [toPS, q, q2] using e
        obtain ⟨a, vs, rfl, h1, h2⟩ := seq_read r q h
        rw [← e']
        exact .lst h1 (dpRs_of r h2 q2)
  | _ => exact dpR_of r h e
theorem eq_of (r : RS K m S H) {x y : D} {v u : L2.V} {b : Bool} (dx : RD K m H x v) (dy : RD K m H y u) (h : eqB S x y = some b) :
    ∃ d e, L2.Dp K H v d ∧ L2.Dp K H u e ∧ SeqAt.shaped d = true ∧ SeqAt.shaped e = true ∧ PyData.eqv d e = b := by
  unfold eqB at h
  cases q : toPS S x with
  | none => simp [q] at h
  | some p =>
    cases q2 : toPS S y with
    | none => simp [q, q2] at h
    | some p' =>
      simp only [q, q2] at h
      split at h
      · rename_i hs
        have e := Option.some.inj h
        exact ⟨p, p', dpS_of r dx q, dpS_of r dy q2, hs.1, hs.2, e⟩
      · cases h
def copOf : COp → CmpOp
  | .eq => .Eq | .ne => .NotEq | .lt => .Lt | .le => .LtE | .gt => .Gt | .ge => .GtE | .is => .Is | .isnot => .IsNot | .isin => .In | .notin => .NotIn
/-- x in a list or a tuple of data -/
def rInA (K : K') (neg : Bool) : L2.R2 := fun x y H Q => ∃ a xs p ps, y = .ref a ∧ (L2.SqL K H a xs ∨ L2.SqT K H a xs) ∧ L2.Dp K H x p ∧ L2.DpAll K H xs ps ∧ PyData.canLayAll0 ps = true ∧ SeqAt.shaped p = true ∧
  Q (.bl (if neg then !ps.any fun z => PyData.eqv z p else ps.any fun z => PyData.eqv z p)) H
theorem op_inA {X : L2.Cx} (hu : X.A.units + 65 < cLine) : L2.OpR X (compareOp .In) (rInA X.K false) := by
  intro pins s σ H x y v u Q I rx ry h
  obtain ⟨a, xs, d, ds, rfl, hq, hd, hds, hc, sd, q⟩ := h
  rw [if_neg (by decide)] at q
  obtain ⟨as, r1⟩ := L2.Dp.reads I d x v hd rx
  rcases hq with hq | hq
  · obtain ⟨bs, r2⟩ := L2.Dp.reads I (.list ds) _ u (.lst hq hds) ry
    exact SeqAt.in_list_reads r2 r1 hc (SeqAt.canLay_of_shaped sd) (room_in_shaped sd hu) ⟨.bl _, H, I, rfl, q⟩
  · obtain ⟨bs, r2⟩ := L2.Dp.reads I (.tuple ds) _ u (.tup hq hds) ry
    exact SeqAt.in_tuple_reads r2 r1 hc (SeqAt.canLay_of_shaped sd) (room_in_shaped sd hu) ⟨.bl _, H, I, rfl, q⟩
theorem op_notInA {X : L2.Cx} (hu : X.A.units + 65 < cLine) : L2.OpR X (compareOp .NotIn) (rInA X.K true) := by
  intro pins s σ H x y v u Q I rx ry h
  obtain ⟨a, xs, d, ds, rfl, hq, hd, hds, hc, sd, q⟩ := h
  rw [if_pos rfl] at q
  obtain ⟨as, r1⟩ := L2.Dp.reads I d x v hd rx
  rcases hq with hq | hq
  · obtain ⟨bs, r2⟩ := L2.Dp.reads I (.list ds) _ u (.lst hq hds) ry
    exact SeqAt.notIn_list_reads r2 r1 hc (SeqAt.canLay_of_shaped sd) (room_in_shaped sd hu) ⟨.bl _, H, I, rfl, q⟩
  · obtain ⟨bs, r2⟩ := L2.Dp.reads I (.tuple ds) _ u (.tup hq hds) ry
    exact SeqAt.notIn_tuple_reads r2 r1 hc (SeqAt.canLay_of_shaped sd) (room_in_shaped sd hu) ⟨.bl _, H, I, rfl, q⟩
def rCmp (K : K') : COp → L2.R2
  | .eq => L2.rEqD K
  | .ne => L2.rNeD K
  | .lt => L2.rI0 fun i j => .bl (decide (i < j))
  | .le => L2.rI0 fun i j => .bl (decide (i ≤ j))
  | .gt => L2.rI0 fun i j => .bl (decide (j < i))
  | .ge => L2.rI0 fun i j => .bl (decide (j ≤ i))
  | .is => fun x y H Q => y = .non ∧ Q (.bl (decide (x = .non))) H
  | .isnot => fun x y H Q => y = .non ∧ Q (.bl (!decide (x = .non))) H
  | .isin => fun x y H Q => L2.rIn K false x y H Q ∨ rInA K false x y H Q
  | .notin => fun x y H Q => L2.rIn K true x y H Q ∨ rInA K true x y H Q
theorem opCmp {X : L2.Cx} {k : Nat} (hr : L2.Room k X.A) (op : COp) : L2.OpR X (compareOp (copOf op)) (rCmp X.K op) := by
  cases op with
  | eq => exact L2.op_eqD hr.units
  | ne => exact L2.op_neD hr.units
  | lt => exact L2.op_lt
  | le => exact L2.op_le
  | gt => exact L2.op_gt
  | ge => exact L2.op_ge
  | is => exact L2.op_isN
  | isnot => exact L2.op_notN
  | isin => exact L2.op_in_seq.or (op_inA (by have := hr.un; omega))
  | notin => exact L2.op_notIn_seq.or (op_notInA (by have := hr.un; omega))
theorem isNon_of {x : D} {v : L2.V} (h : RD K m H x v) : decide (v = .non) = isNon x := by
  cases x with
  | non => have e : v = .non := h; rw [e]; rfl
  | bl b => have e : v = .bl b := h; rw [e]; rfl
  | int b => have e : v = .int b := h; rw [e]; rfl
  | str b => have e : v = .str b := h; rw [e]; rfl
  | tup ds => obtain ⟨a, vs, e, _⟩ := h; rw [e]; rfl
  | ref n => obtain ⟨a, e, _⟩ := h; rw [e]; rfl
theorem flat_of {x : D} {v : L2.V} (h : RD K m H x v) (f : flatD x = true) : L2.flatV v = true := by
  cases x with
  | non => have e : v = .non := h; rw [e]; rfl
  | bl b => have e : v = .bl b := h; rw [e]; rfl
  | int b => have e : v = .int b := h; rw [e]; rfl
  | str b => have e : v = .str b := h; rw [e]; rfl
  | _ => cases f
theorem eqF_of {x y : D} {v u : L2.V} (h : RD K m H x v) (h' : RD K m H y u) (f : flatD x = true) (f' : flatD y = true) : L2.eqV v u = eqF x y := by
  cases x <;> cases y <;> first
    | (cases f; done)
    | (cases f'; done)
    | (cases h; cases h'; rfl)
theorem flats_of : ∀ {xs : List D} {vs : List L2.V}, RDs K m H xs vs → xs.all flatD = true → vs.all L2.flatV = true
  | [], vs, h, _ => by have e : vs = [] := h; rw [e]; rfl
  | x :: xs, vs, h, f => by
    obtain ⟨v, r, rfl, h1, h2⟩ := h
    rw [List.all_cons, Bool.and_eq_true] at f
    rw [List.all_cons, flat_of h1 f.1, flats_of h2 f.2]; rfl
theorem any_of {y : D} {u : L2.V} (hy : RD K m H y u) (fy : flatD y = true) : ∀ {xs : List D} {vs : List L2.V}, RDs K m H xs vs → xs.all flatD = true → (vs.any fun w => L2.eqV w u) = xs.any fun z => eqF z y
  | [], vs, h, _ => by have e : vs = [] := h; rw [e]; rfl
  | x :: xs, vs, h, f => by
    obtain ⟨v, r, rfl, h1, h2⟩ := h
    rw [List.all_cons, Bool.and_eq_true] at f
    rw [List.any_cons, List.any_cons, eqF_of h1 hy f.1 fy, any_of hy fy h2 f.2]
theorem cmp_ok (r : RS K m S H) {op : COp} {x y : D} {v u : L2.V} {Q : L2.VK} (dx : RD K m H x v) (dy : RD K m H y u) (h : cmpW op x y S fun k S' => Po K m S H Q (.bl k) S') : rCmp K op v u H Q := by
  unfold cmpW at h
  cases op <;> dsimp only at h
  · obtain ⟨b, e, q⟩ := h
    obtain ⟨d, e', h1, h2, h3, h4, h5⟩ := eq_of r dx dy e
    exact ⟨d, e', h1, h2, h3, h4, by rw [h5]; exact at_once r q rfl⟩
  · obtain ⟨b, e, q⟩ := h
    obtain ⟨d, e', h1, h2, h3, h4, h5⟩ := eq_of r dx dy e
    exact ⟨d, e', h1, h2, h3, h4, by rw [h5]; exact at_once r q rfl⟩
  · split at h
    · cases dx; cases dy; exact ⟨_, _, rfl, rfl, at_once r h rfl⟩
    · exact h.elim
  · split at h
    · cases dx; cases dy; exact ⟨_, _, rfl, rfl, at_once r h rfl⟩
    · exact h.elim
  · split at h
    · cases dx; cases dy; exact ⟨_, _, rfl, rfl, at_once r h rfl⟩
    · exact h.elim
  · split at h
    · cases dx; cases dy; exact ⟨_, _, rfl, rfl, at_once r h rfl⟩
    · exact h.elim
  · obtain ⟨rfl, q⟩ := h
    cases dy
    exact ⟨rfl, by rw [isNon_of dx]; exact at_once r q rfl⟩
  · obtain ⟨rfl, q⟩ := h
    cases dy
    exact ⟨rfl, by rw [isNon_of dx]; exact at_once r q rfl⟩
  · rcases h with ⟨xs, h1, h2, h3, q⟩ | ⟨xs, p, ps, h1, h2, h3, h6, h7, q⟩
    · obtain ⟨a, vs, rfl, h4, h5⟩ := items_read r h1 dy
      exact .inl ⟨a, vs, rfl, h4, flat_of dx h2, flats_of h5 h3, by rw [if_neg (by decide), show L2.inV v vs = xs.any (fun z => eqF z x) from any_of dx h2 h5 h3]; exact at_once r q rfl⟩
    · obtain ⟨a, vs, rfl, h4, h5⟩ := items_read r h1 dy
      exact .inr ⟨a, vs, p, ps, rfl, h4, dpR_of r dx h2, dpRs_of r h5 h3, h6, h7, by rw [if_neg (by decide)]; exact at_once r q rfl⟩
  · rcases h with ⟨xs, h1, h2, h3, q⟩ | ⟨xs, p, ps, h1, h2, h3, h6, h7, q⟩
    · obtain ⟨a, vs, rfl, h4, h5⟩ := items_read r h1 dy
      exact .inl ⟨a, vs, rfl, h4, flat_of dx h2, flats_of h5 h3, by rw [if_pos rfl, show L2.inV v vs = xs.any (fun z => eqF z x) from any_of dx h2 h5 h3]; exact at_once r q rfl⟩
    · obtain ⟨a, vs, rfl, h4, h5⟩ := items_read r h1 dy
      exact .inr ⟨a, vs, p, ps, rfl, h4, dpR_of r dx h2, dpRs_of r h5 h3, h6, h7, by rw [if_pos rfl]; exact at_once r q rfl⟩

/-! ### truth -/
theorem isEmpty_of {xs : List D} {vs : List L2.V} (h : RDs K m H xs vs) : (!vs.isEmpty) = !xs.isEmpty := by
  have e := h.length
  cases xs <;> cases vs <;> first | rfl | simp at e
theorem tru_of (r : RS K m S H) {x : D} {v : L2.V} {k : Bool} (d : RD K m H x v) (h : truD S x = some k) : L2.TruV K v H k := by
  cases x with
  | non => cases d; have e : false = k := by simpa [truD] using h
           exact e.symm
  | bl b => cases d; have e : b = k := by simpa [truD] using h
            exact e.symm
  | int b => cases d; have e : (b != 0) = k := by simpa [truD] using h
             exact e.symm
  | str b =>
    cases d
    unfold truD at h
    dsimp only at h
    split at h
    · exact ⟨by assumption, (Option.some.inj h).symm⟩
    · cases h
  | tup xs =>
    obtain ⟨a, vs, rfl, h1, h2⟩ := d
    have e : (!xs.isEmpty) = k := by simpa [truD] using h
    exact .inr (.inl ⟨vs, h1, by rw [← e, isEmpty_of h2]⟩)
  | ref n =>
    cases q : seqOf S n with
    | none => simp [truD, q] at h
    | some xs =>
      obtain ⟨a, vs, rfl, h1, h2⟩ := seq_read r q d
      have e : (!xs.isEmpty) = k := by simpa [truD, q] using h
      exact .inl ⟨vs, h1, by rw [← e, isEmpty_of h2]⟩

/-! ### items, slices -/
theorem atI_of {xs : List D} {vs : List L2.V} {i : Int} {d : D} (h : RDs K m H xs vs) (e : L2.atI xs i = some d) : ∃ v, L2.atI vs i = some v ∧ RD K m H d v := by
  unfold L2.atI at e ⊢
  rw [← h.length]
  cases q : L2.ixN xs.length i with
  | none => rw [q] at e; cases e
  | some j =>
    rw [q] at e
    obtain ⟨v, e1, e2⟩ := h.get (i := j) e
    exact ⟨v, e1, e2⟩
theorem ix_ok (r : RS K m S H) {x y : D} {v u : L2.V} {Q : L2.VK} (dx : RD K m H x v) (dy : RD K m H y u) (h : ixW x y S (Po K m S H Q)) : L2.rIx K v u H Q := by
  unfold ixW at h
  split at h
  · obtain ⟨d, h1, q⟩ := h
    obtain ⟨a, vs, rfl, h2, h3⟩ := dx
    cases dy
    obtain ⟨w, h4, h5⟩ := atI_of h3 h1
    exact .inr (.inl ⟨a, vs, _, w, rfl, rfl, h2, h4, at_once r q h5⟩)
  · obtain ⟨xs, d, h0, h1, q⟩ := h
    obtain ⟨a, vs, rfl, h2, h3⟩ := seq_read r h0 dx
    cases dy
    obtain ⟨w, h4, h5⟩ := atI_of h3 h1
    exact .inl ⟨a, vs, _, w, rfl, rfl, h2, h4, at_once r q h5⟩
  · obtain ⟨c, h1, h2, q⟩ := h
    cases dx; cases dy
    exact .inr (.inr ⟨_, _, c, rfl, rfl, h1, h2, at_once r q rfl⟩)
  · exact h.elim
def rSl (K : K') : L2.V → Option Int → Option Int → L2.Hp → L2.VK → Prop := fun x lo hi H Q => L2.rSlL K x lo hi H Q ∨ L2.rSlA K x lo hi H Q
theorem opSl {X : L2.Cx} : L2.SlR X (rSl X.K) := L2.sl_list.or L2.sl_tupA
theorem sl_ok (r : RS K m S H) {x : D} {v : L2.V} {lo hi : Option Int} {Q : L2.VK} (dx : RD K m H x v) (h : slW x lo hi S (Po K m S H Q)) : rSl K v lo hi H Q := by
  unfold slW at h
  split at h
  · rename_i xs
    obtain ⟨a, vs, rfl, h2, h3⟩ := dx
    refine .inr ⟨a, vs, rfl, h2, fun e => ?_, fun _ => new_tup r (h3.cut lo hi) h⟩
    have e1 : cutD xs lo hi = xs := by
      unfold cutD
      rw [h3.length, e.1, e.2, List.drop_zero, Nat.sub_zero, ← h3.length, List.take_length]
    rw [e1] at h
    exact at_once r h ⟨a, vs, rfl, h2, h3⟩
  · obtain ⟨xs, h0, h⟩ := h
    obtain ⟨a, vs, rfl, h2, h3⟩ := seq_read r h0 dx
    exact .inl ⟨a, vs, rfl, h2, new_list r (h3.cut lo hi) h⟩
  · exact h.elim

/-! ### built-ins -/
theorem maxOf_mem : ∀ {ns : List Int}, 0 < ns.length → maxOf ns ∈ ns ∧ ∀ y ∈ ns, y ≤ maxOf ns
  | [], h => by simp at h
  | x :: xs, _ => by
    have go : ∀ (l : List Int) (a : Int), (l.foldl max a = a ∨ l.foldl max a ∈ l) ∧ a ≤ l.foldl max a ∧ ∀ y ∈ l, y ≤ l.foldl max a := by
      intro l
      induction l with
      | nil => intro a; exact ⟨.inl rfl, Int.le_refl _, fun y hy => by simp at hy⟩
      | cons b l ih =>
        intro a
        obtain ⟨h1, h2, h3⟩ := ih (max a b)
        show (List.foldl max (max a b) l = a ∨ List.foldl max (max a b) l ∈ b :: l) ∧ a ≤ List.foldl max (max a b) l ∧ ∀ y ∈ b :: l, y ≤ List.foldl max (max a b) l
        refine ⟨?_, by omega, fun y hy => ?_⟩
        · rcases h1 with h1 | h1
          · rw [h1]
            by_cases hab : a ≤ b
            · right; rw [Int.max_eq_right hab]; exact List.mem_cons_self
            · left; exact Int.max_eq_left (by omega)
          · exact .inr (List.mem_cons_of_mem _ h1)
        · rcases List.mem_cons.mp hy with rfl | hy
          · omega
          · exact h3 y hy
    obtain ⟨h1, h2, h3⟩ := go xs x
    refine ⟨?_, fun y hy => ?_⟩
    · rcases h1 with h1 | h1
      · show List.foldl max x xs ∈ _
        rw [h1]; exact List.mem_cons_self
      · exact List.mem_cons_of_mem _ h1
    · rcases List.mem_cons.mp hy with rfl | hy
      · exact h2
      · exact h3 y hy
theorem minOf_mem : ∀ {ns : List Int}, 0 < ns.length → minOf ns ∈ ns ∧ ∀ y ∈ ns, minOf ns ≤ y
  | [], h => by simp at h
  | x :: xs, _ => by
    have go : ∀ (l : List Int) (a : Int), (l.foldl min a = a ∨ l.foldl min a ∈ l) ∧ l.foldl min a ≤ a ∧ ∀ y ∈ l, l.foldl min a ≤ y := by
      intro l
      induction l with
      | nil => intro a; exact ⟨.inl rfl, Int.le_refl _, fun y hy => by simp at hy⟩
      | cons b l ih =>
        intro a
        obtain ⟨h1, h2, h3⟩ := ih (min a b)
        show (List.foldl min (min a b) l = a ∨ List.foldl min (min a b) l ∈ b :: l) ∧ List.foldl min (min a b) l ≤ a ∧ ∀ y ∈ b :: l, List.foldl min (min a b) l ≤ y
        refine ⟨?_, by omega, fun y hy => ?_⟩
        · rcases h1 with h1 | h1
          · rw [h1]
            by_cases hab : b ≤ a
            · right; rw [Int.min_eq_right hab]; exact List.mem_cons_self
            · left; exact Int.min_eq_left (by omega)
          · exact .inr (List.mem_cons_of_mem _ h1)
        · rcases List.mem_cons.mp hy with rfl | hy
          · omega
          · exact h3 y hy
    obtain ⟨h1, h2, h3⟩ := go xs x
    refine ⟨?_, fun y hy => ?_⟩
    · rcases h1 with h1 | h1
      · show List.foldl min x xs ∈ _
        rw [h1]; exact List.mem_cons_self
      · exact List.mem_cons_of_mem _ h1
    · rcases List.mem_cons.mp hy with rfl | hy
      · exact h2
      · exact h3 y hy
def bltFn : Blt → Value
  | .len => .builtin "len" | .abs => .builtin "abs" | .int => .type "int" | .max => .builtin "max" | .min => .builtin "min" | .sum => .builtin "sum"
  | .tuple => .type "tuple" | .list => .type "list" | .any => .builtin "any" | .all => .builtin "all" | .str => .type "str" | .sorted => .builtin "sorted"
abbrev RC := List L2.V → L2.Hp → L2.VK → Prop
def rMaxT (K : K') : RC := fun vs H Q => ∃ (a : Addr) (ns : List Int), vs = [L2.V.ref a] ∧ L2.SqT K H a (ns.map L2.V.int) ∧ 0 < ns.length ∧ Q (.int (maxOf ns)) H
def rMinT (K : K') : RC := fun vs H Q => ∃ (a : Addr) (ns : List Int), vs = [L2.V.ref a] ∧ L2.SqT K H a (ns.map L2.V.int) ∧ 0 < ns.length ∧ Q (.int (minOf ns)) H
theorem fold_min (x : Int) (xs : List Int) : PySem.W.minOf x xs = minOf (x :: xs) := by
  show xs.foldl _ x = xs.foldl min x
  congr 1
  funext a y
  show (if decide (y < a) = true then y else a) = min a y
  by_cases h : y < a
  · rw [if_pos (decide_eq_true h)]; omega
  · rw [if_neg (by simpa using h)]; omega
theorem fold_max (x : Int) (xs : List Int) : PySem.W.maxOf x xs = maxOf (x :: xs) := by
  show xs.foldl _ x = xs.foldl max x
  congr 1
  funext a y
  show (if decide (a < y) = true then y else a) = max a y
  by_cases h : a < y
  · rw [if_pos (decide_eq_true h)]; omega
  · rw [if_neg (by simpa using h)]; omega
theorem cr_minT {X : L2.Cx} {k : Nat} (hr : L2.Room k X.A) : L2.CallR X (.builtin "min") (rMinT X.K) := by
  intro pins s σ H vs us Q I r h
  obtain ⟨a, ns, rfl, hS, hp, q⟩ := h
  obtain ⟨u, rfl, e⟩ := L2.vals1 r
  obtain rfl : u = Value.ref a := e
  obtain ⟨its, rv, ht, _⟩ := I.tuple hS
  cases ns with
  | nil => cases hp
  | cons x xs =>
    refine PySem.W.min_tuple_datum (α := Int) (x := x) (xs := xs) hr.hd ht (PySem.W.HoldAll.of_ints (by simpa using L2.Vals.ints rv)) (by have := hr.units; show X.A.units + 1 + 0 < cLine; omega) fun i v h' tk hi hv hk => ?_
    obtain ⟨t, rfl⟩ : ∃ t, v = .int (minOf (x :: xs)) t := by
      rw [← fold_min]
      obtain ⟨as, hr⟩ := hv
      cases hr
      exact ⟨_, rfl⟩
    exact ⟨.int (minOf (x :: xs)), H, I.kept (t' := tk) hk, ⟨t, rfl⟩, q⟩
theorem cr_maxT {X : L2.Cx} {k : Nat} (hr : L2.Room k X.A) : L2.CallR X (.builtin "max") (rMaxT X.K) := by
  intro pins s σ H vs us Q I r h
  obtain ⟨a, ns, rfl, hS, hp, q⟩ := h
  obtain ⟨u, rfl, e⟩ := L2.vals1 r
  obtain rfl : u = Value.ref a := e
  obtain ⟨its, rv, ht, _⟩ := I.tuple hS
  cases ns with
  | nil => cases hp
  | cons x xs =>
    refine PySem.W.max_tuple_datum (α := Int) (x := x) (xs := xs) hr.hd ht (PySem.W.HoldAll.of_ints (by simpa using L2.Vals.ints rv)) (by have := hr.units; show X.A.units + 1 + 0 < cLine; omega) fun i v h' tk hi hv hk => ?_
    obtain ⟨t, rfl⟩ : ∃ t, v = .int (maxOf (x :: xs)) t := by
      rw [← fold_max]
      obtain ⟨as, hr⟩ := hv
      cases hr
      exact ⟨_, rfl⟩
    exact ⟨.int (maxOf (x :: xs)), H, I.kept (t' := tk) hk, ⟨t, rfl⟩, q⟩
def rBlt (K : K') : Blt → RC
  | .len => fun xs H Q => ∃ x n, xs = [x] ∧ L2.LenV K x H n ∧ Q (.int n) H
  | .abs => fun xs H Q => ∃ i, xs = [.int i] ∧ Q (.int (if i < 0 then -i else i)) H
  | .int => fun xs H Q => (∃ i, xs = [.int i] ∧ Q (.int i) H) ∨ ∃ k, xs = [.bl k] ∧ Q (.int (if k then 1 else 0)) H
  | .max => fun xs H Q => (∃ i j, xs = [.int i, .int j] ∧ Q (.int (if j > i then j else i)) H) ∨ ((L2.rMax K xs H Q ∨ rMaxT K xs H Q) ∨ (rMax3 xs H Q ∨ rMax4 xs H Q))
  | .min => fun xs H Q => (∃ i j, xs = [.int i, .int j] ∧ Q (.int (if j < i then j else i)) H) ∨ ((L2.rMin K xs H Q ∨ rMinT K xs H Q) ∨ (rMin3 xs H Q ∨ rMin4 xs H Q))
  | .sum => L2.rSum K
  | .tuple => fun xs H Q => ∃ p ys, xs = [.ref p] ∧ ((L2.SqL K H p ys ∧ ∀ l, H l = none → Q (.ref l) (L2.upd H l (.tup ys))) ∨ (L2.SqT K H p ys ∧ Q (.ref p) H))
  | .list => fun xs H Q => ∃ p ys, xs = [.ref p] ∧ (L2.SqL K H p ys ∨ L2.SqT K H p ys) ∧ ∀ l, H l = none → Q (.ref l) (L2.upd H l (.lst ys))
  | .any => L2.rAny K
  | .all => L2.rAll K
  | .str => fun xs H Q => ∃ i, xs = [.int i] ∧ i.natAbs.log2 < 1920 ∧ Q (.str (toString i)) H
  | .sorted => rSortedD K
theorem opBlt {X : L2.Cx} {k : Nat} (hr : L2.Room k X.A) (hc : X.calm = true) (f : Blt) : L2.CallR X (bltFn f) (rBlt X.K f) := by
  cases f with
  | len => exact L2.call_len
  | abs => exact L2.call_abs
  | int => exact L2.call_int1
  | max => exact (L2.call_max2 hc).or (((L2.cr_max hc).or (cr_maxT hr)).or ((call_max3 hc).or (call_max4 hc)))
  | min => exact (L2.call_min2 hc).or (((L2.cr_min hc).or (cr_minT hr)).or ((call_min3 hc).or (call_min4 hc)))
  | sum => exact L2.cr_sum hc
  | tuple => exact L2.call_tuple_of
  | list => exact L2.call_list_of
  | any => exact L2.cr_any hc
  | all => exact L2.cr_all hc
  | str => exact L2.call_str_int
  | sorted => exact cr_sortedD hr.units
theorem one_of {x : D} {vs : List L2.V} (h : RDs K m H [x] vs) : ∃ v, vs = [v] ∧ RD K m H x v := by
  obtain ⟨v, r, rfl, h1, h2⟩ := h
  have e : r = [] := h2
  subst e
  exact ⟨v, rfl, h1⟩
theorem two_of {x y : D} {vs : List L2.V} (h : RDs K m H [x, y] vs) : ∃ v u, vs = [v, u] ∧ RD K m H x v ∧ RD K m H y u := by
  obtain ⟨v, r, rfl, h1, h2⟩ := h
  obtain ⟨u, rfl, h3⟩ := one_of h2
  exact ⟨v, u, rfl, h1, h3⟩
theorem three_of {x y z : D} {vs : List L2.V} (h : RDs K m H [x, y, z] vs) : ∃ v u w, vs = [v, u, w] ∧ RD K m H x v ∧ RD K m H y u ∧ RD K m H z w := by
  obtain ⟨v, r, rfl, h1, h2⟩ := h
  obtain ⟨u, w, rfl, h3, h4⟩ := two_of h2
  exact ⟨v, u, w, rfl, h1, h3, h4⟩
theorem four_of {x y z a : D} {vs : List L2.V} (h : RDs K m H [x, y, z, a] vs) : ∃ v u w b, vs = [v, u, w, b] ∧ RD K m H x v ∧ RD K m H y u ∧ RD K m H z w ∧ RD K m H a b := by
  obtain ⟨v, r, rfl, h1, h2⟩ := h
  obtain ⟨u, w, b, rfl, h3, h4, h5⟩ := three_of h2
  exact ⟨v, u, w, b, rfl, h1, h3, h4, h5⟩
theorem each_RDs : ∀ {ds : List D} {vs : List L2.V} {ps : List PyData}, RDs K m H ds vs → toPRs S ds = some ps →
    PySem.W.EachIs (fun (b : L2.V × PyData) (d : D) => RD K m H d b.1 ∧ toPR S d = some b.2) (vs.zip ps) ds
  | [], vs, ps, h, e => by
    have h' : vs = [] := h
    rw [h']; exact .nil
  | d :: ds, vs, ps, h, e => by
    obtain ⟨v, r', rfl, h1, h2⟩ := h
    cases q : toPR S d with
    | none => simp [toPRs, q] at e
    | some p =>
      cases q2 : toPRs S ds with
      | none => simp [toPRs, q, q2] at e
      | some ps' =>
        have e' : p :: ps' = ps := by simpa [toPRs, q, q2] using e
        rw [← e']
        exact .cons ⟨h1, q⟩ (each_RDs h2 q2)
theorem RDs_each : ∀ {bs : List (L2.V × PyData)} {ds : List D}, PySem.W.EachIs (fun (b : L2.V × PyData) (d : D) => RD K m H d b.1 ∧ toPR S d = some b.2) bs ds → RDs K m H ds (bs.map Prod.fst)
  | _, _, .nil => rfl
  | _, _, .cons h t => ⟨_, _, rfl, h.1, RDs_each t⟩
theorem sort_ok {ds : List D} {vs : List L2.V} {ps : List PyData} (h : RDs K m H ds vs) (hp : toPRs S ds = some ps) :
    RDs K m H (sortD S ds) (((vs.zip ps).mergeSort (PySem.W.dataLe false Prod.snd)).map Prod.fst) := by
  have e := each_RDs h hp
  refine RDs_each (S := S) (PySem.W.sort_each e fun p hp q hq => ?_)
  have e1 := (e.zip p hp).2
  have e2 := (e.zip q hq).2
  rw [PySem.W.dataLe_eq, PySem.W.dataLe_eq]
  dsimp only
  rw [e1, e2]
  rfl
theorem blt_ok (r : RS K m S H) {f : Blt} {xs : List D} {vs : List L2.V} {Q : L2.VK} (dx : RDs K m H xs vs) (h : bltW f xs S (Po K m S H Q)) : rBlt K f vs H Q := by
  unfold bltW at h
  split at h
  · obtain ⟨v, rfl, a, us, rfl, h1, h2⟩ := one_of dx
    exact ⟨_, _, rfl, .inr ⟨us, h1, rfl⟩, by rw [← h2.length]; exact at_once r h rfl⟩
  · obtain ⟨ds, h0, h⟩ := h
    obtain ⟨v, rfl, d⟩ := one_of dx
    obtain ⟨a, us, rfl, h1, h2⟩ := seq_read r h0 d
    exact ⟨_, _, rfl, .inl ⟨us, h1, rfl⟩, by rw [← h2.length]; exact at_once r h rfl⟩
  · obtain ⟨v, rfl, d⟩ := one_of dx
    cases d
    exact ⟨_, _, rfl, ⟨h.1, rfl⟩, at_once r h.2 rfl⟩
  · obtain ⟨v, rfl, d⟩ := one_of dx
    cases d
    exact ⟨_, rfl, at_once r h rfl⟩
  · obtain ⟨v, rfl, d⟩ := one_of dx
    cases d
    exact .inl ⟨_, rfl, at_once r h rfl⟩
  · obtain ⟨v, rfl, d⟩ := one_of dx
    cases d
    exact .inr ⟨_, rfl, at_once r h rfl⟩
  · obtain ⟨v, u, rfl, d1, d2⟩ := two_of dx
    cases d1; cases d2
    exact .inl ⟨_, _, rfl, at_once r h rfl⟩
  · obtain ⟨v, u, rfl, d1, d2⟩ := two_of dx
    cases d1; cases d2
    exact .inl ⟨_, _, rfl, at_once r h rfl⟩
  · obtain ⟨v, u, w, rfl, d1, d2, d3⟩ := three_of dx
    cases d1; cases d2; cases d3
    exact .inr (.inr (.inl ⟨_, _, _, rfl, at_once r h rfl⟩))
  · obtain ⟨v, u, w, rfl, d1, d2, d3⟩ := three_of dx
    cases d1; cases d2; cases d3
    exact .inr (.inr (.inl ⟨_, _, _, rfl, at_once r h rfl⟩))
  · obtain ⟨v, u, w, z, rfl, d1, d2, d3, d4⟩ := four_of dx
    cases d1; cases d2; cases d3; cases d4
    exact .inr (.inr (.inr ⟨_, _, _, _, rfl, at_once r h rfl⟩))
  · obtain ⟨v, u, w, z, rfl, d1, d2, d3, d4⟩ := four_of dx
    cases d1; cases d2; cases d3; cases d4
    exact .inr (.inr (.inr ⟨_, _, _, _, rfl, at_once r h rfl⟩))
  · obtain ⟨ds, ns, h0, h1, hp, h⟩ := h
    obtain ⟨v, rfl, d⟩ := one_of dx
    obtain ⟨a, us, rfl, h2, h3⟩ := seq_read r h0 d
    rw [h3.ints h1] at h2
    refine .inr (.inl (.inl ⟨a, ns, rfl, h2, hp, fun x hx hall => ?_⟩))
    have e : x = maxOf ns := Int.le_antisymm ((maxOf_mem hp).2 x hx) (hall _ (maxOf_mem hp).1)
    rw [e]
    exact at_once r h rfl
  · obtain ⟨ds, ns, h0, h1, hp, h⟩ := h
    obtain ⟨v, rfl, d⟩ := one_of dx
    obtain ⟨a, us, rfl, h2, h3⟩ := seq_read r h0 d
    rw [h3.ints h1] at h2
    refine .inr (.inl (.inl ⟨a, ns, rfl, h2, hp, fun x hx hall => ?_⟩))
    have e : x = minOf ns := Int.le_antisymm (hall _ (minOf_mem hp).1) ((minOf_mem hp).2 x hx)
    rw [e]
    exact at_once r h rfl
  · obtain ⟨ns, h1, hp, h⟩ := h
    obtain ⟨v, rfl, a, us, rfl, h2, h3⟩ := one_of dx
    rw [h3.ints h1] at h2
    exact .inr (.inl (.inr ⟨a, ns, rfl, h2, hp, at_once r h rfl⟩))
  · obtain ⟨ns, h1, hp, h⟩ := h
    obtain ⟨v, rfl, a, us, rfl, h2, h3⟩ := one_of dx
    rw [h3.ints h1] at h2
    exact .inr (.inl (.inr ⟨a, ns, rfl, h2, hp, at_once r h rfl⟩))
  · obtain ⟨ds, ns, h0, h1, h⟩ := h
    obtain ⟨v, rfl, d⟩ := one_of dx
    obtain ⟨a, us, rfl, h2, h3⟩ := seq_read r h0 d
    rw [h3.ints h1] at h2
    exact ⟨a, ns, rfl, h2, at_once r h rfl⟩
  · obtain ⟨v, rfl, a, us, rfl, h1, h2⟩ := one_of dx
    exact ⟨a, us, rfl, .inr ⟨h1, at_once r h ⟨a, us, rfl, h1, h2⟩⟩⟩
  · obtain ⟨ds, h0, h⟩ := h
    obtain ⟨v, rfl, d⟩ := one_of dx
    obtain ⟨a, us, rfl, h2, h3⟩ := seq_read r h0 d
    exact ⟨a, us, rfl, .inl ⟨h2, new_tup r h3 h⟩⟩
  · obtain ⟨v, rfl, a, us, rfl, h1, h2⟩ := one_of dx
    exact ⟨a, us, rfl, .inr h1, new_list r h2 h⟩
  · obtain ⟨ds, h0, h⟩ := h
    obtain ⟨v, rfl, d⟩ := one_of dx
    obtain ⟨a, us, rfl, h2, h3⟩ := seq_read r h0 d
    exact ⟨a, us, rfl, .inl h2, new_list r h3 h⟩
  · obtain ⟨ds, ns, h0, h1, h⟩ := h
    obtain ⟨v, rfl, d⟩ := one_of dx
    obtain ⟨a, us, rfl, h2, h3⟩ := seq_read r h0 d
    rw [h3.bls h1] at h2
    exact ⟨a, ns, rfl, h2, at_once r h rfl⟩
  · obtain ⟨ds, ns, h0, h1, h⟩ := h
    obtain ⟨v, rfl, d⟩ := one_of dx
    obtain ⟨a, us, rfl, h2, h3⟩ := seq_read r h0 d
    rw [h3.bls h1] at h2
    exact ⟨a, ns, rfl, h2, at_once r h rfl⟩
  · obtain ⟨ds, ps, h0, h1, h5, h6, h7, h⟩ := h
    obtain ⟨v, rfl, d⟩ := one_of dx
    obtain ⟨a, us, rfl, h2, h3⟩ := seq_read r h0 d
    exact ⟨a, us, ps, rfl, h2, dpRs_of r h3 h1, h5, h6, h7, new_list r (sort_ok h3 h1) h⟩
  · obtain ⟨v, rfl, d⟩ := one_of dx
    cases d
    exact ⟨_, rfl, h.1, at_once r h.2 rfl⟩
  · exact h.elim

/-! ### isinstance -/
def tyOf : Ty → String
  | .tuple => "tuple" | .list => "list" | .str => "str" | .int => "int" | .bool => "bool"
def dTy (S : St) : D → String
  | .non => "NoneType" | .bl _ => "bool" | .int _ => "int" | .str _ => "str" | .tup _ => "tuple"
  | .ref n => match S[n]? with
    | some (.dic _) => "dict"
    | _ => "list"
theorem tyx_of (r : RS K m S H) (hlen : ∀ n, n < m.length → ∃ o, S[n]? = some o) {x : D} {v : L2.V} (h : RD K m H x v) : L2.TyX K H v (.type (dTy S x)) := by
  cases x with
  | non => cases h; exact .base .non
  | bl b => cases h; exact .base (.bl b)
  | int b => cases h; exact .base (.int b)
  | str b => cases h; exact .base (.str b)
  | tup ds =>
    obtain ⟨a, vs, rfl, h1, _⟩ := h
    rcases h1 with (h1 | ⟨o, h1⟩) | ⟨o, _, _, h1, h2, _⟩
    · exact .base (.tup h1)
    · exact .fTuple h1
    · exact .kTuple h1 h2
  | ref n =>
    obtain ⟨a, rfl, ha⟩ := h
    obtain ⟨o, ho⟩ := hlen n (List.getElem?_eq_some_iff.mp ha).1
    have q := r.at' n o a ho ha
    cases o with
    | lst ys =>
      obtain ⟨vs, e, _⟩ := q
      simp only [dTy, ho]
      exact .base (.lst e)
    | fro ys =>
      obtain ⟨vs, e, _⟩ := q
      simp only [dTy, ho]
      rcases e with ⟨o, e⟩ | ⟨o, _, _, h1, h2, _⟩
      · exact .base (.frz e)
      · exact .kList h1 h2
    | dic ys =>
      obtain ⟨vs, e, _⟩ := q
      simp only [dTy, ho]
      exact .base (.dK e)
inductive Kd where | non | bl | int | str | tup | ref | dic deriving DecidableEq
def dKd (S : St) : D → Kd
  | .non => .non | .bl _ => .bl | .int _ => .int | .str _ => .str | .tup _ => .tup
  | .ref n => match S[n]? with
    | some (.dic _) => .dic
    | _ => .ref
def kdTy : Kd → String
  | .non => "NoneType" | .bl => "bool" | .int => "int" | .str => "str" | .tup => "tuple" | .ref => "list" | .dic => "dict"
def isTyK : Ty → Kd → Bool
  | .tuple, .tup => true | .list, .ref => true | .str, .str => true | .bool, .bl => true | .int, .int => true | .int, .bl => true
  | _, _ => false
theorem kit_all : ∀ (t : Ty) (k : Kd), L2.kitB (kdTy k) (tyOf t) = some (isTyK t k) := by
  intro t k
  cases t <;> cases k <;> decide +kernel
theorem kit_of' (t : Ty) (x : D) (b : Bool) (h : isTy t x = some b) : L2.kitB (dTy S x) (tyOf t) = some b := by
  have e1 : dTy S x = kdTy (dKd S x) := by
    cases x with
    | ref n =>
      cases e : S[n]? with
      | none => simp only [dTy, dKd, e, kdTy]
      | some o => cases o <;> simp only [dTy, dKd, e, kdTy]
    | _ => rfl
  have e2 : isTy t x = some (isTyK t (dKd S x)) := by
    cases x with
    | ref n =>
      cases t with
      | list => cases h
      | _ =>
        cases e : S[n]? with
        | none => simp only [isTy, dKd, e, isTyK]
        | some o => cases o <;> simp only [isTy, dKd, e, isTyK]
    | _ => cases t <;> rfl
  rw [e1, kit_all, ← e2, h]
theorem isi_ok (r : RS K m S H) {t : Ty} {x : D} {v : L2.V} {b : Bool} {Q : L2.VK} (d : RD K m H x v) (e : isTy t x = some b) (h : Po K m S H Q (.bl b) S) : L2.rIsi K [v, .ty (tyOf t)] H Q :=
  ⟨v, .ty (tyOf t), _, _, b, rfl, .ty _, tyx_of r (fun n hn => ⟨_, List.getElem?_eq_getElem (by rw [← r.len]; exact hn)⟩) d, L2.kit_ty (kit_of' (S := S) t x b e), at_once r h rfl⟩

/-! ### methods -/
def mthId : Mth → String
  | .append => "list.append" | .insert => "list.insert" | .pop => "list.pop" | .extend => "list.extend" | .index => "list.index"
def rMth (K : K') : Mth → L2.V → RC
  | .append => L2.rAppend
  | .insert => fun x vs H Q => ∃ (l : Addr) (xs : List L2.V) (i : Int) (y : L2.V), x = .ref l ∧ vs = [.int i, y] ∧ H l = some (.lst xs) ∧ xs.length < sizeLine ∧ 0 ≤ i ∧ i < 2 ^ 63 ∧ Q .non (L2.upd H l (.lst (xs.take i.toNat ++ [y] ++ xs.drop i.toNat)))
  | .pop => fun x vs H Q => L2.rPop x vs H Q ∨ L2.rPopAt x vs H Q
  | .extend => L2.rExtend
  | .index => L2.rIndexD K
theorem opMth {X : L2.Cx} {k : Nat} (hr : L2.Room k X.A) (f : Mth) : L2.MtR X (mthId f) (rMth X.K f) := by
  cases f with
  | extend => exact L2.mt_extend
  | index => exact L2.mt_indexD (by have := hr.un; omega)
  | append => exact L2.mt_append
  | insert => exact L2.mt_insert
  | pop => exact L2.MtR.or L2.mt_pop L2.mt_popAt
theorem mth_ty (r : RS K m S H) {x : D} {v : L2.V} (d : RD K m H x v) (h : lstD S x) : L2.tyV K "list" v H := by
  obtain ⟨n, ys, rfl, h⟩ := h
  obtain ⟨a, vs, rfl, e1, _⟩ := seq_read r h d
  exact .inl ⟨rfl, vs, e1⟩
theorem mth_ok (r : RS K m S H) {f : Mth} {x : D} {v : L2.V} {xs : List D} {vs : List L2.V} {Q : L2.VK} (d : RD K m H x v) (dx : RDs K m H xs vs) (h : mthW f x xs S (Po K m S H Q)) : rMth K f v vs H Q := by
  have hl := L2.line63
  unfold mthW at h
  split at h
  · obtain ⟨ds, h1, h2, h⟩ := h
    obtain ⟨a, us, rfl, e0, e1, e2⟩ := lst_read r h1 d
    obtain ⟨w, rfl, d2⟩ := one_of dx
    exact ⟨a, us, w, rfl, rfl, e1, by rw [← e2.length]; exact h2, put_list r h1 e0 (e2.append (show RDs K m H [_] [w] from ⟨w, [], rfl, d2, rfl⟩)) (show RD K m H .non .non from rfl) h⟩
  · obtain ⟨ds, h1, h2, h3, h4, h⟩ := h
    obtain ⟨a, us, rfl, e0, e1, e2⟩ := lst_read r h1 d
    obtain ⟨w, u, rfl, d2, d3⟩ := two_of dx
    cases d2
    refine ⟨a, us, _, u, rfl, rfl, e1, by rw [← e2.length]; exact h2, h3, by omega, put_list r h1 e0 ?_ (show RD K m H .non .non from rfl) h⟩
    rw [List.append_assoc]
    exact (e2.take _).append ⟨u, _, rfl, d3, e2.drop _⟩
  · obtain ⟨ds, y, h1, h2, h⟩ := h
    obtain ⟨a, us, rfl, e0, e1, e2⟩ := lst_read r h1 d
    have e3 : vs = [] := dx
    subst e3
    obtain ⟨w, h3, d3⟩ := e2.get h2
    have e4 : ∀ (l : List L2.V) (l' : List D), RDs K m H l' l → RDs K m H l'.dropLast l.dropLast := fun l l' q => by
      rw [List.dropLast_eq_take, List.dropLast_eq_take, q.length]
      exact q.take _
    exact .inl ⟨a, us, w, rfl, rfl, e1, by rw [← e2.length]; exact h3, put_list r h1 e0 (e4 _ _ e2) d3 h⟩
  · obtain ⟨ds, k, y, h1, h2, h3, h4, h5, h⟩ := h
    obtain ⟨a, us, rfl, e0, e1, e2⟩ := lst_read r h1 d
    obtain ⟨w, rfl, d2⟩ := one_of dx
    cases d2
    obtain ⟨z, h6, d3⟩ := e2.get h5
    exact .inr ⟨a, us, _, k, z, rfl, rfl, e1, h2, h3, by rw [← e2.length]; exact h4, h6, put_list r h1 e0 (e2.erase k) d3 h⟩
  · obtain ⟨ds, es, h1, h2, h3, h⟩ := h
    obtain ⟨a, us, rfl, e0, e1, e2⟩ := lst_read r h1 d
    obtain ⟨w, rfl, d2⟩ := one_of dx
    obtain ⟨b, zs, rfl, f0, f1, f2⟩ := lst_read r h2 d2
    exact ⟨a, b, us, zs, rfl, rfl, e1, f1, by rw [← e2.length, ← f2.length]; exact h3, put_list r h1 e0 (e2.append f2) (show RD K m H .non .non from rfl) h⟩
  · obtain ⟨ds, p, ps, j, z, h1, h2, h3, h4, h5, h6, h7, h8, h⟩ := h
    obtain ⟨a, us, rfl, e1, e2⟩ := seq_read r h1 d
    obtain ⟨w, rfl, d2⟩ := one_of dx
    exact ⟨a, w, p, ps, j, z, rfl, rfl, .lst e1 (dpRs_of r e2 h3), dpR_of r d2 h2, h4, h5, h6, h7, h8, at_once r h rfl⟩
  · exact h.elim
/-! ### methods of text -/
theorem RDs.strs {K : K'} {m : List Addr} {H : L2.Hp} : ∀ (ns : List Str), RDs K m H (ns.map D.str) (ns.map L2.V.str)
  | [] => rfl
  | n :: ns => ⟨.str n, _, rfl, rfl, RDs.strs ns⟩
theorem split_ok (r : RS K m S H) {x y : D} {v u : L2.V} {Q : L2.VK} (d1 : RD K m H x v) (d2 : RD K m H y u) (h : smtW .split x y S (Po K m S H Q)) :
    ∃ a b, v = .str a ∧ [u] = [.str b] ∧ (b.length == 0) = false ∧ a.length + 2 ≤ sizeLine ∧ L2.rNewStrs (Txt.split a b) H Q := by
  unfold smtW at h
  split at h
  · cases d1; cases d2
    exact ⟨_, _, rfl, rfl, h.1, h.2.1, new_list r (RDs.strs _) h.2.2⟩
  · exact h.elim
/-! ### dicts -/
theorem key_read {y : D} {k : L2.Key} {v : L2.V} (h : keyD y = some k) (d : RD K m H y v) : v = L2.kV k := by
  cases y with
  | int i => cases h; exact d
  | str i => cases h; exact d
  | _ => cases h
theorem dget_ok (r : RS K m S H) {n : Nat} {kvs : List (L2.Key × D)} {y : D} {k : L2.Key} {v u : L2.V} (d1 : RD K m H (.ref n) v) (d2 : RD K m H y u) (h1 : S[n]? = some (.dic kvs)) (h2 : keyD y = some k) :
    ∃ a o, v = .ref a ∧ L2.DGet H a u o ∧ L2.IsD H a ∧ (∀ d, valD kvs k = some d → ∃ w, o = some w ∧ RD K m H d w) ∧ (valD kvs k = none → o = none) := by
  obtain ⟨a, vs, rfl, e0, e1, e2, e3⟩ := dic_read r h1 d1
  obtain ⟨g1, g2⟩ := keys_get (k := k) e2 e3
  have e4 := key_read h2 d2
  subst e4
  exact ⟨a, L2.valV vs k, rfl, L2.DGet.k e1, .inl ⟨vs, .inl e1⟩, g1, g2⟩
theorem dix_ok (r : RS K m S H) {x y : D} {v u : L2.V} {Q : L2.VK} (d1 : RD K m H x v) (d2 : RD K m H y u) (h : dixW x y S (Po K m S H Q)) : ∃ a w, v = .ref a ∧ L2.DGet H a u (some w) ∧ Q w H := by
  obtain ⟨n, kvs, k, d, rfl, h1, h2, h3, h⟩ := h
  obtain ⟨a, o, rfl, g, _, g1, _⟩ := dget_ok r d1 d2 h1 h2
  obtain ⟨w, rfl, dw⟩ := g1 d h3
  exact ⟨a, w, rfl, g, at_once r h dw⟩
theorem dgt_ok (r : RS K m S H) {x y z : D} {v u w : L2.V} {Q : L2.VK} (d1 : RD K m H x v) (d2 : RD K m H y u) (d3 : RD K m H z w) (h : dgtW x y z S (Po K m S H Q)) : ∃ a o, v = .ref a ∧ L2.DGet H a u o ∧ Q (o.getD w) H := by
  obtain ⟨n, kvs, k, rfl, h1, h2, h⟩ := h
  obtain ⟨a, o, rfl, g, _, g1, g2⟩ := dget_ok r d1 d2 h1 h2
  refine ⟨a, o, rfl, g, ?_⟩
  cases e : valD kvs k with
  | none =>
    rw [e] at h
    rw [g2 e]
    exact at_once r h d3
  | some d =>
    rw [e] at h
    obtain ⟨w', rfl, dw⟩ := g1 d e
    exact at_once r h dw
theorem din_ok (r : RS K m S H) {neg : Bool} {x y : D} {v u : L2.V} {Q : L2.VK} (d1 : RD K m H x v) (d2 : RD K m H y u) (h : dinW neg x y S fun b S' => Po K m S H Q (.bl b) S') : ∃ a o, u = .ref a ∧ L2.DGet H a v o ∧ Q (.bl (if neg then !o.isSome else o.isSome)) H := by
  obtain ⟨n, kvs, k, rfl, h1, h2, h⟩ := h
  obtain ⟨a, o, rfl, g, _, g1, g2⟩ := dget_ok r d2 d1 h1 h2
  refine ⟨a, o, rfl, g, ?_⟩
  have e : o.isSome = (valD kvs k).isSome := by
    cases e : valD kvs k with
    | none => rw [g2 e]; rfl
    | some d => obtain ⟨w', rfl, dw⟩ := g1 d e; rfl
  rw [e]
  exact at_once r h rfl
theorem isD_ok (r : RS K m S H) {x : D} {v : L2.V} (d1 : RD K m H x v) (h : dicD S x) : ∃ a, v = .ref a ∧ L2.IsD H a := by
  obtain ⟨n, kvs, rfl, h⟩ := h
  obtain ⟨a, vs, rfl, e0, e1, e2, e3⟩ := dic_read r h d1
  exact ⟨a, rfl, .inl ⟨vs, .inl e1⟩⟩
theorem setDx_ok (r : RS K m S H) {o i y : D} {ov iv v : L2.V} {Q : L2.Hp → Prop} (d1 : RD K m H o ov) (d2 : RD K m H i iv) (d3 : RD K m H y v)
    (h : setDxW o i y S fun S' => ∀ H', Xt m S H m S' H' → RS K m S' H' → Q H') : ∃ a H', ov = .ref a ∧ L2.DPut H a iv v H' ∧ Q H' := by
  obtain ⟨n, kvs, k, rfl, h1, h2, h3, h⟩ := h
  obtain ⟨a, vs, rfl, e0, e1, e2, e3⟩ := dic_read r h1 d1
  have e4 := key_read h2 d2
  subst e4
  obtain ⟨p1, p2⟩ := putD_ok (k := k) d3 e2 e3
  obtain ⟨x1, r1⟩ := wrote_dic r h1 e0 p1 p2
  have hl : vs.length = kvs.length := by simpa using congrArg List.length e2
  exact ⟨a, _, rfl, L2.DPut.k e1 (by rw [hl]; exact h3), h _ x1 r1⟩
/-- d[k] = v -/
def rSetD : L2.V → L2.V → L2.V → L2.Hp → (L2.Hp → Prop) → Prop := fun o i v H Q => ∃ a H', o = .ref a ∧ L2.DPut H a i v H' ∧ Q H'
theorem set_dict {X : L2.Cx} (hu : X.A.units + 1 < cLine) : L2.PSet X rSetD := by
  intro pins s σ H o i v ov iv u Q I ro ri rv h
  obtain ⟨a, H', rfl, g, q⟩ := h
  cases ro
  exact L2.d_setItem hu I g ri rv fun s' I' => ⟨H', I', q⟩
theorem dsr_ok (r : RS K m S H) {x : D} {v : L2.V} {Q : L2.VK} (d1 : RD K m H x v) (h : dsrW x S (Po K m S H Q)) :
    ∃ (a : Addr) (kvs : List (L2.Key × L2.V)) (ks : List Int), [v] = [.ref a] ∧ L2.Rd H a (.dK kvs) ∧ kvs.map (·.1) = ks.map Sum.inl ∧ ks.length < 64 ∧
      ∀ (ys : List Int) (p : Addr), ys.Perm ks → ys.Pairwise (· ≤ ·) → H p = none → Q (.ref p) (L2.upd H p (.lst (ys.map L2.V.int))) := by
  obtain ⟨n, kvs, ks, rfl, h1, h2, h3, h⟩ := h
  obtain ⟨a, vs, rfl, e0, e1, e2, e3⟩ := dic_read r h1 d1
  exact ⟨a, vs, ks, rfl, .inl e1, by rw [e2, h2], h3, fun ys p p1 p2 hp => new_list r (RDs.map_int ys) (h ys p1 p2) p hp⟩
theorem new_dic (r : RS K m S H) {Q : L2.VK} (h : Po K m S H Q (.ref S.length) (S ++ [.dic []])) : ∀ p, H p = none → Q (.ref p) (L2.upd H p (.dK [])) := fun p hp => by
  obtain ⟨x1, r1, d1⟩ := laid_dic (kvs := []) (vs := []) r hp rfl rfl
  exact h _ _ _ x1 r1 d1
theorem dsp_ok (r : RS K m S H) {n : Nat} {x y : D} {a : Addr} {v u : L2.V} {Q : L2.VK} (d0 : RD K m H (.ref n) (.ref a)) (d1 : RD K m H x v) (d2 : RD K m H y u) (h : dspW n x y S (Po K m S H Q)) :
    H a = some (.dK []) ∧ ∃ kvs : List (L2.Key × L2.V), [(v, u)] = kvs.map (fun kv => (L2.kV kv.1, kv.2)) ∧ kvs.length ≤ 15 ∧ Q (.ref a) (L2.upd H a (.dK (L2.mergeK [] kvs))) := by
  obtain ⟨h1, k, h2, h⟩ := h
  obtain ⟨a', vs, e, e0, e1, e2, e3⟩ := dic_read r h1 d0
  cases e
  have hv : vs = [] := by simpa using e2
  subst hv
  have e4 := key_read h2 d1
  subst e4
  obtain ⟨x1, r1⟩ := wrote_dic (kvs := [(k, y)]) (vs := [(k, u)]) r h1 e0 rfl ⟨u, [], rfl, d2, rfl⟩
  exact ⟨e1, [(k, u)], rfl, (by show 1 ≤ 15; decide), h _ _ _ x1 r1 (d0.keep r x1)⟩
theorem setIx_ok (r : RS K m S H) {o i y : D} {ov iv v : L2.V} {Q : L2.Hp → Prop} (d1 : RD K m H o ov) (d2 : RD K m H i iv) (d3 : RD K m H y v)
    (h : setIxW o i y S fun S' => ∀ H', Xt m S H m S' H' → RS K m S' H' → Q H') : L2.rSetL ov iv v H Q := by
  unfold setIxW at h
  split at h
  · obtain ⟨xs, j, h1, h2, h⟩ := h
    obtain ⟨a, us, rfl, e0, e1, e2⟩ := lst_read r h1 d1
    cases d2
    obtain ⟨x1, r1⟩ := wrote r h1 e0 (RDs.set d3 j e2)
    exact ⟨a, us, _, j, rfl, rfl, e1, by rw [← e2.length]; exact h2, h _ x1 r1⟩
  · exact h.elim
end
end Flx

end
section
set_option Elab.async false
set_option linter.all false
set_option maxRecDepth 100000
set_option autoImplicit false
/-! FlxLift: what a text of the pure language asks, as a reading of the hand layer; loops. -/
namespace Flx
open PySem PySem.Spec PyProof.Rows

def liftE (K : K') (w : Sg → St → QD → Prop) : L2.TE := fun σ H Q => ∃ m S σd, RS K m S H ∧ RSg K m H σd σ ∧ w σd S (Po K m S H Q)
def PoB (K : K') (m : List Addr) (S : St) (H : L2.Hp) (Q : Bool → L2.Hp → Prop) : Bool → St → Prop := fun b S' => ∀ m' H', Xt m S H m' S' H' → RS K m' S' H' → Q b H'
def liftT (K : K') (w : Sg → St → (Bool → St → Prop) → Prop) : L2.TT := fun σ H Q => ∃ m S σd, RS K m S H ∧ RSg K m H σd σ ∧ w σd S (PoB K m S H Q)
def PoA (K : K') (m : List Addr) (S : St) (H : L2.Hp) (Q : List L2.V → L2.Hp → Prop) : List D → St → Prop := fun ds S' => ∀ m' H' vs, Xt m S H m' S' H' → RS K m' S' H' → RDs K m' H' ds vs → Q vs H'
def liftA (K : K') (w : Sg → St → (List D → St → Prop) → Prop) : L2.TA := fun σ H Q => ∃ m S σd, RS K m S H ∧ RSg K m H σd σ ∧ w σd S (PoA K m S H Q)
def PoO (K : K') (m : List Addr) (S : St) (H : L2.Hp) (Q : Option Int → L2.Hp → Prop) : Option Int → St → Prop := fun d S' => ∀ m' H', Xt m S H m' S' H' → RS K m' S' H' → Q d H'
def liftO (K : K') (w : Sg → St → (Option Int → St → Prop) → Prop) : L2.TO := fun σ H Q => ∃ m S σd, RS K m S H ∧ RSg K m H σd σ ∧ w σd S (PoO K m S H Q)
/-- what a walk's protocol J gives, of the items xs while G holds -/
def JOk (K : K') (m : List Addr) (S : St) (H : L2.Hp) (J : L2.It) (G : St → Prop) (xs : List D) : Prop :=
  ∀ m' S' H', (∀ a vs, L2.SqT K H a vs → L2.SqT K H' a vs) → (∀ (n : Nat) (a : Addr), m[n]? = some a → m'[n]? = some a) → RS K m' S' H' → G S' →
    (∀ (i : Nat) (d : D), xs[i]? = some d → J.go i H' ∧ ∀ v H2, J.yld i H' v H2 → Xt m' S' H' m' S' H2 ∧ RS K m' S' H2 ∧ RD K m' H2 d v) ∧ J.stop xs.length H'
def PoI (K : K') (m : List Addr) (S : St) (H : L2.Hp) (R : L2.It → L2.Hp → Prop) : (St → Prop) → List D → St → Prop := fun G xs S' => ∀ m' H' J, Xt m S H m' S' H' → RS K m' S' H' → JOk K m' S' H' J G xs → R J H'
def liftI (K : K') (w : Sg → St → ((St → Prop) → List D → St → Prop) → Prop) : L2.TI := fun σ H R => ∃ m S σd, RS K m S H ∧ RSg K m H σd σ ∧ w σd S (PoI K m S H R)
/-- a def's promise -/
def liftSp (K : K') (Φ : List D → St → QD → Prop) : L2.Sp := fun vs H Q _ => ∃ m S ds, RS K m S H ∧ RDs K m H ds vs ∧ Φ ds S (Po K m S H Q)

def MonoE {α : Type} (w : Sg → St → (α → St → Prop) → Prop) : Prop := ∀ σ S Q Q', (∀ d S, Q d S → Q' d S) → w σ S Q → w σ S Q'
section
variable {K : K'} {m : List Addr} {S : St} {H : L2.Hp} {σd : Sg} {σ : L2.St}
theorem stepE {w : Sg → St → QD → Prop} (mw : MonoE w) (r : RS K m S H) (g : RSg K m H σd σ) {R : QD} (h : w σd S R) {Q : L2.VK}
    (k : ∀ x S1 m1 H1 v, Xt m S H m1 S1 H1 → RS K m1 S1 H1 → RSg K m1 H1 σd σ → RD K m1 H1 x v → R x S1 → Q v H1) : liftE K w σ H Q :=
  ⟨m, S, σd, r, g, mw _ _ _ _ (fun x S1 hR m1 H1 v xt r1 d => k x S1 m1 H1 v xt r1 (g.keep r xt) d hR) h⟩
theorem stepT {w : Sg → St → (Bool → St → Prop) → Prop} (mw : MonoE w) (r : RS K m S H) (g : RSg K m H σd σ) {R : Bool → St → Prop} (h : w σd S R) {Q : Bool → L2.Hp → Prop}
    (k : ∀ b S1 m1 H1, Xt m S H m1 S1 H1 → RS K m1 S1 H1 → RSg K m1 H1 σd σ → R b S1 → Q b H1) : liftT K w σ H Q :=
  ⟨m, S, σd, r, g, mw _ _ _ _ (fun x S1 hR m1 H1 xt r1 => k x S1 m1 H1 xt r1 (g.keep r xt) hR) h⟩
theorem stepA {w : Sg → St → (List D → St → Prop) → Prop} (mw : MonoE w) (r : RS K m S H) (g : RSg K m H σd σ) {R : List D → St → Prop} (h : w σd S R) {Q : List L2.V → L2.Hp → Prop}
    (k : ∀ x S1 m1 H1 v, Xt m S H m1 S1 H1 → RS K m1 S1 H1 → RSg K m1 H1 σd σ → RDs K m1 H1 x v → R x S1 → Q v H1) : liftA K w σ H Q :=
  ⟨m, S, σd, r, g, mw _ _ _ _ (fun x S1 hR m1 H1 v xt r1 d => k x S1 m1 H1 v xt r1 (g.keep r xt) d hR) h⟩
theorem stepO {w : Sg → St → (Option Int → St → Prop) → Prop} (mw : MonoE w) (r : RS K m S H) (g : RSg K m H σd σ) {R : Option Int → St → Prop} (h : w σd S R) {Q : Option Int → L2.Hp → Prop}
    (k : ∀ b S1 m1 H1, Xt m S H m1 S1 H1 → RS K m1 S1 H1 → RSg K m1 H1 σd σ → R b S1 → Q b H1) : liftO K w σ H Q :=
  ⟨m, S, σd, r, g, mw _ _ _ _ (fun x S1 hR m1 H1 xt r1 => k x S1 m1 H1 xt r1 (g.keep r xt) hR) h⟩
end
section
variable {X : L2.Cx}
theorem pe_le {e : Expr} {t t' : L2.TE} (h : L2.PE X e t) (le : ∀ σ H Q, t' σ H Q → t σ H Q) : L2.PE X e t' := ⟨fun pins s σ H Q I q => h.run pins s σ H Q I (le _ _ _ q)⟩
theorem pt_le {e : Expr} {t t' : L2.TT} (h : L2.PT X e t) (le : ∀ σ H Q, t' σ H Q → t σ H Q) : L2.PT X e t' := ⟨fun pins s σ H Q I q => h.run pins s σ H Q I (le _ _ _ q)⟩
theorem pts_le {e : List Expr} {t t' : L2.TT} (h : L2.PTs X e t) (le : ∀ σ H Q, t' σ H Q → t σ H Q) : L2.PTs X e t' := ⟨fun pins s σ H Q I q => h.run pins s σ H Q I (le _ _ _ q)⟩
theorem pw_le {e : Expr} {t t' : L2.TT} (h : L2.PW X e t) (le : ∀ σ H Q, t' σ H Q → t σ H Q) : L2.PW X e t' := ⟨fun wh pins s σ H Q I q => h.run wh pins s σ H Q I (le _ _ _ q)⟩
theorem pa_le {e : List Expr} {t t' : L2.TA} (h : L2.PA X e t) (le : ∀ σ H Q, t' σ H Q → t σ H Q) : L2.PA X e t' := ⟨fun pos pins s σ H Q I q => h.run pos pins s σ H Q I (le _ _ _ q)⟩
theorem po_le {e : Option Expr} {t t' : L2.TO} (h : L2.PO X e t) (le : ∀ σ H Q, t' σ H Q → t σ H Q) : L2.PO X e t' := ⟨fun pins s σ H Q I q => h.run pins s σ H Q I (le _ _ _ q)⟩
theorem pi_le {tg e : Expr} {t t' : L2.TI} (h : L2.PI X tg e t) (le : ∀ σ H Q, t' σ H Q → t σ H Q) : L2.PI X tg e t' := ⟨fun pins s σ H Q I q => h.run pins s σ H Q I (le _ _ _ q)⟩
theorem ps_le {e : Stmt} {t t' : L2.TS} (h : L2.PS X e t) (le : ∀ D σ H, t' D σ H → t D σ H) : L2.PS X e t' := ⟨fun pins s σ H D I q => h.run pins s σ H D I (le _ _ _ q)⟩
theorem pss_le {e : List Stmt} {t t' : L2.TS} (h : L2.PSs X e t) (le : ∀ D σ H, t' D σ H → t D σ H) : L2.PSs X e t' := ⟨fun pins s σ H D I q => h.run pins s σ H D I (le _ _ _ q)⟩
end

/-! ### targets -/
mutual
def lenTgs : Tgs → Nat
  | .nil => 0
  | .cons _ ts => lenTgs ts + 1
def gR (K : K') : Tg → L2.TG
  | .nm i => L2.gName i
  | .tp ts => L2.gTup K (lenTgs ts) (gRs K ts)
def gRs (K : K') : Tgs → L2.TGs
  | .nil => L2.gNil
  | .cons t ts => L2.gCons (gR K t) (gRs K ts)
end
theorem len_gAs : ∀ {ts : Tgs} {ds : List D} {σ σ' : Sg}, gAs ts ds σ = some σ' → ds.length = lenTgs ts
  | .nil, [], σ, σ', _ => by rw [lenTgs]; rfl
  | .nil, d :: ds, σ, σ', h => by simp [gAs] at h
  | .cons t ts, [], σ, σ', h => by simp [gAs] at h
  | .cons t ts, d :: ds, σ, σ', h => by
    rw [gAs] at h
    cases q : gA t d σ with
    | none => rw [q] at h; cases h
    | some σ1 =>
      rw [q] at h
      rw [lenTgs, List.length_cons, len_gAs (ts := ts) h]
mutual
theorem gR_ok {K : K'} {m : List Addr} {H : L2.Hp} : ∀ (t : Tg) {d : D} {v : L2.V} {σd σd' : Sg} {σ : L2.St} {Q : L2.St → L2.Hp → Prop}, RSg K m H σd σ → RD K m H d v → gA t d σd = some σd' →
    (∀ σ', RSg K m H σd' σ' → Q σ' H) → gR K t v σ H Q
  | .nm i, d, v, σd, σd', σ, Q, g, q, h, k => by
    rw [gA] at h
    cases h
    rw [gR]
    exact k _ (g.set q)
  | .tp ts, .tup ds, v, σd, σd', σ, Q, g, q, h, k => by
    rw [gA] at h
    obtain ⟨a, vs, rfl, h1, h2⟩ := q
    rw [gR]
    exact ⟨a, vs, rfl, h1, by rw [← h2.length, len_gAs h], gRs_ok ts g h2 h k⟩
  | .tp ts, .non, v, σd, σd', σ, Q, g, q, h, k => by simp [gA] at h
  | .tp ts, .bl _, v, σd, σd', σ, Q, g, q, h, k => by simp [gA] at h
  | .tp ts, .int _, v, σd, σd', σ, Q, g, q, h, k => by simp [gA] at h
  | .tp ts, .str _, v, σd, σd', σ, Q, g, q, h, k => by simp [gA] at h
  | .tp ts, .ref _, v, σd, σd', σ, Q, g, q, h, k => by simp [gA] at h
theorem gRs_ok {K : K'} {m : List Addr} {H : L2.Hp} : ∀ (ts : Tgs) {ds : List D} {vs : List L2.V} {σd σd' : Sg} {σ : L2.St} {Q : L2.St → L2.Hp → Prop}, RSg K m H σd σ → RDs K m H ds vs → gAs ts ds σd = some σd' →
    (∀ σ', RSg K m H σd' σ' → Q σ' H) → gRs K ts vs σ H Q
  | .nil, [], vs, σd, σd', σ, Q, g, q, h, k => by
    have e : vs = [] := q
    have e2 : σd = σd' := by simpa [gAs] using h
    rw [gRs]
    exact ⟨e, k _ (e2 ▸ g)⟩
  | .nil, d :: ds, vs, σd, σd', σ, Q, g, q, h, k => by simp [gAs] at h
  | .cons t ts, [], vs, σd, σd', σ, Q, g, q, h, k => by simp [gAs] at h
  | .cons t ts, d :: ds, vs, σd, σd', σ, Q, g, q, h, k => by
    rw [gAs] at h
    obtain ⟨v, r, rfl, q1, q2⟩ := q
    cases e : gA t d σd with
    | none => rw [e] at h; cases h
    | some σ1 =>
      rw [e] at h
      rw [gRs]
      exact ⟨v, r, rfl, gR_ok t g q1 e fun σ' g' => gRs_ok ts g' q2 h k⟩
end

/-! ### statements -/
structure EnOk (K : K') (m : List Addr) (S : St) (H : L2.Hp) (E : En) (D : L2.Ends) : Prop where
  nx : ∀ m' S' H' σd' σ', Xt m S H m' S' H' → RS K m' S' H' → RSg K m' H' σd' σ' → E.nx σd' S' → D.nx σ' H'
  rt : ∀ m' S' H' d v, Xt m S H m' S' H' → RS K m' S' H' → RD K m' H' d v → E.rt d S' → D.rt v H'
  bk : ∀ m' S' H' σd' σ', Xt m S H m' S' H' → RS K m' S' H' → RSg K m' H' σd' σ' → E.bk σd' S' → D.bk σ' H'
  ct : ∀ m' S' H' σd' σ', Xt m S H m' S' H' → RS K m' S' H' → RSg K m' H' σd' σ' → E.ct σd' S' → D.ct σ' H'
theorem EnOk.shift {K : K'} {m m1 : List Addr} {S S1 : St} {H H1 : L2.Hp} {E : En} {D : L2.Ends} (x : Xt m S H m1 S1 H1) (o : EnOk K m S H E D) : EnOk K m1 S1 H1 E D :=
  ⟨fun m' S' H' σd' σ' y r g q => o.nx m' S' H' σd' σ' (x.trans y) r g q, fun m' S' H' d v y r g q => o.rt m' S' H' d v (x.trans y) r g q,
    fun m' S' H' σd' σ' y r g q => o.bk m' S' H' σd' σ' (x.trans y) r g q, fun m' S' H' σd' σ' y r g q => o.ct m' S' H' σd' σ' (x.trans y) r g q⟩
def liftS (K : K') (w : TSt) : L2.TS := fun D σ H => ∃ m S σd E, RS K m S H ∧ RSg K m H σd σ ∧ EnOk K m S H E D ∧ w E σd S

end Flx

end
section
set_option Elab.async false
set_option linter.all false
set_option maxRecDepth 100000
set_option autoImplicit false
/-! FlxLoop: for, while, comprehensions. -/
namespace Flx
open PySem PySem.Spec PyProof.Rows

theorem for_ok {K : K'} {m : List Addr} {S : St} {H : L2.Hp} {σd : Sg} {σ : L2.St} {E : En} {D : L2.Ends} {J : L2.It} {G : St → Prop} {tg : Tg} {b : TSt} {tb : L2.TS} {xs : List Flx.D}
    (r : RS K m S H) (g : RSg K m H σd σ) (o : EnOk K m S H E D) (hJ : JOk K m S H J G xs) (hb : ∀ D σ H, liftS K b D σ H → tb D σ H) (h : forW G tg b xs E σd S) :
    ∃ W : Nat → Nat → L2.St → L2.Hp → Prop, (∃ m, W 0 m σ H) ∧ ∀ i m σ H, W i m σ H →
      (J.stop i H ∧ D.nx σ H) ∨ (J.go i H ∧ ∃ N : L2.St → L2.Hp → Prop, (∀ σ' H', N σ' H' → ∃ m', m' < m ∧ W (i + 1) m' σ' H') ∧ ∀ x H', J.yld i H x H' → gR K tg x σ H' fun σ2 H2 => tb { D with nx := N, ct := N, bk := D.nx } σ2 H2) := by
  refine ⟨fun i n σ' H' => n = xs.length - i ∧ i ≤ xs.length ∧ ∃ m' S' σd', Xt m S H m' S' H' ∧ RS K m' S' H' ∧ RSg K m' H' σd' σ' ∧ forW G tg b (xs.drop i) E σd' S',
    ⟨xs.length, by simp, Nat.zero_le _, m, S, σd, .refl, r, g, by simpa using h⟩, ?_⟩
  rintro i n σ1 H1 ⟨rfl, hi, m1, S1, σd1, x1, r1, g1, h1⟩
  by_cases hlt : i < xs.length
  · have e : xs.drop i = xs[i] :: xs.drop (i + 1) := List.drop_eq_getElem_cons hlt
    rw [e] at h1
    obtain ⟨hG, σd2, e2, h2⟩ := h1
    obtain ⟨hgo, _⟩ := hJ m1 S1 H1 (fun _ _ z => sqT_keep r x1 z) (fun _ _ z => x1.get z) r1 hG
    obtain ⟨go, yld⟩ := hgo i xs[i] (List.getElem?_eq_getElem hlt)
    refine .inr ⟨go, fun σ' H' => ∃ m' S' σd', Xt m S H m' S' H' ∧ RS K m' S' H' ∧ RSg K m' H' σd' σ' ∧ forW G tg b (xs.drop (i + 1)) E σd' S', fun σ' H' hN => ⟨xs.length - (i + 1), by omega, rfl, hlt, hN⟩, fun v H2 hy => ?_⟩
    obtain ⟨x2, r2, d2⟩ := yld v H2 hy
    refine gR_ok tg (g1.keep r1 x2) d2 e2 fun σ3 g3 => hb _ _ _ ⟨m1, S1, σd2, _, r2, g3, ?_, h2⟩
    have x3 := x1.trans x2
    exact ⟨fun m' S' H' σd' σ' y r' g' q => ⟨m', S', σd', x3.trans y, r', g', q⟩, fun m' S' H' d w y r' q1 q => o.rt m' S' H' d w (x3.trans y) r' q1 q, fun m' S' H' σd' σ' y r' g' q => o.nx m' S' H' σd' σ' (x3.trans y) r' g' q,
      fun m' S' H' σd' σ' y r' g' q => ⟨m', S', σd', x3.trans y, r', g', q⟩⟩
  · have hi' : i = xs.length := by omega
    subst hi'
    rw [List.drop_length] at h1
    obtain ⟨hG, hn⟩ := h1
    obtain ⟨_, stop⟩ := hJ m1 S1 H1 (fun _ _ z => sqT_keep r x1 z) (fun _ _ z => x1.get z) r1 hG
    exact .inl ⟨stop, o.nx m1 S1 H1 σd1 σ1 x1 r1 g1 hn⟩

theorem whl_ok {K : K'} {m : List Addr} {S : St} {H : L2.Hp} {σd : Sg} {σ : L2.St} {E : En} {D : L2.Ends} {c : Sg → St → (Bool → St → Prop) → Prop} {b : TSt} {tc : L2.TT} {tb : L2.TS} {n : Nat}
    (mc : MonoE c) (r : RS K m S H) (g : RSg K m H σd σ) (o : EnOk K m S H E D) (hc : ∀ σ H Q, liftT K c σ H Q → tc σ H Q) (hb : ∀ D σ H, liftS K b D σ H → tb D σ H) (h : whlW c b n E σd S) : L2.tWhile tc tb D σ H := by
  refine ⟨fun n σ' H' => ∃ m' S' σd', Xt m S H m' S' H' ∧ RS K m' S' H' ∧ RSg K m' H' σd' σ' ∧ whlW c b n E σd' S', ⟨n, m, S, σd, .refl, r, g, h⟩, ?_⟩
  rintro n σ1 H1 ⟨m1, S1, σd1, x1, r1, g1, h1⟩
  cases n with
  | zero => exact h1.elim
  | succ n =>
    refine hc _ _ _ (stepT mc r1 g1 h1 fun k S2 m2 H2 x2 r2 g2 h2 => ?_)
    have x3 := x1.trans x2
    cases k with
    | true =>
      rw [if_pos rfl] at h2 ⊢
      refine ⟨fun σ' H' => ∃ m' S' σd', Xt m S H m' S' H' ∧ RS K m' S' H' ∧ RSg K m' H' σd' σ' ∧ whlW c b n E σd' S', fun σ' H' hN => ⟨n, Nat.lt_succ_self _, hN⟩, hb _ _ _ ⟨m2, S2, σd1, _, r2, g2, ?_, h2⟩⟩
      exact ⟨fun m' S' H' σd' σ' y r' g' q => ⟨m', S', σd', x3.trans y, r', g', q⟩, fun m' S' H' d w y r' q1 q => o.rt m' S' H' d w (x3.trans y) r' q1 q, fun m' S' H' σd' σ' y r' g' q => o.nx m' S' H' σd' σ' (x3.trans y) r' g' q,
        fun m' S' H' σd' σ' y r' g' q => ⟨m', S', σd', x3.trans y, r', g', q⟩⟩
    | false =>
      rw [if_neg Bool.false_ne_true] at h2 ⊢
      exact o.nx m2 S2 H2 σd1 σ1 x3 r2 g2 h2

/-! ### comprehensions -/
mutual
theorem RD.keepG {K : K'} {m m' : List Addr} {H H' : L2.Hp} (hT : ∀ a vs, L2.SqT K H a vs → L2.SqT K H' a vs) (hm : ∀ (n : Nat) (a : Addr), m[n]? = some a → m'[n]? = some a) : ∀ {d : D} {v : L2.V}, RD K m H d v → RD K m' H' d v
  | .non, _, h => h
  | .bl _, _, h => h
  | .int _, _, h => h
  | .str _, _, h => h
  | .tup ds, v, h => by
    obtain ⟨a, vs, e, h1, h2⟩ := h
    exact ⟨a, vs, e, hT _ _ h1, RDs.keepG hT hm h2⟩
  | .ref n, v, h => by
    obtain ⟨a, e, h1⟩ := h
    exact ⟨a, e, hm _ _ h1⟩
theorem RDs.keepG {K : K'} {m m' : List Addr} {H H' : L2.Hp} (hT : ∀ a vs, L2.SqT K H a vs → L2.SqT K H' a vs) (hm : ∀ (n : Nat) (a : Addr), m[n]? = some a → m'[n]? = some a) : ∀ {ds : List D} {vs : List L2.V}, RDs K m H ds vs → RDs K m' H' ds vs
  | [], _, h => h
  | d :: ds, vs, h => by
    obtain ⟨v, rr, e, h1, h2⟩ := h
    exact ⟨v, rr, e, RD.keepG hT hm h1, RDs.keepG hT hm h2⟩
end
section
variable {K : K'} {m : List Addr} {S : St} {H : L2.Hp}
/-- a list that no cell knows is changed -/
theorem sqT_priv {Da a : Addr} {vs us ws : List L2.V} (hD : H Da = some (.lst vs)) (h : L2.SqT K H a ws) : L2.SqT K (L2.upd H Da (.lst us)) a ws := by
  rcases h with (h | ⟨o, h⟩) | h
  · exact .inl (.inl (by rw [L2.upd_ne (fun z => by rw [z, hD] at h; cases h)]; exact h))
  · exact .inl (.inr ⟨o, by rw [L2.upd_ne (fun z => by rw [z, hD] at h; cases h)]; exact h⟩)
  · exact .inr h
theorem priv_put {Da : Addr} {vs us : List L2.V} (r : RS K m S H) (hD : H Da = some (.lst vs)) (hw : ¬ Wr m S Da) : RS K m S (L2.upd H Da (.lst us)) := by
  refine ⟨r.len, fun n o a h1 h2 => ?_, r.inj⟩
  have q := r.at' n o a h1 h2
  cases o with
  | lst es =>
    obtain ⟨ws, e, q⟩ := q
    have ha : a ≠ Da := fun z => hw (z ▸ ⟨n, _, h2, h1, rfl⟩)
    exact ⟨ws, by rw [L2.upd_ne ha]; exact e, q.keepG (fun _ _ z => sqT_priv hD z) fun _ _ z => z⟩
  | fro es =>
    obtain ⟨ws, e, q⟩ := q
    refine ⟨ws, ?_, q.keepG (fun _ _ z => sqT_priv hD z) fun _ _ z => z⟩
    rcases e with ⟨o, e⟩ | e
    · exact .inl ⟨o, by rw [L2.upd_ne (fun z => by rw [z, hD] at e; cases e)]; exact e⟩
    · exact .inr e
  | dic es =>
    obtain ⟨ws, e, e2, q⟩ := q
    have ha : a ≠ Da := fun z => hw (z ▸ ⟨n, _, h2, h1, rfl⟩)
    exact ⟨ws, by rw [L2.upd_ne ha]; exact e, e2, q.keepG (fun _ _ z => sqT_priv hD z) fun _ _ z => z⟩
/-- .. and becomes a cell -/
theorem adopt {Da : Addr} {vs : List L2.V} {acc : List D} (r : RS K m S H) (hD : H Da = some (.lst vs)) (hw : ¬ Wr m S Da) (hv : RDs K m H acc vs) :
    RS K (m ++ [Da]) (S ++ [.lst acc]) H ∧ RD K (m ++ [Da]) H (.ref S.length) (.ref Da) ∧ ∀ a, Wr (m ++ [Da]) (S ++ [.lst acc]) a → Wr m S a ∨ a = Da := by
  have hm : ∀ (n : Nat) (a : Addr), m[n]? = some a → (m ++ [Da])[n]? = some a := fun n a h => by rw [List.getElem?_append_left (List.getElem?_eq_some_iff.mp h).1]; exact h
  have last : (m ++ [Da])[S.length]? = some Da := by
    rw [← r.len, List.getElem?_append_right (Nat.le_refl _), Nat.sub_self]
    rfl
  have cls : ∀ {n : Nat} {o : MO} {a : Addr}, (S ++ [MO.lst acc])[n]? = some o → (m ++ [Da])[n]? = some a → (n < S.length ∧ S[n]? = some o ∧ m[n]? = some a) ∨ (n = S.length ∧ a = Da ∧ o = .lst acc) := fun {n o a} h1 h2 => by
    by_cases hn : n < S.length
    · rw [List.getElem?_append_left hn] at h1
      rw [List.getElem?_append_left (by rw [r.len]; exact hn)] at h2
      exact .inl ⟨hn, h1, h2⟩
    · have hl : n < (S ++ [MO.lst acc]).length := (List.getElem?_eq_some_iff.mp h1).1
      have hn' : n = S.length := by simp at hl; omega
      subst hn'
      rw [last] at h2
      cases h2
      refine .inr ⟨rfl, rfl, ?_⟩
      rw [List.getElem?_append_right (Nat.le_refl _), Nat.sub_self] at h1
      simpa using h1.symm
  have apart : ∀ {n : Nat} {o : MO} {a : Addr}, S[n]? = some o → o.mut = true → m[n]? = some a → a ≠ Da := fun {n o a} h1 h3 h2 z => hw (z ▸ ⟨n, o, h2, h1, h3⟩)
  refine ⟨⟨by simp [r.len], fun n o a h1 h2 => ?_, fun n n' o o' a h1 h2 h3 h4 h5 h6 => ?_⟩, ⟨Da, rfl, last⟩, fun a ⟨n, o, h1, h2, h3⟩ => ?_⟩
  · rcases cls h1 h2 with ⟨_, q1, q2⟩ | ⟨_, rfl, rfl⟩
    · have q := r.at' n o a q1 q2
      cases o with
      | lst es =>
        obtain ⟨ws, e, q⟩ := q
        exact ⟨ws, e, q.keepG (fun _ _ z => z) hm⟩
      | fro es =>
        obtain ⟨ws, e, q⟩ := q
        exact ⟨ws, e, q.keepG (fun _ _ z => z) hm⟩
      | dic es =>
        obtain ⟨ws, e, e2, q⟩ := q
        exact ⟨ws, e, e2, q.keepG (fun _ _ z => z) hm⟩
    · exact ⟨vs, hD, hv.keepG (fun _ _ z => z) hm⟩
  · rcases cls h1 h5 with ⟨_, q1, q2⟩ | ⟨q1, q2, _⟩
    · rcases cls h2 h6 with ⟨_, q3, q4⟩ | ⟨q3, q4, _⟩
      · exact r.inj n n' o o' a q1 q3 h3 h4 q2 q4
      · exact absurd q4 (apart q1 h3 q2)
    · rcases cls h2 h6 with ⟨_, q3, q4⟩ | ⟨q3, q4, _⟩
      · exact absurd q2 (apart q3 h4 q4)
      · rw [q1, q3]
  · rcases cls h2 h1 with ⟨_, q1, q2⟩ | ⟨_, q2, _⟩
    · exact .inl ⟨n, o, q2, q1, h3⟩
    · exact .inr q2
/-- a dict that no cell knows is changed -/
theorem sqT_privD {Da a : Addr} {vs us : List (L2.Key × L2.V)} {ws : List L2.V} (hD : H Da = some (.dK vs)) (h : L2.SqT K H a ws) : L2.SqT K (L2.upd H Da (.dK us)) a ws := by
  rcases h with (h | ⟨o, h⟩) | h
  · exact .inl (.inl (by rw [L2.upd_ne (fun z => by rw [z, hD] at h; cases h)]; exact h))
  · exact .inl (.inr ⟨o, by rw [L2.upd_ne (fun z => by rw [z, hD] at h; cases h)]; exact h⟩)
  · exact .inr h
theorem priv_putD {Da : Addr} {vs us : List (L2.Key × L2.V)} (r : RS K m S H) (hD : H Da = some (.dK vs)) (hw : ¬ Wr m S Da) : RS K m S (L2.upd H Da (.dK us)) := by
  refine ⟨r.len, fun n o a h1 h2 => ?_, r.inj⟩
  have q := r.at' n o a h1 h2
  cases o with
  | lst es =>
    obtain ⟨ws, e, q⟩ := q
    have ha : a ≠ Da := fun z => hw (z ▸ ⟨n, _, h2, h1, rfl⟩)
    exact ⟨ws, by rw [L2.upd_ne ha]; exact e, q.keepG (fun _ _ z => sqT_privD hD z) fun _ _ z => z⟩
  | fro es =>
    obtain ⟨ws, e, q⟩ := q
    refine ⟨ws, ?_, q.keepG (fun _ _ z => sqT_privD hD z) fun _ _ z => z⟩
    rcases e with ⟨o, e⟩ | e
    · exact .inl ⟨o, by rw [L2.upd_ne (fun z => by rw [z, hD] at e; cases e)]; exact e⟩
    · exact .inr e
  | dic es =>
    obtain ⟨ws, e, e2, q⟩ := q
    have ha : a ≠ Da := fun z => hw (z ▸ ⟨n, _, h2, h1, rfl⟩)
    exact ⟨ws, by rw [L2.upd_ne ha]; exact e, e2, q.keepG (fun _ _ z => sqT_privD hD z) fun _ _ z => z⟩
/-- .. and becomes a cell -/
theorem adoptD {Da : Addr} {vs : List (L2.Key × L2.V)} {acc : List (L2.Key × D)} (r : RS K m S H) (hD : H Da = some (.dK vs)) (hw : ¬ Wr m S Da) (hk : vs.map (·.1) = acc.map (·.1)) (hv : RDs K m H (acc.map (·.2)) (vs.map (·.2))) :
    RS K (m ++ [Da]) (S ++ [.dic acc]) H ∧ RD K (m ++ [Da]) H (.ref S.length) (.ref Da) ∧ ∀ a, Wr (m ++ [Da]) (S ++ [.dic acc]) a → Wr m S a ∨ a = Da := by
  have hm : ∀ (n : Nat) (a : Addr), m[n]? = some a → (m ++ [Da])[n]? = some a := fun n a h => by rw [List.getElem?_append_left (List.getElem?_eq_some_iff.mp h).1]; exact h
  have last : (m ++ [Da])[S.length]? = some Da := by
    rw [← r.len, List.getElem?_append_right (Nat.le_refl _), Nat.sub_self]
    rfl
  have cls : ∀ {n : Nat} {o : MO} {a : Addr}, (S ++ [MO.dic acc])[n]? = some o → (m ++ [Da])[n]? = some a → (n < S.length ∧ S[n]? = some o ∧ m[n]? = some a) ∨ (n = S.length ∧ a = Da ∧ o = .dic acc) := fun {n o a} h1 h2 => by
    by_cases hn : n < S.length
    · rw [List.getElem?_append_left hn] at h1
      rw [List.getElem?_append_left (by rw [r.len]; exact hn)] at h2
      exact .inl ⟨hn, h1, h2⟩
    · have hl : n < (S ++ [MO.dic acc]).length := (List.getElem?_eq_some_iff.mp h1).1
      have hn' : n = S.length := by simp at hl; omega
      subst hn'
      rw [last] at h2
      cases h2
      refine .inr ⟨rfl, rfl, ?_⟩
      rw [List.getElem?_append_right (Nat.le_refl _), Nat.sub_self] at h1
      simpa using h1.symm
  have apart : ∀ {n : Nat} {o : MO} {a : Addr}, S[n]? = some o → o.mut = true → m[n]? = some a → a ≠ Da := fun {n o a} h1 h3 h2 z => hw (z ▸ ⟨n, o, h2, h1, h3⟩)
  refine ⟨⟨by simp [r.len], fun n o a h1 h2 => ?_, fun n n' o o' a h1 h2 h3 h4 h5 h6 => ?_⟩, ⟨Da, rfl, last⟩, fun a ⟨n, o, h1, h2, h3⟩ => ?_⟩
  · rcases cls h1 h2 with ⟨_, q1, q2⟩ | ⟨_, rfl, rfl⟩
    · have q := r.at' n o a q1 q2
      cases o with
      | lst es =>
        obtain ⟨ws, e, q⟩ := q
        exact ⟨ws, e, q.keepG (fun _ _ z => z) hm⟩
      | fro es =>
        obtain ⟨ws, e, q⟩ := q
        exact ⟨ws, e, q.keepG (fun _ _ z => z) hm⟩
      | dic es =>
        obtain ⟨ws, e, e2, q⟩ := q
        exact ⟨ws, e, e2, q.keepG (fun _ _ z => z) hm⟩
    · exact ⟨vs, hD, hk, hv.keepG (fun _ _ z => z) hm⟩
  · rcases cls h1 h5 with ⟨_, q1, q2⟩ | ⟨q1, q2, _⟩
    · rcases cls h2 h6 with ⟨_, q3, q4⟩ | ⟨q3, q4, _⟩
      · exact r.inj n n' o o' a q1 q3 h3 h4 q2 q4
      · exact absurd q4 (apart q1 h3 q2)
    · rcases cls h2 h6 with ⟨_, q3, q4⟩ | ⟨q3, q4, _⟩
      · exact absurd q2 (apart q3 h4 q4)
      · rw [q1, q3]
  · rcases cls h2 h1 with ⟨_, q1, q2⟩ | ⟨_, q2, _⟩
    · exact .inl ⟨n, o, q2, q1, h3⟩
    · exact .inr q2
end
theorem wipe_get (σ : L2.St) : ∀ (vs : List Nat) (j : Nat), (L2.wipe σ vs)[j]? = if j ∈ vs ∧ j < σ.length then some none else σ[j]?
  | [], j => by simp [L2.wipe]
  | v :: vs, j => by
    rw [L2.wipe]
    by_cases hv : v = j
    · subst hv
      by_cases hl : v < σ.length
      · rw [List.getElem?_set_self (by rw [L2.wipe_length]; exact hl), if_pos ⟨by simp, hl⟩]
      · rw [List.getElem?_eq_none (by rw [List.length_set, L2.wipe_length]; omega), if_neg (fun z => hl z.2), List.getElem?_eq_none (by omega)]
    · rw [List.getElem?_set_ne hv, wipe_get σ vs j]
      have e : (j ∈ v :: vs ∧ j < σ.length) ↔ (j ∈ vs ∧ j < σ.length) := by
        simp only [List.mem_cons]
        constructor
        · rintro ⟨h | h, h2⟩
          · exact absurd h.symm hv
          · exact ⟨h, h2⟩
        · rintro ⟨h, h2⟩
          exact ⟨.inr h, h2⟩
      by_cases hc : j ∈ vs ∧ j < σ.length
      · rw [if_pos hc, if_pos (e.mpr hc)]
      · rw [if_neg hc, if_neg (fun z => hc (e.mp z))]
theorem wipeD_get (σ : Sg) : ∀ (vs : List Nat) (j : Nat), (wipeD σ vs)[j]? = if j ∈ vs ∧ j < σ.length then some none else σ[j]?
  | [], j => by simp [wipeD]
  | v :: vs, j => by
    have hlen : ∀ ws : List Nat, (wipeD σ ws).length = σ.length := fun ws => by
      induction ws with
      | nil => rfl
      | cons w ws ih => rw [wipeD, List.length_set, ih]
    rw [wipeD]
    by_cases hv : v = j
    · subst hv
      by_cases hl : v < σ.length
      · rw [List.getElem?_set_self (by rw [hlen]; exact hl), if_pos ⟨by simp, hl⟩]
      · rw [List.getElem?_eq_none (by rw [List.length_set, hlen]; omega), if_neg (fun z => hl z.2), List.getElem?_eq_none (by omega)]
    · rw [List.getElem?_set_ne hv, wipeD_get σ vs j]
      have e : (j ∈ v :: vs ∧ j < σ.length) ↔ (j ∈ vs ∧ j < σ.length) := by
        simp only [List.mem_cons]
        constructor
        · rintro ⟨h | h, h2⟩
          · exact absurd h.symm hv
          · exact ⟨h, h2⟩
        · rintro ⟨h, h2⟩
          exact ⟨.inr h, h2⟩
      by_cases hc : j ∈ vs ∧ j < σ.length
      · rw [if_pos hc, if_pos (e.mpr hc)]
      · rw [if_neg hc, if_neg (fun z => hc (e.mp z))]
theorem wipeD_length (σ : Sg) : ∀ vs : List Nat, (wipeD σ vs).length = σ.length
  | [] => rfl
  | v :: vs => by rw [wipeD, List.length_set, wipeD_length σ vs]
theorem RSg.wipe {K : K'} {m : List Addr} {H : L2.Hp} {σd : Sg} {σ : L2.St} (g : RSg K m H σd σ) (vs : List Nat) : RSg K m H (wipeD σd vs) (L2.wipe σ vs) := by
  refine ⟨by rw [wipeD_length, L2.wipe_length, g.1], fun i d h => ?_⟩
  rw [wipeD_get] at h
  split at h
  · cases h
  · rename_i hc
    obtain ⟨v, e, q⟩ := g.2 i d h
    refine ⟨v, ?_, q⟩
    rw [wipe_get, if_neg (by rw [← g.1]; exact hc)]
    exact e
mutual
/-- a target's slots -/
def tgIn (own : List Nat) : Tg → Bool
  | .nm i => decide (i ∈ own)
  | .tp ts => tgsIn own ts
def tgsIn (own : List Nat) : Tgs → Bool
  | .nil => true
  | .cons t ts => tgIn own t && tgsIn own ts
end
/-- a store into slots that are wiped: the wiped state is as before -/
theorem wipe_set {σ : L2.St} {own : List Nat} {i : Nat} {v : L2.V} (h : i ∈ own) : L2.wipe (σ.set i (some v)) own = L2.wipe σ own := by
  refine List.ext_getElem? fun j => ?_
  rw [wipe_get, wipe_get, List.length_set]
  split
  · rfl
  · rename_i hc
    by_cases hij : i = j
    · subst hij
      have hl : ¬ i < σ.length := fun z => hc ⟨h, z⟩
      rw [List.getElem?_eq_none (by rw [List.length_set]; omega), List.getElem?_eq_none (by omega)]
    · rw [List.getElem?_set_ne hij]
mutual
theorem gR_ok2 {K : K'} {m : List Addr} {H : L2.Hp} {own : List Nat} {ω : L2.St} : ∀ (t : Tg) {d : D} {v : L2.V} {σd σd' : Sg} {σ : L2.St} {Q : L2.St → L2.Hp → Prop}, tgIn own t = true → L2.wipe σ own = ω → RSg K m H σd σ → RD K m H d v → gA t d σd = some σd' →
    (∀ σ', L2.wipe σ' own = ω → RSg K m H σd' σ' → Q σ' H) → gR K t v σ H Q
  | .nm i, d, v, σd, σd', σ, Q, hi, hw, g, q, h, k => by
    rw [gA] at h
    cases h
    rw [gR]
    rw [tgIn] at hi
    exact k _ (by rw [wipe_set (of_decide_eq_true hi)]; exact hw) (g.set q)
  | .tp ts, .tup ds, v, σd, σd', σ, Q, hi, hw, g, q, h, k => by
    rw [gA] at h
    obtain ⟨a, vs, rfl, h1, h2⟩ := q
    rw [gR]
    rw [tgIn] at hi
    exact ⟨a, vs, rfl, h1, by rw [← h2.length, len_gAs h], gRs_ok2 ts hi hw g h2 h k⟩
  | .tp ts, .non, v, σd, σd', σ, Q, hi, hw, g, q, h, k => by simp [gA] at h
  | .tp ts, .bl _, v, σd, σd', σ, Q, hi, hw, g, q, h, k => by simp [gA] at h
  | .tp ts, .int _, v, σd, σd', σ, Q, hi, hw, g, q, h, k => by simp [gA] at h
  | .tp ts, .str _, v, σd, σd', σ, Q, hi, hw, g, q, h, k => by simp [gA] at h
  | .tp ts, .ref _, v, σd, σd', σ, Q, hi, hw, g, q, h, k => by simp [gA] at h
theorem gRs_ok2 {K : K'} {m : List Addr} {H : L2.Hp} {own : List Nat} {ω : L2.St} : ∀ (ts : Tgs) {ds : List D} {vs : List L2.V} {σd σd' : Sg} {σ : L2.St} {Q : L2.St → L2.Hp → Prop}, tgsIn own ts = true → L2.wipe σ own = ω → RSg K m H σd σ → RDs K m H ds vs → gAs ts ds σd = some σd' →
    (∀ σ', L2.wipe σ' own = ω → RSg K m H σd' σ' → Q σ' H) → gRs K ts vs σ H Q
  | .nil, [], vs, σd, σd', σ, Q, hi, hw, g, q, h, k => by
    have e : vs = [] := q
    have e2 : σd = σd' := by simpa [gAs] using h
    rw [gRs]
    exact ⟨e, k _ hw (e2 ▸ g)⟩
  | .nil, d :: ds, vs, σd, σd', σ, Q, hi, hw, g, q, h, k => by simp [gAs] at h
  | .cons t ts, [], vs, σd, σd', σ, Q, hi, hw, g, q, h, k => by simp [gAs] at h
  | .cons t ts, d :: ds, vs, σd, σd', σ, Q, hi, hw, g, q, h, k => by
    rw [gAs] at h
    obtain ⟨v, r, rfl, q1, q2⟩ := q
    rw [tgsIn, Bool.and_eq_true] at hi
    cases e : gA t d σd with
    | none => rw [e] at h; cases h
    | some σ1 =>
      rw [e] at h
      rw [gRs]
      exact ⟨v, r, rfl, gR_ok2 t hi.1 hw g q1 e fun σ' hw' g' => gRs_ok2 ts hi.2 hw' g' q2 h k⟩
end
theorem wipe_wipe (σ : L2.St) (vs : List Nat) : L2.wipe (L2.wipe σ vs) vs = L2.wipe σ vs := by
  refine List.ext_getElem? fun j => ?_
  rw [wipe_get, wipe_get, L2.wipe_length]
  split <;> rfl
theorem lc_ok {K : K'} {m : List Addr} {S : St} {H : L2.Hp} {σd : Sg} {σ : L2.St} {J : L2.It} {G : St → Prop} {tg : Tg} {own : List Nat} {tt : Sg → St → (Bool → St → Prop) → Prop} {te : Sg → St → QD → Prop} {ttR : L2.TT} {teR : L2.TE} {xs : List D} {Q : L2.VK}
    (mt : MonoE tt) (me : MonoE te) (r : RS K m S H) (g : RSg K m H σd σ) (hJ : JOk K m S H J G xs) (htg : tgIn own tg = true) (hn : xs.length < sizeLine)
    (ht : ∀ σ H Q, liftT K tt σ H Q → ttR σ H Q) (he : ∀ σ H Q, liftE K te σ H Q → teR σ H Q)
    (h : lcW G tg tt te (wipeD σd own) xs [] S fun acc S2 => Po K m S H Q (.ref S2.length) (S2 ++ [.lst acc])) :
    ∀ Da, H Da = none → ∃ W : Nat → Nat → L2.Hp → Prop, (∃ m, W 0 m (L2.upd H Da (.lst []))) ∧ ∀ i m H, W i m H →
      (J.stop i H ∧ Q (.ref Da) H) ∨ (J.go i H ∧ ∃ Nx : L2.Hp → Prop, (∀ H', Nx H' → ∃ m', m' < m ∧ W (i + 1) m' H') ∧ ∀ x H', J.yld i H x H' → gR K tg x (L2.wipe σ own) H' fun σ2 H2 => L2.wipe σ2 own = L2.wipe σ own ∧ ttR σ2 H2 fun b H3 =>
        if b = true then teR σ2 H3 fun y H4 => ∃ acc, H4 Da = some (.lst acc) ∧ acc.length < sizeLine ∧ Nx (L2.upd H4 Da (.lst (acc ++ [y]))) else Nx H3) := by
  intro Da hDa
  -- the state at a turn
  let St1 : Nat → L2.Hp → Prop := fun i H' => ∃ m' S' acc vs, Xt m S H m' S' H' ∧ RS K m' S' H' ∧ H' Da = some (.lst vs) ∧ ¬ Wr m' S' Da ∧ RDs K m' H' acc vs ∧ acc.length ≤ i ∧
    lcW G tg tt te (wipeD σd own) (xs.drop i) acc S' fun acc S2 => Po K m S H Q (.ref S2.length) (S2 ++ [.lst acc])
  have nw0 : ¬ Wr m S Da := fun w => by
    obtain ⟨vs, e, _⟩ := r.wr w
    rw [hDa] at e; cases e
  refine ⟨fun i n H' => n = xs.length - i ∧ i ≤ xs.length ∧ St1 i H', ⟨xs.length, by simp, Nat.zero_le _, ?_⟩, ?_⟩
  · obtain ⟨x0, r0⟩ := laid_any (o := .lst []) r hDa
    exact ⟨m, S, [], [], x0, r0, L2.upd_same, nw0, rfl, Nat.le_refl _, by simpa using h⟩
  rintro i n H1 ⟨rfl, hi, m1, S1, acc, vs, x1, r1, hD1, nw1, ha1, hl1, h1⟩
  by_cases hlt : i < xs.length
  · have e : xs.drop i = xs[i] :: xs.drop (i + 1) := List.drop_eq_getElem_cons hlt
    rw [e] at h1
    obtain ⟨hG, σd2, e2, h2⟩ := h1
    obtain ⟨hgo, _⟩ := hJ m1 S1 H1 (fun _ _ z => sqT_keep r x1 z) (fun _ _ z => x1.get z) r1 hG
    obtain ⟨go, yld⟩ := hgo i xs[i] (List.getElem?_eq_getElem hlt)
    refine .inr ⟨go, St1 (i + 1), fun H' hN => ⟨xs.length - (i + 1), by omega, rfl, hlt, hN⟩, fun v H2 hy => ?_⟩
    obtain ⟨x2, r2, d2⟩ := yld v H2 hy
    have keepD : ∀ {m2 : List Addr} {S2 : St} {H2 : L2.Hp} {vs : List L2.V} {m3 : List Addr} {S3 : St} {H3 : L2.Hp}, Xt m2 S2 H2 m3 S3 H3 → H2 Da = some (.lst vs) → ¬ Wr m2 S2 Da → H3 Da = some (.lst vs) ∧ ¬ Wr m3 S3 Da := fun x hD nw =>
      ⟨x.keep _ _ hD nw, fun w => by
        rcases x.new _ w with z | z
        · exact nw z
        · rw [hD] at z; cases z⟩
    obtain ⟨hD2, nw2⟩ := keepD x2 hD1 nw1
    have gw : RSg K m1 H2 (wipeD σd own) (L2.wipe σ own) := (((g.keep r x1).keep r1 x2)).wipe own
    refine gR_ok2 tg htg (wipe_wipe σ own) gw d2 e2 fun σ3 hw3 g3 => ⟨hw3, ht _ _ _ (stepT mt r2 g3 h2 fun b S3 m3 H3 x3 r3 g3' h3 => ?_)⟩
    obtain ⟨hD3, nw3⟩ := keepD x3 hD2 nw2
    have ha3 : RDs K m3 H3 acc vs := ((ha1.keep r1 x2).keep r2 x3)
    have x13 := (x1.trans x2).trans x3
    cases b with
    | false =>
      rw [if_neg Bool.false_ne_true] at h3 ⊢
      exact ⟨m3, S3, acc, vs, x13, r3, hD3, nw3, ha3, by omega, h3⟩
    | true =>
      rw [if_pos rfl] at h3 ⊢
      refine he _ _ _ (stepE me r3 g3' h3 fun y S4 m4 H4 w x4 r4 g4 d4 h4 => ?_)
      obtain ⟨hD4, nw4⟩ := keepD x4 hD3 nw3
      have ha4 := ha3.keep r3 x4
      have x14 := x13.trans x4
      refine ⟨vs, hD4, by rw [← ha4.length]; omega, m4, S4, acc ++ [y], vs ++ [w], ?_, priv_put r4 hD4 nw4, L2.upd_same, nw4, ?_, by rw [List.length_append]; simp only [List.length_singleton]; omega, h4⟩
      · refine ⟨x14.pre, fun a o h nw => ?_, x14.new⟩
        rw [L2.upd_ne (L2.ne_of_none h hDa)]
        exact x14.keep a o h nw
      · exact (ha4.append (show RDs K m4 H4 [y] [w] from ⟨w, [], rfl, d4, rfl⟩)).keepG (fun _ _ z => sqT_priv hD4 z) fun _ _ z => z
  · have hi' : i = xs.length := by omega
    subst hi'
    rw [List.drop_length] at h1
    obtain ⟨hG, hq⟩ := h1
    obtain ⟨_, stop⟩ := hJ m1 S1 H1 (fun _ _ z => sqT_keep r x1 z) (fun _ _ z => x1.get z) r1 hG
    obtain ⟨r5, d5, w5⟩ := adopt r1 hD1 nw1 ha1
    refine .inl ⟨stop, hq _ _ _ ?_ r5 d5⟩
    obtain ⟨rr, e⟩ := x1.pre
    refine ⟨⟨rr ++ [Da], by rw [e, List.append_assoc]⟩, x1.keep, fun a w => ?_⟩
    rcases w5 a w with w | rfl
    · exact x1.new a w
    · exact .inr hDa
/-- the turns of a walk that appends to a list of its own, begun before -/
theorem lc_in {K : K'} {m0 m : List Addr} {S0 S : St} {H0 H : L2.Hp} {σd : Sg} {σ : L2.St} {J : L2.It} {G : St → Prop} {tg : Tg} {own : List Nat} {tt : Sg → St → (Bool → St → Prop) → Prop} {te : Sg → St → QD → Prop} {ttR : L2.TT} {teR : L2.TE} {xs acc0 : List D} {vs0 : List L2.V} {R : List D → St → Prop} {Nx0 : L2.Hp → Prop} {Da : Addr}
    (mt : MonoE tt) (me : MonoE te) (hDa : H0 Da = none) (x0 : Xt m0 S0 H0 m S H) (r : RS K m S H) (g : RSg K m H σd σ) (hJ : JOk K m S H J G xs) (htg : tgIn own tg = true) (hn : acc0.length + xs.length < sizeLine)
    (hD : H Da = some (.lst vs0)) (nw : ¬ Wr m S Da) (ha : RDs K m H acc0 vs0)
    (ht : ∀ σ H Q, liftT K tt σ H Q → ttR σ H Q) (he : ∀ σ H Q, liftE K te σ H Q → teR σ H Q)
    (fin : ∀ m' S' H' acc vs, Xt m0 S0 H0 m' S' H' → RS K m' S' H' → H' Da = some (.lst vs) → ¬ Wr m' S' Da → RDs K m' H' acc vs → (∀ a us, L2.SqT K H a us → L2.SqT K H' a us) → (∀ (n : Nat) (a : Addr), m[n]? = some a → m'[n]? = some a) → R acc S' → Nx0 H')
    (h : lcW G tg tt te (wipeD σd own) xs acc0 S R) :
    ∃ W : Nat → Nat → L2.Hp → Prop, (∃ m, W 0 m H) ∧ ∀ i m H, W i m H →
      (J.stop i H ∧ Nx0 H) ∨ (J.go i H ∧ ∃ Nx : L2.Hp → Prop, (∀ H', Nx H' → ∃ m', m' < m ∧ W (i + 1) m' H') ∧ ∀ x H', J.yld i H x H' → gR K tg x (L2.wipe σ own) H' fun σ2 H2 => L2.wipe σ2 own = L2.wipe σ own ∧ ttR σ2 H2 fun b H3 =>
        if b = true then teR σ2 H3 fun y H4 => ∃ acc, H4 Da = some (.lst acc) ∧ acc.length < sizeLine ∧ Nx (L2.upd H4 Da (.lst (acc ++ [y]))) else Nx H3) := by
  let St1 : Nat → L2.Hp → Prop := fun i H' => ∃ m' S' acc vs, Xt m0 S0 H0 m' S' H' ∧ RS K m' S' H' ∧ H' Da = some (.lst vs) ∧ ¬ Wr m' S' Da ∧ RDs K m' H' acc vs ∧ acc.length ≤ acc0.length + i ∧
    (∀ a us, L2.SqT K H a us → L2.SqT K H' a us) ∧ (∀ (n : Nat) (a : Addr), m[n]? = some a → m'[n]? = some a) ∧ lcW G tg tt te (wipeD σd own) (xs.drop i) acc S' R
  refine ⟨fun i n H' => n = xs.length - i ∧ i ≤ xs.length ∧ St1 i H', ⟨xs.length, by simp, Nat.zero_le _, m, S, acc0, vs0, x0, r, hD, nw, ha, Nat.le_refl _, fun _ _ z => z, fun _ _ z => z, by simpa using h⟩, ?_⟩
  rintro i n H1 ⟨rfl, hi, m1, S1, acc, vs, x1, r1, hD1, nw1, ha1, hl1, hT1, hm1, h1⟩
  by_cases hlt : i < xs.length
  · have e : xs.drop i = xs[i] :: xs.drop (i + 1) := List.drop_eq_getElem_cons hlt
    rw [e] at h1
    obtain ⟨hG, σd2, e2, h2⟩ := h1
    obtain ⟨hgo, _⟩ := hJ m1 S1 H1 hT1 hm1 r1 hG
    obtain ⟨go, yld⟩ := hgo i xs[i] (List.getElem?_eq_getElem hlt)
    refine .inr ⟨go, St1 (i + 1), fun H' hN => ⟨xs.length - (i + 1), by omega, rfl, hlt, hN⟩, fun v H2 hy => ?_⟩
    obtain ⟨x2, r2, d2⟩ := yld v H2 hy
    have keepD : ∀ {m2 : List Addr} {S2 : St} {H2 : L2.Hp} {vs : List L2.V} {m3 : List Addr} {S3 : St} {H3 : L2.Hp}, Xt m2 S2 H2 m3 S3 H3 → H2 Da = some (.lst vs) → ¬ Wr m2 S2 Da → H3 Da = some (.lst vs) ∧ ¬ Wr m3 S3 Da := fun x hD nw =>
      ⟨x.keep _ _ hD nw, fun w => by
        rcases x.new _ w with z | z
        · exact nw z
        · rw [hD] at z; cases z⟩
    obtain ⟨hD2, nw2⟩ := keepD x2 hD1 nw1
    have gw : RSg K m1 H2 (wipeD σd own) (L2.wipe σ own) := ((show RSg K m1 H1 σd σ from ⟨g.1, fun i d e => by obtain ⟨v, e1, e2⟩ := g.2 i d e; exact ⟨v, e1, e2.keepG hT1 hm1⟩⟩).keep r1 x2).wipe own
    refine gR_ok2 tg htg (wipe_wipe σ own) gw d2 e2 fun σ3 hw3 g3 => ⟨hw3, ht _ _ _ (stepT mt r2 g3 h2 fun b S3 m3 H3 x3 r3 g3' h3 => ?_)⟩
    obtain ⟨hD3, nw3⟩ := keepD x3 hD2 nw2
    have ha3 : RDs K m3 H3 acc vs := ((ha1.keep r1 x2).keep r2 x3)
    have x13 := (x1.trans x2).trans x3
    have hT3 : ∀ a us, L2.SqT K H a us → L2.SqT K H3 a us := fun a us z => sqT_keep r2 x3 (sqT_keep r1 x2 (hT1 a us z))
    have hm3 : ∀ (n : Nat) (a : Addr), m[n]? = some a → m3[n]? = some a := fun n a z => x3.get (x2.get (hm1 n a z))
    cases b with
    | false =>
      rw [if_neg Bool.false_ne_true] at h3 ⊢
      exact ⟨m3, S3, acc, vs, x13, r3, hD3, nw3, ha3, by omega, hT3, hm3, h3⟩
    | true =>
      rw [if_pos rfl] at h3 ⊢
      refine he _ _ _ (stepE me r3 g3' h3 fun y S4 m4 H4 w x4 r4 g4 d4 h4 => ?_)
      obtain ⟨hD4, nw4⟩ := keepD x4 hD3 nw3
      have ha4 := ha3.keep r3 x4
      have x14 := x13.trans x4
      refine ⟨vs, hD4, by rw [← ha4.length]; omega, m4, S4, acc ++ [y], vs ++ [w], ?_, priv_put r4 hD4 nw4, L2.upd_same, nw4, ?_, by rw [List.length_append]; simp only [List.length_singleton]; omega,
        fun a us z => sqT_priv hD4 (sqT_keep r3 x4 (hT3 a us z)), fun n a z => x4.get (hm3 n a z), h4⟩
      · refine ⟨x14.pre, fun a o h nw => ?_, x14.new⟩
        rw [L2.upd_ne (L2.ne_of_none h hDa)]
        exact x14.keep a o h nw
      · exact (ha4.append (show RDs K m4 H4 [y] [w] from ⟨w, [], rfl, d4, rfl⟩)).keepG (fun _ _ z => sqT_priv hD4 z) fun _ _ z => z
  · have hi' : i = xs.length := by omega
    subst hi'
    rw [List.drop_length] at h1
    obtain ⟨hG, hq⟩ := h1
    obtain ⟨_, stop⟩ := hJ m1 S1 H1 hT1 hm1 r1 hG
    exact .inl ⟨stop, fin m1 S1 H1 acc vs x1 r1 hD1 nw1 ha1 hT1 hm1 hq⟩
theorem lc2_ok {K : K'} {m : List Addr} {S : St} {H : L2.Hp} {σd : Sg} {σ : L2.St} {J : L2.It} {G : St → Prop} {tg tg1 : Tg} {own vs1 : List Nat} {tt tt1 : Sg → St → (Bool → St → Prop) → Prop} {ti : Sg → St → ((St → Prop) → List D → St → Prop) → Prop} {te : Sg → St → QD → Prop} {ttR ttR1 : L2.TT} {tiR : L2.TI} {teR : L2.TE} {xs : List D} {Q : L2.VK}
    (mt : MonoE tt) (mi : ∀ σ S Q Q', (∀ G d S, Q G d S → Q' G d S) → ti σ S Q → ti σ S Q') (mt1 : MonoE tt1) (me : MonoE te) (r : RS K m S H) (g : RSg K m H σd σ) (hJ : JOk K m S H J G xs) (htg : tgIn own tg = true) (htg1 : tgIn vs1 tg1 = true)
    (ht : ∀ σ H Q, liftT K tt σ H Q → ttR σ H Q) (hi : ∀ σ H Q, liftI K ti σ H Q → tiR σ H Q) (ht1 : ∀ σ H Q, liftT K tt1 σ H Q → ttR1 σ H Q) (he : ∀ σ H Q, liftE K te σ H Q → teR σ H Q)
    (h : lc2W G tg tt ti tg1 tt1 te vs1 (wipeD σd own) xs [] S fun acc S2 => Po K m S H Q (.ref S2.length) (S2 ++ [.lst acc])) :
    ∀ Da, H Da = none → ∃ W : Nat → Nat → L2.Hp → Prop, (∃ m, W 0 m (L2.upd H Da (.lst []))) ∧ ∀ i m H, W i m H →
      (J.stop i H ∧ Q (.ref Da) H) ∨ (J.go i H ∧ ∃ Nx : L2.Hp → Prop, (∀ H', Nx H' → ∃ m', m' < m ∧ W (i + 1) m' H') ∧ ∀ x H', J.yld i H x H' → gR K tg x (L2.wipe σ own) H' fun σ2 H2 => L2.wipe σ2 own = L2.wipe σ own ∧ ttR σ2 H2 fun b H3 =>
        if b = true then tiR σ2 H3 fun J1 H4 => ∃ W1 : Nat → Nat → L2.Hp → Prop, (∃ m, W1 0 m H4) ∧ ∀ j k H, W1 j k H → (J1.stop j H ∧ Nx H) ∨ (J1.go j H ∧ ∃ Nx1 : L2.Hp → Prop, (∀ H', Nx1 H' → ∃ k', k' < k ∧ W1 (j + 1) k' H') ∧ ∀ x H', J1.yld j H x H' → gR K tg1 x (L2.wipe σ2 vs1) H' fun σ3 H5 => L2.wipe σ3 vs1 = L2.wipe σ2 vs1 ∧ ttR1 σ3 H5 fun b H6 =>
          if b = true then teR σ3 H6 fun y H7 => ∃ acc, H7 Da = some (.lst acc) ∧ acc.length < sizeLine ∧ Nx1 (L2.upd H7 Da (.lst (acc ++ [y]))) else Nx1 H6) else Nx H3) := by
  intro Da hDa
  let St1 : Nat → L2.Hp → Prop := fun i H' => ∃ m' S' acc vs, Xt m S H m' S' H' ∧ RS K m' S' H' ∧ H' Da = some (.lst vs) ∧ ¬ Wr m' S' Da ∧ RDs K m' H' acc vs ∧
    lc2W G tg tt ti tg1 tt1 te vs1 (wipeD σd own) (xs.drop i) acc S' fun acc S2 => Po K m S H Q (.ref S2.length) (S2 ++ [.lst acc])
  have nw0 : ¬ Wr m S Da := fun w => by
    obtain ⟨vs, e, _⟩ := r.wr w
    rw [hDa] at e; cases e
  refine ⟨fun i n H' => n = xs.length - i ∧ i ≤ xs.length ∧ St1 i H', ⟨xs.length, by simp, Nat.zero_le _, ?_⟩, ?_⟩
  · obtain ⟨x0, r0⟩ := laid_any (o := .lst []) r hDa
    exact ⟨m, S, [], [], x0, r0, L2.upd_same, nw0, rfl, by simpa using h⟩
  rintro i n H1 ⟨rfl, hi1, m1, S1, acc, vs, x1, r1, hD1, nw1, ha1, h1⟩
  by_cases hlt : i < xs.length
  · have e : xs.drop i = xs[i] :: xs.drop (i + 1) := List.drop_eq_getElem_cons hlt
    rw [e] at h1
    obtain ⟨hG, σd2, e2, h2⟩ := h1
    obtain ⟨hgo, _⟩ := hJ m1 S1 H1 (fun _ _ z => sqT_keep r x1 z) (fun _ _ z => x1.get z) r1 hG
    obtain ⟨go, yld⟩ := hgo i xs[i] (List.getElem?_eq_getElem hlt)
    refine .inr ⟨go, St1 (i + 1), fun H' hN => ⟨xs.length - (i + 1), by omega, rfl, hlt, hN⟩, fun v H2 hy => ?_⟩
    obtain ⟨x2, r2, d2⟩ := yld v H2 hy
    have keepD : ∀ {m2 : List Addr} {S2 : St} {H2 : L2.Hp} {vs : List L2.V} {m3 : List Addr} {S3 : St} {H3 : L2.Hp}, Xt m2 S2 H2 m3 S3 H3 → H2 Da = some (.lst vs) → ¬ Wr m2 S2 Da → H3 Da = some (.lst vs) ∧ ¬ Wr m3 S3 Da := fun x hD nw =>
      ⟨x.keep _ _ hD nw, fun w => by
        rcases x.new _ w with z | z
        · exact nw z
        · rw [hD] at z; cases z⟩
    obtain ⟨hD2, nw2⟩ := keepD x2 hD1 nw1
    have gw : RSg K m1 H2 (wipeD σd own) (L2.wipe σ own) := (((g.keep r x1).keep r1 x2)).wipe own
    refine gR_ok2 tg htg (wipe_wipe σ own) gw d2 e2 fun σ3 hw3 g3 => ⟨hw3, ht _ _ _ (stepT mt r2 g3 h2 fun b S3 m3 H3 x3 r3 g3' h3 => ?_)⟩
    obtain ⟨hD3, nw3⟩ := keepD x3 hD2 nw2
    have ha3 : RDs K m3 H3 acc vs := ((ha1.keep r1 x2).keep r2 x3)
    have x13 := (x1.trans x2).trans x3
    cases b with
    | false =>
      rw [if_neg Bool.false_ne_true] at h3 ⊢
      exact ⟨m3, S3, acc, vs, x13, r3, hD3, nw3, ha3, h3⟩
    | true =>
      rw [if_pos rfl] at h3 ⊢
      refine hi _ _ _ ⟨m3, S3, σd2, r3, g3', mi _ _ _ _ (fun G1 ys S4 q4 => ?_) h3⟩
      intro m4 H4 J1 x4 r4 hJ1
      obtain ⟨hD4, nw4⟩ := keepD x4 hD3 nw3
      exact lc_in mt1 me hDa (x13.trans x4) r4 (g3'.keep r3 x4) hJ1 htg1 q4.1 hD4 nw4 (ha3.keep r3 x4) ht1 he
        (fun m' S' H' acc vs x r' hD' nw' ha' _ _ q => ⟨m', S', acc, vs, x, r', hD', nw', ha', q⟩) q4.2
  · have hi' : i = xs.length := by omega
    subst hi'
    rw [List.drop_length] at h1
    obtain ⟨hG, hq⟩ := h1
    obtain ⟨_, stop⟩ := hJ m1 S1 H1 (fun _ _ z => sqT_keep r x1 z) (fun _ _ z => x1.get z) r1 hG
    obtain ⟨r5, d5, w5⟩ := adopt r1 hD1 nw1 ha1
    refine .inl ⟨stop, hq _ _ _ ?_ r5 d5⟩
    obtain ⟨rr, e⟩ := x1.pre
    refine ⟨⟨rr ++ [Da], by rw [e, List.append_assoc]⟩, x1.keep, fun a w => ?_⟩
    rcases w5 a w with w | rfl
    · exact x1.new a w
    · exact .inr hDa
theorem dc_ok {K : K'} {m : List Addr} {S : St} {H : L2.Hp} {σd : Sg} {σ : L2.St} {J : L2.It} {G : St → Prop} {tg : Tg} {own : List Nat} {tt : Sg → St → (Bool → St → Prop) → Prop} {tk te : Sg → St → QD → Prop} {ttR : L2.TT} {tkR teR : L2.TE} {xs : List D} {Q : L2.VK}
    (mt : MonoE tt) (mk : MonoE tk) (me : MonoE te) (r : RS K m S H) (g : RSg K m H σd σ) (hJ : JOk K m S H J G xs) (htg : tgIn own tg = true) (hn : xs.length < sizeLine)
    (htt : ∀ σ S Q, Q true S → tt σ S Q) (ht : ∀ σ H Q, liftT K tt σ H Q → ttR σ H Q) (hk : ∀ σ H Q, liftE K tk σ H Q → tkR σ H Q) (he : ∀ σ H Q, liftE K te σ H Q → teR σ H Q)
    (h : dcW G tg tk te (wipeD σd own) xs [] S fun acc S2 => Po K m S H Q (.ref S2.length) (S2 ++ [.dic acc])) :
    ∀ Da, H Da = none → ∃ W : Nat → Nat → L2.Hp → Prop, (∃ m, W 0 m (L2.upd H Da (.dK []))) ∧ ∀ i m H, W i m H →
      (J.stop i H ∧ Q (.ref Da) H) ∨ (J.go i H ∧ ∃ Nx : L2.Hp → Prop, (∀ H', Nx H' → ∃ m', m' < m ∧ W (i + 1) m' H') ∧ ∀ x H', J.yld i H x H' → gR K tg x (L2.wipe σ own) H' fun σ2 H2 => L2.wipe σ2 own = L2.wipe σ own ∧ ttR σ2 H2 fun b H3 =>
        if b = true then tkR σ2 H3 fun y H4 => teR σ2 H4 fun z H5 => ∃ kvs k, y = L2.kV k ∧ H5 Da = some (.dK kvs) ∧ kvs.length < sizeLine ∧ Nx (L2.upd H5 Da (.dK (L2.putK kvs k z))) else Nx H3) := by
  intro Da hDa
  -- the state at a turn
  let St1 : Nat → L2.Hp → Prop := fun i H' => ∃ m' S' acc vs, Xt m S H m' S' H' ∧ RS K m' S' H' ∧ H' Da = some (.dK vs) ∧ ¬ Wr m' S' Da ∧ vs.map (·.1) = acc.map (·.1) ∧ RDs K m' H' (acc.map (·.2)) (vs.map (·.2)) ∧ acc.length ≤ i ∧
    dcW G tg tk te (wipeD σd own) (xs.drop i) acc S' fun acc S2 => Po K m S H Q (.ref S2.length) (S2 ++ [.dic acc])
  have nw0 : ¬ Wr m S Da := fun w => by
    obtain ⟨vs, e, _⟩ := r.wr w
    rw [hDa] at e; cases e
  refine ⟨fun i n H' => n = xs.length - i ∧ i ≤ xs.length ∧ St1 i H', ⟨xs.length, by simp, Nat.zero_le _, ?_⟩, ?_⟩
  · obtain ⟨x0, r0⟩ := laid_any (o := .dK []) r hDa
    exact ⟨m, S, [], [], x0, r0, L2.upd_same, nw0, rfl, rfl, Nat.le_refl _, by simpa using h⟩
  rintro i n H1 ⟨rfl, hi, m1, S1, acc, vs, x1, r1, hD1, nw1, hk1, ha1, hl1, h1⟩
  by_cases hlt : i < xs.length
  · have e : xs.drop i = xs[i] :: xs.drop (i + 1) := List.drop_eq_getElem_cons hlt
    rw [e] at h1
    obtain ⟨hG, σd2, e2, h2⟩ := h1
    obtain ⟨hgo, _⟩ := hJ m1 S1 H1 (fun _ _ z => sqT_keep r x1 z) (fun _ _ z => x1.get z) r1 hG
    obtain ⟨go, yld⟩ := hgo i xs[i] (List.getElem?_eq_getElem hlt)
    refine .inr ⟨go, St1 (i + 1), fun H' hN => ⟨xs.length - (i + 1), by omega, rfl, hlt, hN⟩, fun v H2 hy => ?_⟩
    obtain ⟨x2, r2, d2⟩ := yld v H2 hy
    have keepD : ∀ {m2 : List Addr} {S2 : St} {H2 : L2.Hp} {vs : List (L2.Key × L2.V)} {m3 : List Addr} {S3 : St} {H3 : L2.Hp}, Xt m2 S2 H2 m3 S3 H3 → H2 Da = some (.dK vs) → ¬ Wr m2 S2 Da → H3 Da = some (.dK vs) ∧ ¬ Wr m3 S3 Da := fun x hD nw =>
      ⟨x.keep _ _ hD nw, fun w => by
        rcases x.new _ w with z | z
        · exact nw z
        · rw [hD] at z; cases z⟩
    obtain ⟨hD2, nw2⟩ := keepD x2 hD1 nw1
    have gw : RSg K m1 H2 (wipeD σd own) (L2.wipe σ own) := (((g.keep r x1).keep r1 x2)).wipe own
    refine gR_ok2 tg htg (wipe_wipe σ own) gw d2 e2 fun σ3 hw3 g3 => ⟨hw3, ht _ _ _ (stepT mt r2 g3 (htt σd2 _ (fun b S1 => b = true ∧ tk σd2 S1 _) ⟨rfl, h2⟩) fun b S3 m3 H3 x3 r3 g3' h3 => ?_)⟩
    obtain ⟨rfl, h3⟩ := h3
    rw [if_pos rfl]
    obtain ⟨hD3, nw3⟩ := keepD x3 hD2 nw2
    refine hk _ _ _ (stepE mk r3 g3' h3 fun y S4 m4 H4 w x4 r4 g4 d4 h4 => he _ _ _ (stepE me r4 g4 h4 fun z S5 m5 H5 u x5 r5 g5 d5 h5 => ?_))
    obtain ⟨hD4, nw4⟩ := keepD x4 hD3 nw3
    obtain ⟨hD5, nw5⟩ := keepD x5 hD4 nw4
    have ha5 : RDs K m5 H5 (acc.map (·.2)) (vs.map (·.2)) := ((((ha1.keep r1 x2).keep r2 x3).keep r3 x4).keep r4 x5)
    have x15 := (((x1.trans x2).trans x3).trans x4).trans x5
    obtain ⟨ky, hky, h5⟩ := h5
    have hw := key_read hky d4
    have hvl : vs.length = acc.length := by simpa using congrArg List.length hk1
    obtain ⟨p1, p2⟩ := putD_ok (k := ky) d5 hk1 ha5
    refine ⟨vs, ky, hw, hD5, by rw [hvl]; omega, m5, S5, putD acc ky z, L2.putK vs ky u, ?_, priv_putD r5 hD5 nw5, L2.upd_same, nw5, p1, ?_, ?_, h5⟩
    · refine ⟨x15.pre, fun a o h nw => ?_, x15.new⟩
      rw [L2.upd_ne (L2.ne_of_none h hDa)]
      exact x15.keep a o h nw
    · exact p2.keepG (fun _ _ z => sqT_privD hD5 z) fun _ _ z => z
    · unfold putD
      split
      · rw [List.length_map]; omega
      · rw [List.length_append]; simp only [List.length_singleton]; omega
  · have hi' : i = xs.length := by omega
    subst hi'
    rw [List.drop_length] at h1
    obtain ⟨hG, hq⟩ := h1
    obtain ⟨_, stop⟩ := hJ m1 S1 H1 (fun _ _ z => sqT_keep r x1 z) (fun _ _ z => x1.get z) r1 hG
    obtain ⟨r5, d5, w5⟩ := adoptD r1 hD1 nw1 hk1 ha1
    refine .inl ⟨stop, hq _ _ _ ?_ r5 d5⟩
    obtain ⟨rr, e⟩ := x1.pre
    refine ⟨⟨rr ++ [Da], by rw [e, List.append_assoc]⟩, x1.keep, fun a w => ?_⟩
    rcases w5 a w with w | rfl
    · exact x1.new a w
    · exact .inr hDa
end Flx

end
section
set_option Elab.async false
set_option linter.all false
set_option maxRecDepth 100000
set_option autoImplicit false
/-! FlxIter: what is walked. -/
namespace Flx
open PySem PySem.Spec PyProof.Rows
section
variable {K : K'} {m : List Addr} {S : St} {H : L2.Hp}
/-- a list's protocol -/
theorem jok_list {n : Nat} {a : Addr} {xs : List D} (r : RS K m S H) (d : RD K m H (.ref n) (.ref a)) : JOk K m S H (L2.Itl K a) (still (.ref n) xs) xs := by
  intro m' S' H' hT hm r1 g
  obtain ⟨a', vs, e, h1, h2⟩ := seq_read r1 (show seqOf S' n = some xs from g) (d.keepG hT hm)
  cases e
  refine ⟨fun i y hy => ?_, ⟨vs, h1, by rw [h2.length]; exact Nat.le_refl _⟩⟩
  obtain ⟨w, hw, dw⟩ := h2.get hy
  refine ⟨⟨vs, w, h1, hw⟩, fun u H2 hy2 => ?_⟩
  obtain ⟨rfl, q⟩ := hy2
  have e2 : some w = some u := hw.symm.trans (q vs h1)
  cases e2
  exact ⟨.refl, r1, dw⟩
theorem jok_tup {a : Addr} {xs : List D} {G : St → Prop} (r : RS K m S H) (d : RD K m H (.tup xs) (.ref a)) : JOk K m S H (L2.Itt K a) G xs := by
  intro m' S' H' hT hm r1 g
  obtain ⟨a', vs, e, h1, h2⟩ := d.keepG hT hm
  cases e
  refine ⟨fun i y hy => ?_, ⟨vs, h1, by rw [h2.length]; exact Nat.le_refl _⟩⟩
  obtain ⟨w, hw, dw⟩ := h2.get hy
  refine ⟨⟨vs, w, h1, hw⟩, fun u H2 hy2 => ?_⟩
  obtain ⟨rfl, q⟩ := hy2
  have e2 : some w = some u := hw.symm.trans (q vs h1)
  cases e2
  exact ⟨.refl, r1, dw⟩
theorem jok_rng {a b : Int} {G : St → Prop} : JOk K m S H (L2.Itr a (b - a).toNat) G (rgD a b) := by
  intro m' S' H' hT hm r1 g
  have hl : (rgD a b).length = (b - a).toNat := by unfold rgD; rw [List.length_map, List.length_range]
  refine ⟨fun i y hy => ?_, by rw [hl]; exact Nat.le_refl _⟩
  have hi : i < (b - a).toNat := by rw [← hl]; exact (List.getElem?_eq_some_iff.mp hy).1
  have e : y = .int (a + (i : Nat)) := by
    unfold rgD at hy
    rw [List.getElem?_map, List.getElem?_range hi] at hy
    exact (Option.some.inj hy).symm
  subst e
  refine ⟨hi, fun u H2 hy2 => ?_⟩
  obtain ⟨rfl, rfl⟩ := hy2
  exact ⟨.refl, r1, rfl⟩
theorem jok_rgd {a b : Int} {G : St → Prop} : JOk K m S H (L2.Itc a (-1) (a - b).toNat) G (rgdD a b) := by
  intro m' S' H' hT hm r1 g
  have hl : (rgdD a b).length = (a - b).toNat := by unfold rgdD; rw [List.length_map, List.length_range]
  refine ⟨fun i y hy => ?_, by rw [hl]; exact Nat.le_refl _⟩
  have hi : i < (a - b).toNat := by rw [← hl]; exact (List.getElem?_eq_some_iff.mp hy).1
  have e : y = .int (a - (i : Nat)) := by
    unfold rgdD at hy
    rw [List.getElem?_map, List.getElem?_range hi] at hy
    exact (Option.some.inj hy).symm
  subst e
  refine ⟨hi, fun u H2 hy2 => ?_⟩
  obtain ⟨rfl, rfl⟩ := hy2
  refine ⟨.refl, r1, ?_⟩
  show L2.V.int (a + (i : Nat) * -1) = L2.V.int (a - (i : Nat))
  congr 1
  omega
theorem jok_rev_list {n : Nat} {a : Addr} {xs : List D} {vs0 : List L2.V} (r : RS K m S H) (d : RD K m H (.ref n) (.ref a)) (h0 : RDs K m H xs vs0) : JOk K m S H (L2.Itv K a vs0.length) (still (.ref n) xs) xs.reverse := by
  intro m' S' H' hT hm r1 g
  obtain ⟨a', vs, e, h1, h2⟩ := seq_read r1 (show seqOf S' n = some xs from g) (d.keepG hT hm)
  cases e
  have hl : vs0.length = vs.length := by rw [← h0.length, h2.length]
  refine ⟨fun i y hy => ?_, by rw [List.length_reverse, h0.length]; exact Nat.le_refl _⟩
  have hi : i < xs.length := by
    have := (List.getElem?_eq_some_iff.mp hy).1
    simpa using this
  rw [List.getElem?_reverse hi] at hy
  obtain ⟨w, hw, dw⟩ := h2.get hy
  rw [h2.length, ← hl] at hw
  refine ⟨⟨by rw [hl, ← h2.length]; exact hi, vs, w, h1, hw⟩, fun u H2 hy2 => ?_⟩
  obtain ⟨rfl, q⟩ := hy2
  have e2 : some w = some u := hw.symm.trans (q vs h1)
  cases e2
  exact ⟨.refl, r1, dw⟩
theorem jok_rev_tup {a : Addr} {xs : List D} {vs0 : List L2.V} {G : St → Prop} (r : RS K m S H) (d : RD K m H (.tup xs) (.ref a)) (h0 : RDs K m H xs vs0) : JOk K m S H (RT.ItvT K a vs0.length) G xs.reverse := by
  intro m' S' H' hT hm r1 g
  obtain ⟨a', vs, e, h1, h2⟩ := d.keepG hT hm
  cases e
  have hl : vs0.length = vs.length := by rw [← h0.length, h2.length]
  refine ⟨fun i y hy => ?_, by rw [List.length_reverse, h0.length]; exact Nat.le_refl _⟩
  have hi : i < xs.length := by
    have := (List.getElem?_eq_some_iff.mp hy).1
    simpa using this
  rw [List.getElem?_reverse hi] at hy
  obtain ⟨w, hw, dw⟩ := h2.get hy
  rw [h2.length, ← hl] at hw
  refine ⟨⟨by rw [hl, ← h2.length]; exact hi, vs, w, h1, hw⟩, fun u H2 hy2 => ?_⟩
  obtain ⟨rfl, q⟩ := hy2
  have e2 : some w = some u := hw.symm.trans (q vs h1)
  cases e2
  exact ⟨.refl, r1, dw⟩
/-- a pair that a walk hands out, in a new tuple -/
theorem pair_new {p : Addr} {a b : D} {v u : L2.V} (r : RS K m S H) (hp : H p = none) (d1 : RD K m H a v) (d2 : RD K m H b u) :
    Xt m S H m S (L2.upd H p (.tup [v, u])) ∧ RS K m S (L2.upd H p (.tup [v, u])) ∧ RD K m (L2.upd H p (.tup [v, u])) (.tup [a, b]) (.ref p) :=
  laid_tup r hp ⟨v, _, rfl, d1, u, _, rfl, d2, rfl⟩
end
/-- a list or a tuple, walked -/
def iAny (K : K') (tl : L2.TE) : L2.TI := fun σ H R => tl σ H fun x H1 => ∃ a, x = .ref a ∧ ((∃ xs, L2.SqL K H1 a xs ∧ R (L2.Itl K a) H1) ∨ ∃ xs, L2.SqT K H1 a xs ∧ R (L2.Itt K a) H1)
theorem pi_any {X : L2.Cx} {tg l : Expr} {tl : L2.TE} (hl : L2.PE X l tl) : L2.PI X tg l (iAny X.K tl) := by
  constructor
  intro pins s σ H R I h
  refine L2.thn (hl.run pins s σ H _ I h) ?_
  rintro v s1 ⟨x, H1, I1, r1, a, rfl, q1⟩
  obtain rfl : v = Value.ref a := r1
  have hN : H1 s1.heap.objs.size = none := I1.hok.fresh (Nat.le_refl _)
  have fin : ∀ (J : L2.It) (tn : Nat → Heap → Prop) (o : Obj), L2.Turn X.prog X.w X.K tg J [s1.heap.objs.size] s1.heap.objs.size tn → tn 0 (s1.heap.push o) → R J H1 →
      L2.PIE X pins σ tg R (.ref s1.heap.objs.size) { s1 with heap := s1.heap.push o } := fun J tn o T t0 q =>
    ⟨_, _, tn, J, H1, rfl, I1.kept (t' := s1.toks) fun b o e => Heap.get?_push_of_some _ e, T, t0, fun b hb => by
      rw [List.mem_singleton.mp hb]
      exact I1.fpOk (Nat.le_refl _) hN, q⟩
  rcases q1 with ⟨xs, hq, q⟩ | ⟨xs, hq, q⟩
  · obtain ⟨its, _, p, _⟩ := I1.list hq
    exact wpAny_pyIter_list p.isList (fin _ _ _ (L2.turn_list a _) ⟨_, Heap.get?_push_size _ rfl, rfl, rfl⟩ q)
  · obtain ⟨its, _, p, _⟩ := I1.tuple hq
    exact wpAny_pyIter_tuple (show s1.heap.IsTuple a its.toArray from p) (fin _ _ _ (L2.turn_tuple a _) ⟨_, Heap.get?_push_size _ rfl, rfl, rfl⟩ q)
end Flx

end
section
set_option Elab.async false
set_option linter.all false
set_option maxRecDepth 100000
set_option autoImplicit false
/-! FlxZip: zip of two things, each a list or a tuple. -/
namespace Flx
open PySem PySem.Spec PyProof.Rows
/-- an iterator over a list (true), over a tuple (false) -/
def Ik (c : Bool) (h : Heap) (it l : Addr) (i : Nat) : Prop := if c = true then h.IsListIter it l i else h.IsTupleIter it l i
def Qk (c : Bool) (h : Heap) (l : Addr) (xs : Array Value) : Prop := if c = true then h.IsList l xs else h.IsTuple l xs
def Hk (c : Bool) (K : K') (H : L2.Hp) (a : Addr) (vs : List L2.V) : Prop := if c = true then L2.SqL K H a vs else L2.SqT K H a vs
theorem Hk.plain {c : Bool} {X : L2.Cx} {pins : List (Addr × Obj)} {σ : L2.St} {H : L2.Hp} {s : Shared} {a : Addr} {vs : List L2.V} (I : L2.Inv X pins σ H s) (h : Hk c X.K H a vs) :
    ∃ its : List Value, L2.Vals vs its ∧ Qk c s.heap a its.toArray ∧ a < s.heap.objs.size := by
  cases c with
  | true =>
    obtain ⟨its, r, p, _⟩ := I.list h
    exact ⟨its, r, p.isList, p.lt⟩
  | false =>
    obtain ⟨its, r, p, _⟩ := I.tuple h
    exact ⟨its, r, p, p.lt⟩
theorem Hk.same {c : Bool} {X : L2.Cx} {pins : List (Addr × Obj)} {σ : L2.St} {H : L2.Hp} {s : Shared} {a : Addr} {vs us : List L2.V} (I : L2.Inv X pins σ H s) (h : Hk c X.K H a vs) (h' : Hk c X.K H a us) : vs = us := by
  cases c with
  | true => exact I.list_inj h h'
  | false => exact I.tuple_inj h h'
theorem Ik.move {c : Bool} {h h' : Heap} {it l : Addr} {i : Nat} (x : Ik c h it l i) (k : ∀ o, h.get? it = some o → h'.get? it = some o) : Ik c h' it l i := by
  cases c with
  | true => exact Heap.IsListIter.at x k
  | false => exact Heap.IsTupleIter.at x k
theorem Ik.obj {c : Bool} {h : Heap} {it l : Addr} {i : Nat} (x : Ik c h it l i) : ∃ o, h.get? it = some o ∧ ∀ v, o.data ≠ .cell v := by
  cases c with
  | true => obtain ⟨o, e, _, d⟩ := x; exact ⟨o, e, fun v z => by rw [d] at z; cases z⟩
  | false => obtain ⟨o, e, _, d⟩ := x; exact ⟨o, e, fun v z => by rw [d] at z; cases z⟩
theorem Ik.ne {c : Bool} {h : Heap} {it l : Addr} {i : Nat} {its : Array Value} (x : Ik c h it l i) (y : Qk c h l its) : l ≠ it := fun e => by
  subst e
  cases c with
  | true =>
    obtain ⟨o1, e1, c1, _⟩ := x
    obtain ⟨o2, e2, c2, _⟩ := y
    rw [e1] at e2; cases e2
    rw [c1] at c2
    injection c2 with c3
    exact absurd c3 (by decide)
  | false =>
    obtain ⟨o1, e1, c1, _⟩ := x
    obtain ⟨o2, e2, c2, _⟩ := y
    rw [e1] at e2; cases e2
    rw [c1] at c2
    injection c2 with c3
    exact absurd c3 (by decide)
theorem drawsK {prog : Program} {w : World} {A : Around} (c : Bool) (hh : A.handled = none) (it l : Addr) (hne : l ≠ it) (items : Array Value) :
    Draws prog w A it [it, l] items.size (fun i v => items[i]? = some v) (fun i h => Ik c h it l i ∧ Qk c h l items) := by
  cases c with
  | true => exact Draws.list hh it l hne items
  | false => exact Draws.tuple hh it l hne items
def objK (c : Bool) (l : Addr) : Obj := if c = true then { cls := .type "list_iterator", data := .fields #[.ref l, .int 0 0] } else { cls := .type "tuple_iterator", data := .fields #[.ref l, .int 0 0] }
theorem beginsK (c : Bool) (l : Addr) (items : Array Value) : Begins (.ref l) (objK c l) (fun h => Qk c h l items) := by
  cases c with
  | true => exact begins_list l items
  | false => exact begins_tuple l items
theorem Ik.new {c : Bool} {h : Heap} {it l : Addr} (e : h.get? it = some (objK c l)) : Ik c h it l 0 := by
  cases c with
  | true => exact ⟨_, e, rfl, rfl⟩
  | false => exact ⟨_, e, rfl, rfl⟩
/-- pairs of what stands at a and at b -/
def ItP (c d : Bool) (K : K') (a b : Addr) : L2.It where
  go := fun i H => ∃ (xs ys : List L2.V) (x y : L2.V), Hk c K H a xs ∧ Hk d K H b ys ∧ xs[i]? = some x ∧ ys[i]? = some y
  yld := fun i H v H' => ∃ T x y, v = .ref T ∧ H T = none ∧ H' = L2.upd H T (.tup [x, y]) ∧ (∀ xs, Hk c K H a xs → xs[i]? = some x) ∧ ∀ ys, Hk d K H b ys → ys[i]? = some y
  stop := fun i H => ∃ xs ys : List L2.V, Hk c K H a xs ∧ Hk d K H b ys ∧ (xs.length = i ∨ ys.length = i) ∧ i ≤ xs.length ∧ i ≤ ys.length
theorem turn_pair {P : Program} {w : World} {K : K'} {elts : List Expr} {n : Nat} {tpos : Pos} {c d : Bool} {a b z p o i1 i2 : Addr} (S : ZipSep2 z p o i1 i2 [i1, a] [i2, b]) :
    L2.Turn P w K (.Tuple elts n tpos) (ItP c d K a b) [z, p, o, i1, i2] z
      (fun i h => IsZip h z p o .none ∧ IsTupOf2 h p (.ref i1) (.ref i2) ∧ (∃ x y, IsTupOf2 h o x y) ∧ Ik c h i1 a i ∧ Ik d h i2 b i) := by
  have five : ∀ {q : Addr}, q ∈ [z, p, o, i1, i2] → q = z ∨ q = p ∨ q = o ∨ q = i1 ∨ q = i2 := fun {q} h => by simpa using h
  constructor
  case mem => simp
  case obj =>
    rintro i h ⟨hz, hp, ⟨x, y, ho⟩, h1, h2⟩ q hq
    rcases five hq with rfl | rfl | rfl | rfl | rfl
    · exact ⟨_, hz, fun v e => nomatch e⟩
    · exact ⟨_, hp, fun v e => nomatch e⟩
    · exact ⟨_, ho, fun v e => nomatch e⟩
    · exact h1.obj
    · exact h2.obj
  case keep =>
    rintro i h h' ⟨hz, hp, ⟨x, y, ho⟩, h1, h2⟩ kk
    exact ⟨kk z (by simp) _ hz, kk p (by simp) _ hp, ⟨x, y, kk o (by simp) _ ho⟩, h1.move (kk i1 (by simp)), h2.move (kk i2 (by simp))⟩
  case self => exact fun A i s Q E st q => wpAny_pyIter_zip st.1 q
  case item =>
    intro X hP hw hK hc i pins s σ H E I hf st hg
    subst hP hw hK
    obtain ⟨hz, hp, ⟨x0, y0, ho⟩, h1, h2⟩ := st
    obtain ⟨xs, ys, x, y, hx, hy, ex, ey⟩ := hg
    obtain ⟨its, rv, q1, l1⟩ := hx.plain I
    obtain ⟨its2, rv2, q2, l2⟩ := hy.plain I
    obtain ⟨u, hu, ru⟩ := rv.get ex
    obtain ⟨u2, hu2, ru2⟩ := rv2.get ey
    have lt1 : i < its.toArray.size := by simpa using (List.getElem?_eq_some_iff.mp hu).1
    have lt2 : i < its2.toArray.size := by simpa using (List.getElem?_eq_some_iff.mp hu2).1
    have n1 : a ≠ i1 := h1.ne q1
    have n2 : b ≠ i2 := h2.ne q2
    have hh : X.A.in1.handled = none := I.ok.hd hc
    refine wpAny_pyNext_zipD2_item S (drawsK c hh i1 a n1 its.toArray) (drawsK d hh i2 b n2 its2.toArray) hz hp ho ⟨h1, q1⟩ ⟨h2, q2⟩ lt1 lt2 ?_
    intro w1 w2 h' tk e1 e2 z' o' k1 k2 hT hsz kk
    have e1' : u = w1 := by
      have t : its[i]? = some w1 := by simpa using e1
      rw [hu] at t; exact Option.some.inj t
    have e2' : u2 = w2 := by
      have t : its2[i]? = some w2 := by simpa using e2
      rw [hu2] at t; exact Option.some.inj t
    subst e1' e2'
    refine ⟨_, rfl, wpAny_letOwnedTupleGo_zip (s := { s with heap := h', toks := tk }) z' fun h2' z2 sb => ?_⟩
    have zl : z < s.heap.objs.size := Heap.lt_size hz
    have hT2 : h2'.get? s.heap.objs.size = some { cls := .type "tuple", data := .seq #[u, u2] } := (sb.2 _ (Nat.ne_of_gt zl)).trans hT
    have new : L2.ObjOk X.prog X.w (L2.upd H s.heap.objs.size (.tup [x, y])) h2' s.heap.objs.size (.tup [x, y]) := ⟨(by decide : 2 ≤ sizeLine), [u, u2], .cons ru (.cons ru2 .nil), ⟨_, hT2, rfl, _, rfl⟩⟩
    have old : ∀ q ob, q ∉ [z, p, o, i1, i2] → s.heap.get? q = some ob → h2'.get? q = some ob := fun q ob hq e => by
      simp only [List.mem_cons, List.not_mem_nil, or_false, not_or] at hq
      exact (sb.2 q hq.1).trans (kk q ob hq.1 hq.2.2.1 hq.2.2.2.1 hq.2.2.2.2 e)
    have I2 := I.turnedNew (h' := h2') (t' := tk) old hf (Nat.le_refl _) new
    refine ⟨.ref s.heap.objs.size, _, I2, rfl, ⟨_, x, y, rfl, I.hok.fresh (Nat.le_refl _), rfl, fun l hl => by rw [hl.same I hx]; exact ex, fun l hl => by rw [hl.same I hy]; exact ey⟩, ⟨z2, ?_, ⟨u, u2, ?_⟩, ?_, ?_⟩, fun q hq => ?_⟩
    · exact (sb.2 _ S.TIz).trans (kk _ _ S.TIz S.TITO S.TIi1 S.TIi2 hp)
    · exact (sb.2 _ S.TOz).trans o'
    · exact k1.1.move fun ob e => (sb.2 _ (Ne.symm S.zi1)).trans e
    · exact k2.1.move fun ob e => (sb.2 _ (Ne.symm S.zi2)).trans e
    · have ql : q < s.heap.objs.size := by
        rcases five hq with rfl | rfl | rfl | rfl | rfl
        · exact zl
        · exact Heap.lt_size hp
        · exact Heap.lt_size ho
        · obtain ⟨_, e, _⟩ := h1.obj; exact Heap.lt_size e
        · obtain ⟨_, e, _⟩ := h2.obj; exact Heap.lt_size e
      rw [L2.upd_ne (Nat.ne_of_lt ql)]
      exact (hf q hq).1
  case done =>
    intro X hP hw hK hc i pins s σ H E I hf st hg
    subst hP hw hK
    obtain ⟨hz, hp, ⟨x0, y0, ho⟩, h1, h2⟩ := st
    obtain ⟨xs, ys, hx, hy, hend, le1, le2⟩ := hg
    obtain ⟨its, rv, q1, l1⟩ := hx.plain I
    obtain ⟨its2, rv2, q2, l2⟩ := hy.plain I
    have n1 : a ≠ i1 := h1.ne q1
    have n2 : b ≠ i2 := h2.ne q2
    have hh : X.A.in1.handled = none := I.ok.hd hc
    have z1 := rv.length
    have z2 := rv2.length
    refine wpAny_pyNext_zipD2_end S (drawsK c hh i1 a n1 its.toArray) (drawsK d hh i2 b n2 its2.toArray) hz hp ho ⟨h1, q1⟩ ⟨h2, q2⟩ (by simp; omega) (by simp; omega) (by simp; omega) fun h' tk kk => ⟨rfl, ?_⟩
    refine I.turnedL (t' := tk) (ch := [z, p, o, i1, i2]) (fun q ob hq e => ?_) hf
    simp only [List.mem_cons, List.not_mem_nil, or_false, not_or] at hq
    exact kk q ob hq.1 hq.2.2.1 hq.2.2.2.1 hq.2.2.2.2 e
/-- zip(x, y) -/
def iZipG (K : K') (ta : L2.TA) : L2.TI := fun σ H R => ta σ H fun vs H1 => ∃ a b xs ys c d, vs = [.ref a, .ref b] ∧ Hk c K H1 a xs ∧ Hk d K H1 b ys ∧ R (ItP c d K a b) H1
theorem pi_zipG {X : L2.Cx} {e e2 : Expr} {ta : L2.TA} {p pos tpos : Pos} {elts : List Expr} {n : Nat} (hg : L2.Gl X "zip") (hm : X.mg "zip" = none) (ha : L2.PA X [e, e2] ta)
    (hs : starEach [e, e2] X.env = (false, eval e X.env) :: starEach [e2] X.env) (hpl : (backTo pos (starEach [e2] X.env)).any (·.1) = false) :
    L2.PI X (.Tuple elts n tpos) (.Call (.Name "zip" p) [e, e2] [] pos) (iZipG X.K ta) := by
  constructor
  intro pins s σ H R I h
  refine Call_ (L2.ld_blt I hg hm PyProof.Rows.boot_zip (PyProof.Rows.callWith_type1 (L2.thn (ha.run pos pins s σ H _ I h) ?_) hs hpl))
  rintro us s1 ⟨vs, H1, I1, r1, a, b, xs, ys, c, d, rfl, hx, hy, q⟩
  obtain ⟨u1, u2, rfl, e1, e2⟩ := L2.vals2 r1
  obtain rfl : u1 = Value.ref a := e1
  obtain rfl : u2 = Value.ref b := e2
  obtain ⟨its, _, p1, l1⟩ := hx.plain I1
  obtain ⟨its2, _, p2, l2⟩ := hy.plain I1
  refine zip_begins2 (beginsK c a its.toArray) (beginsK d b its2.toArray) p1 p2 fun h' hz hp ho g1 g2 hsz kk => wpAny_pyIter_zip hz ?_
  have sep : ZipSep2 (s1.heap.objs.size + 4) (s1.heap.objs.size + 2) (s1.heap.objs.size + 3) s1.heap.objs.size (s1.heap.objs.size + 1) [s1.heap.objs.size, a] [s1.heap.objs.size + 1, b] :=
    zip_sep2 (fun q hq => by rw [List.mem_singleton.mp hq]; exact l1) (fun q hq => by rw [List.mem_singleton.mp hq]; exact l2)
  refine ⟨s1.heap.objs.size + 4, _, _, _, H1, rfl, I1.kept (t' := s1.toks) kk, turn_pair sep, ⟨hz, hp, ⟨_, _, ho⟩, .new g1, .new g2⟩, fun q hq => ?_, q⟩
  have hle : s1.heap.objs.size ≤ q := by
    have hq' : q = s1.heap.objs.size + 4 ∨ q = s1.heap.objs.size + 2 ∨ q = s1.heap.objs.size + 3 ∨ q = s1.heap.objs.size ∨ q = s1.heap.objs.size + 1 := by simpa using hq
    rcases hq' with z | z | z | z | z <;> rw [z]
    · exact Nat.le_add_right _ _
    · exact Nat.le_add_right _ _
    · exact Nat.le_add_right _ _
    · exact Nat.le_refl _
    · exact Nat.le_add_right _ _
  exact I1.fpOk hle (I1.hok.fresh hle)
section
variable {K : K'} {m : List Addr} {S : St} {H : L2.Hp}
theorem hk_of (r : RS K m S H) {x : D} {xs : List D} {v : L2.V} (h : itemsOf S x = some xs) (d : RD K m H x v) :
    ∃ c a vs, v = .ref a ∧ Hk c K H a vs ∧ RDs K m H xs vs ∧ ∀ m' S' H', (∀ a vs, L2.SqT K H a vs → L2.SqT K H' a vs) → (∀ (n : Nat) (a : Addr), m[n]? = some a → m'[n]? = some a) → RS K m' S' H' → still x xs S' → ∃ us, Hk c K H' a us ∧ RDs K m' H' xs us := by
  cases x with
  | tup ys =>
    cases h
    obtain ⟨a, vs, rfl, h1, h2⟩ := id d
    refine ⟨false, a, vs, rfl, h1, h2, fun m' S' H' hT hm r1 g => ?_⟩
    obtain ⟨a', us, e, h3, h4⟩ := d.keepG hT hm
    cases e
    exact ⟨us, h3, h4⟩
  | ref n =>
    obtain ⟨a, vs, rfl, h1, h2⟩ := seq_read r h d
    refine ⟨true, a, vs, rfl, h1, h2, fun m' S' H' hT hm r1 g => ?_⟩
    obtain ⟨a', us, e, h3, h4⟩ := seq_read r1 (show seqOf S' n = some xs from g) (d.keepG hT hm)
    cases e
    exact ⟨us, h3, h4⟩
  | _ => cases h
theorem jok_zip {a b : Addr} {c d : Bool} {x y : D} {xs ys : List D}
    (k1 : ∀ m' S' H', (∀ a vs, L2.SqT K H a vs → L2.SqT K H' a vs) → (∀ (n : Nat) (a : Addr), m[n]? = some a → m'[n]? = some a) → RS K m' S' H' → still x xs S' → ∃ us, Hk c K H' a us ∧ RDs K m' H' xs us) (k2 : ∀ m' S' H', (∀ a vs, L2.SqT K H a vs → L2.SqT K H' a vs) → (∀ (n : Nat) (a : Addr), m[n]? = some a → m'[n]? = some a) → RS K m' S' H' → still y ys S' → ∃ us, Hk d K H' b us ∧ RDs K m' H' ys us) :
    JOk K m S H (ItP c d K a b) (fun S' => still x xs S' ∧ still y ys S') (List.zipWith (fun e f => D.tup [e, f]) xs ys) := by
  intro m' S' H' hT hm r1 g
  obtain ⟨us, h1, h2⟩ := k1 m' S' H' hT hm r1 g.1
  obtain ⟨ws, h3, h4⟩ := k2 m' S' H' hT hm r1 g.2
  have l1 := h2.length
  have l2 := h4.length
  refine ⟨fun i t ht => ?_, ⟨us, ws, h1, h3, by rw [List.length_zipWith]; omega, by rw [List.length_zipWith]; omega, by rw [List.length_zipWith]; omega⟩⟩
  rw [List.getElem?_zipWith] at ht
  cases e1 : xs[i]? with
  | none => rw [e1] at ht; cases ht
  | some e =>
    cases e2 : ys[i]? with
    | none => rw [e1, e2] at ht; cases ht
    | some f =>
      rw [e1, e2] at ht
      have e3 : D.tup [e, f] = t := Option.some.inj ht
      subst e3
      obtain ⟨v, hv, dv⟩ := h2.get e1
      obtain ⟨u, hu, du⟩ := h4.get e2
      refine ⟨⟨us, ws, v, u, h1, h3, hv, hu⟩, fun q H2 hq => ?_⟩
      obtain ⟨p, v', u', rfl, hp, rfl, q1, q2⟩ := hq
      have e4 : some v = some v' := hv.symm.trans (q1 us h1)
      have e5 : some u = some u' := hu.symm.trans (q2 ws h3)
      cases e4; cases e5
      exact pair_new r1 hp dv du
end
end Flx

end
section
set_option Elab.async false
set_option linter.all false
set_option maxRecDepth 100000
set_option autoImplicit false
/-! FlxEnum: enumerate of a list or a tuple. -/
namespace Flx
open PySem PySem.Spec PyProof.Rows
set_option maxHeartbeats 1000000 in
theorem meets_enum1 {v : Value} {o : Obj} {H : Heap → Prop} (B : Begins v o H) :
    Meets (Builtin.«enumerate.__new__» ⟨[.type "enumerate", v], []⟩) (fun _ R s => H s.heap ∧
      R (.ok (.ret (.ref (s.heap.push o).objs.size))) { s with heap := (s.heap.push o).push { cls := .type "enumerate", data := .fields #[.none, .bool false, .ref s.heap.objs.size, rawInt 0, .none, .none] } }) :=
  .of_wp fun prog w A R s h => by
    obtain ⟨hp, g, d, tk, os⟩ := s; obtain ⟨h1, h⟩ := h
    have hsub := sub_enumerate
    have q1 : ∀ {A' : Around} {E : Value → Shared → Prop} {Q : Value → Shared → Prop}, Q (.ref hp.objs.size) ⟨hp.push o, g, d, tk, os⟩ → wpAny (model prog w) A' (pyIter v) Q E ⟨hp, g, d, tk, os⟩ :=
      fun q => B.iter prog w _ _ ⟨hp, g, d, tk, os⟩ _ h1 q
    wp_walk using q1
    refine wpAny_stack_any fun st => wpAny_pure ?_
    split
    · rename_i c _ _ _ _ _
      cases (c == Value.type "enumerate")
      · wp_walk using q1
        exact ⟨_, rfl, h⟩
      · wp_walk using q1
        exact ⟨_, rfl, h⟩
    · wp_walk using q1
      exact ⟨_, rfl, h⟩
theorem enum_begins1 {prog : Program} {w : World} {A : Around} {E : Value → Shared → Prop} {s : Shared} {v : Value} {o : Obj} {H : Heap → Prop} {Q : Value → Shared → Prop} (B : Begins v o H) (h1 : H s.heap)
    (h : ∀ h', IsEnum h' (s.heap.objs.size + 1) s.heap.objs.size 0 .none → h'.get? s.heap.objs.size = some o → h'.objs.size = s.heap.objs.size + 2 →
      (∀ b o, s.heap.get? b = some o → h'.get? b = some o) → Q (.ref (s.heap.objs.size + 1)) { s with heap := h' }) :
    wpAny (model prog w) A (call (.type "enumerate") [v]) Q E s := by
  refine callType_new F.called_enumerate (by decide) (F.typeCall_enumerate_1 _) (F.newCall_enumerate_1 _) (fun obj => F.args_object_init_2 obj _) F.entry_enumerate_new (meets_enum1 B) ⟨h1, ?_⟩
  have hz : (s.heap.push o).objs.size = s.heap.objs.size + 1 := Heap.size_push ..
  show _ ∧ _
  rw [hz]
  have he : IsEnum ((s.heap.push o).push { cls := .type "enumerate", data := .fields #[.none, .bool false, .ref s.heap.objs.size, rawInt 0, .none, .none] }) (s.heap.objs.size + 1) s.heap.objs.size 0 .none := by
    have := Heap.get?_push_size (s.heap.push o) (o := { cls := .type "enumerate", data := .fields #[.none, .bool false, .ref s.heap.objs.size, rawInt 0, .none, .none] }) rfl
    rw [hz] at this; exact this
  refine ⟨⟨_, he, rfl⟩, h _ he (Heap.get?_push_of_some _ (Heap.get?_push_size _ B.free)) (by rw [Heap.size_push, hz]) fun b o x => Heap.get?_push_of_some _ (Heap.get?_push_of_some _ x)⟩
/-- numbered items of what stands at a -/
def ItE (c : Bool) (K : K') (a : Addr) : L2.It where
  go := fun i H => ∃ (xs : List L2.V) (x : L2.V), Hk c K H a xs ∧ xs[i]? = some x
  yld := fun i H v H' => ∃ T x, v = .ref T ∧ H T = none ∧ H' = L2.upd H T (.tup [.int (i : Nat), x]) ∧ ∀ xs, Hk c K H a xs → xs[i]? = some x
  stop := fun i H => ∃ xs : List L2.V, Hk c K H a xs ∧ xs.length = i
theorem turn_enumG {P : Program} {w : World} {K : K'} {elts : List Expr} {n : Nat} {tpos : Pos} {c : Bool} {a e it : Addr} (hne : e ≠ it) (hea : e ≠ a) :
    L2.Turn P w K (.Tuple elts n tpos) (ItE c K a) [e, it] e (fun i h => (∃ old, IsEnum h e it ((i : Nat) : Int) old) ∧ Ik c h it a i) := by
  have two : ∀ {q : Addr}, q ∈ [e, it] → q = e ∨ q = it := fun {q} h => by simpa using h
  constructor
  case mem => simp
  case obj =>
    rintro i h ⟨⟨old, he⟩, h1⟩ q hq
    rcases two hq with rfl | rfl
    · exact ⟨_, he, fun v e => nomatch e⟩
    · exact h1.obj
  case keep =>
    rintro i h h' ⟨⟨old, he⟩, h1⟩ kk
    exact ⟨⟨old, kk e (by simp) _ he⟩, h1.move (kk it (by simp))⟩
  case self => exact fun A i s Q E st q => let ⟨⟨_, he⟩, _⟩ := st; wpAny_pyIter_enum he q
  case item =>
    intro X hP hw hK hc i pins s σ H E I hf st hg
    subst hP hw hK
    obtain ⟨⟨old, he⟩, h1⟩ := st
    obtain ⟨xs, x, hx, ex⟩ := hg
    obtain ⟨its, rv, q1, l1⟩ := hx.plain I
    obtain ⟨u, hu, ru⟩ := rv.get ex
    have lt1 : i < its.toArray.size := by simpa using (List.getElem?_eq_some_iff.mp hu).1
    have n1 : a ≠ it := h1.ne q1
    have hh : X.A.in1.handled = none := I.ok.hd hc
    have hel : e < s.heap.objs.size := Heap.lt_size he
    have hil : it < s.heap.objs.size := by obtain ⟨_, e, _⟩ := h1.obj; exact Heap.lt_size e
    refine wpAny_pyNext_enum_itemD (drawsK c hh it a n1 its.toArray) he ⟨h1, q1⟩ lt1 hne (by simp [hne, hea]) ?_
    intro w1 h' tk e1 ho hst' hT hsz kk
    have e1' : u = w1 := by
      have t : its[i]? = some w1 := by simpa using e1
      rw [hu] at t; exact Option.some.inj t
    subst e1'
    refine ⟨_, rfl, wpAny_letOwnedTupleGo_enum (s := { s with heap := h', toks := tk + 1 }) ho fun h'' he' sb => ?_⟩
    have hT2 : h''.get? s.heap.objs.size = some { cls := .type "tuple", data := .seq #[.int i tk, u] } := (sb.2 _ (Nat.ne_of_gt hel)).trans hT
    have new : L2.ObjOk X.prog X.w (L2.upd H s.heap.objs.size (.tup [.int (i : Nat), x])) h'' s.heap.objs.size (.tup [.int (i : Nat), x]) :=
      ⟨by show 2 ≤ sizeLine; decide, [.int i tk, u], .cons ⟨_, rfl⟩ (.cons ru .nil), ⟨_, hT2, rfl, _, rfl⟩⟩
    have I1 := I.turnedNew (h' := h'') (t' := tk + 1) (ch := [e, it]) (fun b ob hb q => (sb.2 b (fun z => hb (by simp [z]))).trans (kk b ob (fun z => hb (by simp [z])) (fun z => hb (by simp [z])) q)) hf (Nat.le_refl _) new
    refine ⟨.ref s.heap.objs.size, _, I1, rfl, ⟨_, x, rfl, I.hok.fresh (Nat.le_refl _), rfl, fun ys hy => by rw [hy.same I hx]; exact ex⟩, ⟨⟨u, ?_⟩, hst'.1.move fun o q => (sb.2 it (Ne.symm hne)).trans q⟩, fun b hb => ?_⟩
    · have e1 : ((i + 1 : Nat) : Int) = (i : Int) + 1 := by omega
      rw [e1]; exact he'
    · have hb' : b < s.heap.objs.size := by
        rcases two hb with z | z
        · rw [z]; exact hel
        · rw [z]; exact hil
      rw [L2.upd_ne (Nat.ne_of_lt hb')]
      exact (hf b hb).1
  case done =>
    intro X hP hw hK hc i pins s σ H E I hf st hg
    subst hP hw hK
    obtain ⟨⟨old, he⟩, h1⟩ := st
    obtain ⟨xs, hx, hend⟩ := hg
    obtain ⟨its, rv, q1, l1⟩ := hx.plain I
    have n1 : a ≠ it := h1.ne q1
    have hh : X.A.in1.handled = none := I.ok.hd hc
    obtain ⟨f0, f1, f2, f3, f4, f5⟩ := hf it (by simp)
    have z1 := rv.length
    have hi : i = its.toArray.size := by simp; omega
    rw [hi] at h1
    exact wpAny_pyNext_enum_endD (drawsK c hh it a n1 its.toArray) he ⟨h1, q1⟩ fun h' eb => ⟨rfl, I.turned (t' := s.toks) (fun b o hb q => eb b o hb q) f0 f1 f3 f4 f5⟩
/-- enumerate(x) -/
def iEnmG (K : K') (ta : L2.TA) : L2.TI := fun σ H R => ta σ H fun vs H1 => ∃ a xs c, vs = [.ref a] ∧ Hk c K H1 a xs ∧ R (ItE c K a) H1
theorem pi_enumG {X : L2.Cx} {e : Expr} {ta : L2.TA} {p pos tpos : Pos} {elts : List Expr} {n : Nat} (hg : L2.Gl X "enumerate") (hm : X.mg "enumerate" = none) (ha : L2.PA X [e] ta) (hs : starEach [e] X.env = [(false, eval e X.env)]) :
    L2.PI X (.Tuple elts n tpos) (.Call (.Name "enumerate" p) [e] [] pos) (iEnmG X.K ta) := by
  constructor
  intro pins s σ H R I h
  refine Call_ (L2.ld_blt I hg hm PyProof.Rows.boot_enumerate (PyProof.Rows.callWith_type1 (L2.thn (ha.run pos pins s σ H _ I h) ?_) hs rfl))
  rintro us s1 ⟨vs, H1, I1, r1, a, xs, c, rfl, hx, q⟩
  obtain ⟨u1, rfl, e1⟩ := L2.vals1 r1
  obtain rfl : u1 = Value.ref a := e1
  obtain ⟨its, _, p1, l1⟩ := hx.plain I1
  refine enum_begins1 (beginsK c a its.toArray) p1 fun h' he g1 hsz kk => wpAny_pyIter_enum he ?_
  refine ⟨s1.heap.objs.size + 1, [s1.heap.objs.size + 1, s1.heap.objs.size], _, _, H1, rfl, I1.kept (t' := s1.toks) kk, turn_enumG (Nat.succ_ne_self _) (Nat.ne_of_gt (Nat.lt_succ_of_lt l1)), ⟨⟨.none, he⟩, .new g1⟩, fun q hq => ?_, q⟩
  have hle : s1.heap.objs.size ≤ q := by
    have hq' : q = s1.heap.objs.size + 1 ∨ q = s1.heap.objs.size := by simpa using hq
    rcases hq' with z | z <;> rw [z]
    · exact Nat.le_add_right _ _
    · exact Nat.le_refl _
  exact I1.fpOk hle (I1.hok.fresh hle)
section
variable {K : K'} {m : List Addr} {S : St} {H : L2.Hp}
theorem jok_enumG {a : Addr} {c : Bool} {x : D} {xs : List D}
    (k1 : ∀ m' S' H', (∀ a vs, L2.SqT K H a vs → L2.SqT K H' a vs) → (∀ (n : Nat) (a : Addr), m[n]? = some a → m'[n]? = some a) → RS K m' S' H' → still x xs S' → ∃ us, Hk c K H' a us ∧ RDs K m' H' xs us) :
    JOk K m S H (ItE c K a) (still x xs) ((List.range xs.length).zipWith (fun i d => .tup [.int (i : Nat), d]) xs) := by
  intro m' S' H' hT hm r1 g
  obtain ⟨us, h1, h2⟩ := k1 m' S' H' hT hm r1 g
  have l1 := h2.length
  refine ⟨fun i t ht => ?_, ⟨us, h1, by rw [List.length_zipWith, List.length_range]; omega⟩⟩
  rw [List.getElem?_zipWith] at ht
  cases e1 : xs[i]? with
  | none =>
    rw [e1] at ht
    cases e2 : (List.range xs.length)[i]? with
    | none => rw [e2] at ht; cases ht
    | some j => rw [e2] at ht; cases ht
  | some e =>
    have hi := (List.getElem?_eq_some_iff.mp e1).1
    rw [e1, List.getElem?_range hi] at ht
    have e3 : D.tup [.int (i : Nat), e] = t := Option.some.inj ht
    subst e3
    obtain ⟨v, hv, dv⟩ := h2.get e1
    refine ⟨⟨us, v, h1, hv⟩, fun q H2 hq => ?_⟩
    obtain ⟨p, v', rfl, hp, rfl, q1⟩ := hq
    have e4 : some v = some v' := hv.symm.trans (q1 us h1)
    cases e4
    exact pair_new r1 hp (show RD K m' H' (.int (i : Nat)) (.int (i : Nat)) from rfl) dv
end
end Flx

end
section
set_option Elab.async false
set_option linter.all false
set_option maxRecDepth 100000
set_option autoImplicit false
/-! FlxDcm: name = {k: v for ..} on one line, the name a local. -/
namespace L2
open PySem PySem.Spec PyProof.Rows
variable {X : Cx}
theorem ps_setDc {i : Nat} {y : Str} {py : Pos} {kx vx tg iter : Expr} {ifs : List Expr} {scope : Scope} {own : List (Str × Nat)} {pos spos : Pos} {wi : TI} {g : TG} {tt : TT} {tk tv : TE} (hc : X.calm = true) (hN : X.N.Nodup) (hy : X.N[i]? = some y) (hyl : X.env.scope.names.lookup y = some .local)
    (hsw : swapsWith (.DictComp kx vx [⟨tg, iter, ifs, 0⟩] scope pos) (some (.Name y py)) spos.line X.env = pure true) (hi : PI X tg iter wi) (ok : BlkOk X.N X.env.scope scope own)
    (hg : ∀ (s : Shared) (H : Hp) (C : Addr) (cl : List (Str × Addr)) (fp : List Addr), PG (X.blk s H scope (compEnvC scope cl C X.env) fp) tg g) (ht : ∀ (s : Shared) (H : Hp) (C : Addr) (cl : List (Str × Addr)) (fp : List Addr), PTs (X.blk s H scope (compEnvC scope cl C X.env) fp) ifs tt)
    (hk : ∀ (s : Shared) (H : Hp) (C : Addr) (cl : List (Str × Addr)) (fp : List Addr), PE (X.blk s H scope (compEnvC scope cl C X.env) fp) kx tk)
    (he : ∀ (s : Shared) (H : Hp) (C : Addr) (cl : List (Str × Addr)) (fp : List Addr), PE (X.blk s H scope (compEnvC scope cl C X.env) fp) vx tv) (hs : ∀ x, foldedSetIterable iter X.env x = pure x := by intro _; rfl) :
    PS X (.Assign [.Name y py] (.DictComp kx vx [⟨tg, iter, ifs, 0⟩] scope pos) spos) (tAsg (tDc wi g tt tk tv (own.map (·.2))) (gName i)) := by
  refine ⟨fun pins s σ H D I h => ?_⟩
  rw [exec_Assign_Name_used _ _ _ _ hsw]
  refine wpAny_bind (wpAny_standAt (wpAny_bind ?_))
  show wpAny _ X.A (do let _ ← comprehension (.DictComp kx vx [⟨tg, iter, ifs, 0⟩] scope pos) scope X.env (firstIterPos [⟨tg, iter, ifs, 0⟩] pos) newDict false (eval iter X.env) (some (assign (.Name y py) X.env))) _ _ s
  have h : tDc wi g tt tk tv (own.map (·.2)) σ H (fun x H1 => gName i x σ H1 D.nx) := h
  refine wpAny_bind (thn (dc_core (Qf := fun _ s' => SP X pins D .next s') hc hN I hi ok hg ht hk he hs h fun L C s' m H' I' q hn f => ?_) fun _ s' hq => wpAny_pure (wpAny_pure hq))
  show wpAny _ _ (assign (.Name y py) X.env (.ref L)) _ _ _
  refine wpAny_assign_Name (store_ok2 (v := V.ref L) I' hN hy (.inl hyl) rfl (fun s2 I2 ⟨a, sb, ha⟩ => ?_) (.inr hyl))
  obtain ⟨f0, f1, f2, f3, f4, f5⟩ := f
  have haC : C ≠ a := by
    rcases ha with z | z
    · rw [z]; exact f1
    · exact fun e => f4 y a z e.symm
  refine ⟨m, hn.sameBut sb haC, fun h3 sb3 => ?_⟩
  exact ⟨_, H', I2.turned (t' := s2.toks) (fun b o hb e => (sb3.2 b hb).trans e) f0 f1 f3 f4 f5, q⟩
end L2

end
section
set_option Elab.async false
set_option linter.all false
set_option maxRecDepth 100000
set_option autoImplicit false
/-! FlxChk: is this text of the pure language that text of Python? Looks by computation; facts of the forms. -/
namespace Flx
open PySem PySem.Spec PyProof.Rows

def visB (sc : Scope) (x : Str) : Bool :=
  match sc.names.lookup x with
  | some .local => true
  | some .cell => true
  | some .free => true
  | _ => false
def glB (sc : Scope) (x : Str) : Bool :=
  match sc.names.lookup x with
  | some .globalImplicit => true
  | _ => false
/-- may be stored to; fb: the names whose cells are this block's own -/
def locB (sc : Scope) (fb : Str → Bool) (x : Str) : Bool :=
  match sc.names.lookup x with
  | some .local => true
  | some .cell => fb x
  | _ => false
def isStar : Expr → Bool
  | .Starred _ _ => true
  | _ => false
def isSlice : Expr → Bool
  | .Slice _ _ _ _ => true
  | _ => false
def isSet : Expr → Bool
  | .Set _ _ _ => true
  | _ => false
def isCall : Expr → Bool
  | .Call _ _ _ _ => true
  | _ => false
/-- its test is its value's truth -/
def plainT : Expr → Bool
  | .UnaryOp .Not _ _ => false
  | .BoolOp _ _ _ => false
  | .IfExp _ _ _ _ => false
  | .Compare _ _ _ _ => false
  | _ => true
def dunder (x : Str) : Bool := x == ("__debug__" : Str) || x == ("__classdict__" : Str) || x == ("__name__" : Str)
def bltName : Blt → Str
  | .len => "len" | .abs => "abs" | .int => "int" | .max => "max" | .min => "min" | .sum => "sum"
  | .tuple => "tuple" | .list => "list" | .any => "any" | .all => "all" | .str => "str" | .sorted => "sorted"
def tyName : Ty → Str
  | .tuple => "tuple" | .list => "list" | .str => "str" | .int => "int" | .bool => "bool"
def mthName : Mth → Str
  | .append => "append" | .insert => "insert" | .pop => "pop" | .extend => "extend" | .index => "index"
def smthName : SMth → Str
  | .split => "split"
def builtins : List Str := ["len", "abs", "int", "max", "min", "sum", "tuple", "list", "any", "all", "str", "sorted", "bool", "isinstance", "range", "enumerate", "zip", "reversed"]

def isTp : Tg → Bool
  | .tp _ => true
  | .nm _ => false
section
variable (T : List FDef) (N : List Str)
mutual
def chkG (sc : Scope) (fb : Str → Bool) : Tg → Expr → Bool
  | .nm i, e => match e with
    | .Name x _ => decide (N[i]? = some x) && locB sc fb x
    | _ => false
  | .tp ts, e => match e with
    | .Tuple l _ _ => chkGs sc fb ts l
    | _ => false
def chkGs (sc : Scope) (fb : Str → Bool) : Tgs → List Expr → Bool
  | .nil, l => l.isEmpty
  | .cons t ts, l => match l with
    | e :: r => !isStar e && chkG sc fb t e && chkGs sc fb ts r
    | [] => false
end
mutual
def chkE (sc : Scope) : Ex → Expr → Bool
  | .var i, e => match e with
    | .Name x _ => decide (N[i]? = some x) && visB sc x && !dunder x
    | _ => false
  | .cint k, e => match e with
    | .Constant (.int j) _ _ => decide (k = j)
    | _ => false
  | .cstr k, e => match e with
    | .Constant (.str j) _ _ => decide (k = j)
    | _ => false
  | .cbl k, e => match e with
    | .Constant (.bool j) _ _ => k == j
    | _ => false
  | .cnon, e => match e with
    | .Constant .none _ _ => true
    | _ => false
  | .bin op a b, e => match e with
    | .BinOp x o y _ => decide (opOf op = o) && chkE sc a x && chkE sc b y
    | _ => false
  | .neg a, e => match e with
    | .UnaryOp .USub x _ => chkE sc a x
    | _ => false
  | .cmp op a b, e => match e with
    | .Compare x [o] [y] _ => decide (copOf op = o) && chkE sc a x && chkE sc b y && !isSet y
    | _ => false
  | .cmp2 op op' a b c, e => match e with
    | .Compare x [o, o'] [y, z] _ => decide (copOf op = o) && decide (copOf op' = o') && chkE sc a x && chkE sc b y && chkE sc c z && !isSet z
    | _ => false
  | .cmp3 op op' op2 a b c d, e => match e with
    | .Compare x [o, o', o2] [y, z, w] _ => decide (copOf op = o) && decide (copOf op' = o') && decide (copOf op2 = o2) && chkE sc a x && chkE sc b y && chkE sc c z && chkE sc d w && !isSet w
    | _ => false
  | .and a b, e => match e with
    | .BoolOp .And [x, y] _ => chkE sc a x && chkE sc b y
    | .BoolOp .And (x :: y :: z :: r) p => chkE sc a x && chkE sc b (.BoolOp .And (y :: z :: r) p)
    | _ => false
  | .or a b, e => match e with
    | .BoolOp .Or [x, y] _ => chkE sc a x && chkE sc b y
    | .BoolOp .Or (x :: y :: z :: r) p => chkE sc a x && chkE sc b (.BoolOp .Or (y :: z :: r) p)
    | _ => false
  | .not a, e => match e with
    | .UnaryOp .Not x _ => chkE sc a x
    | _ => false
  | .ite c a b, e => match e with
    | .IfExp x y z _ => chkE sc c x && chkT sc c x && chkE sc a y && chkE sc b z
    | _ => false
  | .tup es, e => match e with
    | .Tuple l _ _ => chkEs sc es l
    | _ => false
  | .lst es, e => match e with
    | .List l _ => chkEs sc es l
    | _ => false
  | .ix a b, e => match e with
    | .Subscript x y _ => chkE sc a x && chkE sc b y && !isSlice y
    | _ => false
  | .sl a lo hi, e => match e with
    | .Subscript x (.Slice l h none _) _ => chkE sc a x && chkO sc lo l && chkO sc hi h
    | _ => false
  | .call f es, e => match e with
    | .Call (.Name x _) l [] _ => (match T[f]? with | some fd => decide (fd.name = x) && decide (fd.np = l.length) | none => false) && glB sc x && !dunder x && !l.isEmpty && chkEs sc es l
    | _ => false
  | .blt f es, e => match e with
    | .Call (.Name x _) l [] _ => decide (bltName f = x) && glB sc x && !l.isEmpty && chkEs sc es l
    | _ => false
  | .isi a t, e => match e with
    | .Call (.Name x _) [y, .Name z _] [] _ => decide (("isinstance" : Str) = x) && glB sc x && decide (tyName t = z) && glB sc z && chkE sc a y && !isStar y
    | _ => false
  | .mth m o es, e => match e with
    | .Call (.Attribute x n ap) l [] cp => decide (mthName m = n) && chkE sc o x && !isCall x && (ap.endLine == cp.line) && decide (l.length < 20) && chkEs sc es l
    | _ => false
  | .smt m o a, e => match e with
    | .Call (.Attribute x n ap) [y] [] cp => decide (smthName m = n) && chkE sc o x && !isCall x && (ap.endLine == cp.line) && chkE sc a y && !isStar y
    | _ => false
  | .dnw, e => match e with
    | .Dict [] [] _ => true
    | _ => false
  | .dsp a b, e => match e with
    | .Dict [some x] [y] _ => chkE sc a x && chkE sc b y
    | _ => false
  | .dix a b, e => match e with
    | .Subscript x y _ => chkE sc a x && chkE sc b y && !isSlice y
    | _ => false
  | .dgt a b c, e => match e with
    | .Call (.Attribute x n ap) [y, z] [] cp => decide (("get" : Str) = n) && chkE sc a x && !isCall x && (ap.endLine == cp.line) && chkE sc b y && !isStar y && chkE sc c z && !isStar z
    | _ => false
  | .dsr a, e => match e with
    | .Call (.Name x _) [y] [] _ => decide (("sorted" : Str) = x) && glB sc x && chkE sc a y && !isStar y
    | _ => false
  | .dcm k v tg it own, e => match e with
    | .DictComp x y [⟨t, i, [], 0⟩] scope _ => L2.blkC N sc scope (own.map fun j => (N.getD j "", j)) && tgIn own tg && chkG N (L2.relS scope sc) (fun x => scope.names.lookup x == some .cell) tg t &&
        chkI sc tg it i && !isSet i && chkE (L2.relS scope sc) k x && chkE (L2.relS scope sc) v y
    | _ => false
  | .din neg a b, e => match e with
    | .Compare x [o] [y] _ => decide ((if neg then CmpOp.NotIn else CmpOp.In) = o) && chkE sc a x && chkE sc b y && !isSet y
    | _ => false
  | .sup o, e => match e with
    | .Call (.Attribute x n ap) [] [] cp => decide (("upper" : Str) = n) && chkE sc o x && !isCall x && (ap.endLine == cp.line)
    | _ => false
  | .lc2 elt tg it ifs tg1 it1 ifs1 own vs1, e => match e with
    | .ListComp y [⟨t, i, fs, 0⟩, ⟨t1, i1, fs1, 0⟩] scope _ => L2.blkC N sc scope (own.map fun j => (N.getD j "", j)) && tgIn own tg && chkG N (L2.relS scope sc) (fun x => scope.names.lookup x == some .cell) tg t &&
        chkI sc tg it i && !isSet i && chkC (L2.relS scope sc) ifs fs && chkE (L2.relS scope sc) elt y &&
        chkG N (L2.relS scope sc) (fun x => scope.names.lookup x == some .cell) tg1 t1 && chkI (L2.relS scope sc) tg1 it1 i1 && chkC (L2.relS scope sc) ifs1 fs1 && tgIn vs1 tg1 && (vs1.all fun j => own.contains j) && !isSet i1
    | _ => false
  | .lrg es, e => match e with
    | .Call (.Name x _) [.Call (.Name y _) l [] _] [] _ => decide (("list" : Str) = x) && glB sc x && decide (("range" : Str) = y) && glB sc y && chkEs sc es l && (l.length == 1 || l.length == 2)
    | _ => false
  | .lc elt tg it ifs own, e => match e with
    | .ListComp y [⟨t, i, fs, 0⟩] scope _ => L2.blkC N sc scope (own.map fun j => (N.getD j "", j)) && tgIn own tg && chkG N (L2.relS scope sc) (fun x => scope.names.lookup x == some .cell) tg t &&
        chkI sc tg it i && !isSet i && chkC (L2.relS scope sc) ifs fs && chkE (L2.relS scope sc) elt y
    | _ => false
/-- as a test -/
def chkT (sc : Scope) : Ex → Expr → Bool
  | .and a b, e => match e with
    | .BoolOp .And [x, y] _ => chkT sc a x && chkT sc b y
    | .BoolOp .And (x :: y :: z :: r) p => chkT sc a x && chkT sc b (.BoolOp .And (y :: z :: r) p)
    | _ => false
  | .or a b, e => match e with
    | .BoolOp .Or [x, y] _ => chkT sc a x && chkT sc b y
    | .BoolOp .Or (x :: y :: z :: r) p => chkT sc a x && chkT sc b (.BoolOp .Or (y :: z :: r) p)
    | _ => false
  | .not a, e => match e with
    | .UnaryOp .Not x _ => chkT sc a x
    | _ => false
  | .cmp _ _ _, e => match e with
    | .Compare _ _ _ _ => true
    | _ => false
  | .cmp2 _ _ _ _ _, e => match e with
    | .Compare _ _ _ _ => true
    | _ => false
  | .din _ _ _, e => match e with
    | .Compare _ _ _ _ => true
    | _ => false
  | .cmp3 _ _ _ _ _ _ _, e => match e with
    | .Compare _ _ _ _ => true
    | _ => false
  | _, e => plainT e
def chkI (sc : Scope) (tg : Tg) : It → Expr → Bool
  | .seq x, e => chkE sc x e
  | .rng es, e => match e with
    | .Call (.Name y _) l [] _ => decide (("range" : Str) = y) && glB sc y && chkEs sc es l && (l.length == 1 || l.length == 2)
    | _ => false
  | .rgd a b, e => match e with
    | .Call (.Name y _) [u, v, .UnaryOp .USub (.Constant (.int 1) _ _) _] [] _ => decide (("range" : Str) = y) && glB sc y && chkE sc a u && !isStar u && chkE sc b v && !isStar v
    | _ => false
  | .enm x, e => match e with
    | .Call (.Name y _) [z] [] _ => decide (("enumerate" : Str) = y) && glB sc y && chkE sc x z && !isStar z && isTp tg
    | _ => false
  | .zip a b, e => match e with
    | .Call (.Name y _) [z, w] [] _ => decide (("zip" : Str) = y) && glB sc y && chkE sc a z && !isStar z && chkE sc b w && !isStar w && isTp tg
    | _ => false
  | .rev x, e => match e with
    | .Call (.Name y _) [z] [] _ => decide (("reversed" : Str) = y) && glB sc y && chkE sc x z && !isStar z
    | _ => false
def chkEs (sc : Scope) : Exs → List Expr → Bool
  | .nil, l => l.isEmpty
  | .cons x xs, l => match l with
    | e :: r => !isStar e && chkE sc x e && chkEs sc xs r
    | [] => false
def chkO (sc : Scope) : ExO → Option Expr → Bool
  | .none, o => o.isNone
  | .some x, o => match o with
    | some e => chkE sc x e
    | none => false
def chkC (sc : Scope) : Exs → List Expr → Bool
  | .nil, l => l.isEmpty
  | .cons x .nil, l => match l with
    | [e] => chkE sc x e && chkT sc x e
    | _ => false
  | .cons _ (.cons _ _), _ => false
end
/-- a stored value that is exchanged with the comprehension's variables -/
def swB (sc : Scope) (x : Str) (xp : Pos) : Expr → Bool
  | .ListComp _ _ scope p => (match sc.names.lookup x with | some .local => true | _ => false) && (xp.line == p.line) && !(scope.names.any fun (n, k) => n == x && (k == .local || k == .cell))
  | _ => false
def isComp : Expr → Bool
  | .ListComp _ _ _ _ => true
  | .SetComp _ _ _ _ => true
  | .DictComp _ _ _ _ _ => true
  | _ => false
def isLC : Expr → Bool
  | .ListComp _ _ _ _ => true
  | _ => false
def isDC : Expr → Bool
  | .DictComp _ _ _ _ _ => true
  | _ => false
def isTup : Expr → Bool
  | .Tuple _ _ _ => true
  | _ => false
/-- two or three plain local names of one line -/
def parB (N : List Str) (sc : Scope) : List Nat → List Expr → Bool
  | [i, j], [.Name x px, .Name y py] => decide (N[i]? = some x) && decide (N[j]? = some y) && !(i == j) && !(x == y) && (sc.names.lookup x == some .local) && (sc.names.lookup y == some .local) && (py.line == px.line)
  | [i, j, l], [.Name x px, .Name y py, .Name z pz] => decide (N[i]? = some x) && decide (N[j]? = some y) && decide (N[l]? = some z) && !(i == j) && !(i == l) && !(j == l) && !(x == y) && !(x == z) && !(y == z) && (sc.names.lookup x == some .local) && (sc.names.lookup y == some .local) && (sc.names.lookup z == some .local) && (py.line == px.line) && (pz.line == px.line)
  | _, _ => false
mutual
def chkS (sc : Scope) : Sm → Stmt → Bool
  | .set i x, s => match s with
    | .Assign [.Name y yp] e _ => decide (N[i]? = some y) && locB sc (fun _ => true) y && chkE T N sc x e && (!isComp e || isLC e || isDC e)
    | _ => false
  | .setT ts x, s => match s with
    | .Assign [.Tuple l _ _] e _ => chkGs N sc (fun _ => true) ts l && chkE T N sc x e && !isComp e && !isTup e
    | _ => false
  | .par is es, s => match s with
    | .Assign [.Tuple l _ _] (.Tuple r _ _) _ => parB N sc is l && chkEs T N sc es r && decide (r.length = l.length) && !(r.all (foldedForSure 8)) && !(r.all (constantsAlone 8))
    | _ => false
  | .setIx o i x, s => match s with
    | .Assign [.Subscript y z _] e _ => chkE T N sc x e && !isComp e && chkE T N sc o y && chkE T N sc i z && !isSlice z
    | _ => false
  | .setDx o i x, s => match s with
    | .Assign [.Subscript y z _] e _ => chkE T N sc x e && !isComp e && chkE T N sc o y && chkE T N sc i z && !isSlice z
    | _ => false
  | .ex x, s => match s with
    | .Expr e _ => chkE T N sc x e && isCall e
    | _ => false
  | .ite c a b, s => match s with
    | .If x p q _ => chkE T N sc c x && chkT T N sc c x && chkSs sc a p && chkSs sc b q
    | _ => false
  | .for tg it b, s => match s with
    | .For t i p [] _ => chkG N sc (fun _ => true) tg t && chkI T N sc tg it i && !isSet i && chkSs sc b p
    | _ => false
  | .whl c b, s => match s with
    | .While x p [] _ => chkE T N sc c x && chkT T N sc c x && chkSs sc b p
    | _ => false
  | .ret x, s => match s with
    | .Return (some e) _ => chkE T N sc x e
    | _ => false
  | .retN, s => match s with
    | .Return none _ => true
    | _ => false
  | .brk, s => match s with
    | .Break _ => true
    | _ => false
  | .cnt, s => match s with
    | .Continue _ => true
    | _ => false
  | .pas, s => match s with
    | .Pass _ => true
    | _ => false
def chkSs (sc : Scope) : Sms → List Stmt → Bool
  | .nil, l => l.isEmpty
  | .cons x xs, l => match l with
    | s :: r => chkS sc x s && chkSs sc xs r
    | [] => false
end
end

/-! ### facts of the forms -/
theorem star_of {e : Expr} {es : List Expr} {env : Env} (h : isStar e = false) : starEach (e :: es) env = (false, eval e env) :: starEach es env := by
  cases e <;> first | rfl | cases h
theorem assignStar_of {e : Expr} {es : List Expr} {env : Env} (h : isStar e = false) : assignEach (e :: es) env = (false, assign e env) :: assignEach es env := by
  cases e <;> first | rfl | cases h
theorem plainIx_of {e : Expr} (h : isSlice e = false) : L2.PlainIx e := by
  intro o i
  cases e <;> first | rfl | cases h
theorem plainT_of {e : Expr} {env : Env} (h : plainT e = true) (whole : Sem Value) : isTrue e env whole = (do let v ← whole; standAt e.pos; holding [v] (truthy v)) := by
  cases e with
  | UnaryOp op x p => cases op <;> first | rfl | cases h
  | _ => first | rfl | cases h
theorem set_of {e : Expr} {env : Env} (h : isSet e = false) (x : Value) : foldedSetIterable e env x = pure x := by
  cases e <;> first | rfl | cases h
theorem mark_of {op : CmpOp} {e : Expr} (h : isSet e = false) : behindInMarks op e = false := by
  cases e <;> first | rfl | cases h
theorem base_of {o : Expr} {n : Str} {env : Env} {w : Sem Value} (h : isCall o = false) : attributeBase o n env w = w := by
  cases o <;> first | rfl | cases h
theorem sw_of {e : Expr} {t : Option Expr} {l : Nat} {env : Env} (h : isComp e = false) : swapsWith e t l env = pure false := by
  cases e <;> first | rfl | cases h
/-- no star in a list -/
def noStar (l : List Expr) : Bool := l.all fun e => !isStar e
theorem noStar_chk {T : List FDef} {N : List Str} {sc : Scope} : ∀ {xs : Exs} {l : List Expr}, chkEs T N sc xs l = true → noStar l = true
  | .nil, l, h => by
    rw [chkEs] at h
    have e : l = [] := by simpa using h
    rw [e]; rfl
  | .cons x xs, [], h => by rw [chkEs] at h; cases h
  | .cons x xs, e :: r, h => by
    rw [chkEs] at h
    simp only [Bool.and_eq_true] at h
    have ih := noStar_chk h.2
    unfold noStar at ih ⊢
    rw [List.all_cons, h.1.1, ih]; rfl
theorem noStar_any {l : List Expr} {pos : Pos} {env : Env} (h : noStar l = true) : (backTo pos (starEach l env)).any (·.1) = false := by
  induction l with
  | nil => rfl
  | cons e r ih =>
    unfold noStar at h ih
    rw [List.all_cons, Bool.and_eq_true] at h
    have h1 : isStar e = false := by simpa using h.1
    rw [star_of h1]
    show (false || (backTo pos (starEach r env)).any (·.1)) = false
    rw [ih h.2]; rfl
theorem noStar_all {l : List Expr} {pos : Pos} {env : Env} (h : noStar l = true) : (backTo pos (starEach l env)).all (fun x => !x.1) = true := by
  induction l with
  | nil => rfl
  | cons e r ih =>
    unfold noStar at h ih
    rw [List.all_cons, Bool.and_eq_true] at h
    have h1 : isStar e = false := by simpa using h.1
    rw [star_of h1]
    show (!false && (backTo pos (starEach r env)).all (fun x => !x.1)) = true
    rw [ih h.2]; rfl
theorem noStar_tgs {N : List Str} {sc : Scope} {fb : Str → Bool} {env : Env} : ∀ {ts : Tgs} {l : List Expr}, chkGs N sc fb ts l = true → (assignEach l env).length = lenTgs ts ∧ (assignEach l env).findIdx? (·.1) = none
  | .nil, l, h => by
    rw [chkGs] at h
    have e : l = [] := by simpa using h
    rw [e, lenTgs]; exact ⟨rfl, rfl⟩
  | .cons x xs, [], h => by rw [chkGs] at h; cases h
  | .cons x xs, e :: r, h => by
    rw [chkGs] at h
    simp only [Bool.and_eq_true] at h
    obtain ⟨h1, h2⟩ := noStar_tgs (env := env) h.2
    have hs : isStar e = false := by simpa using h.1.1
    rw [assignStar_of hs, lenTgs, List.length_cons, h1]
    refine ⟨rfl, ?_⟩
    rw [List.findIdx?_cons, h2]
    rfl
end Flx

end
section
set_option Elab.async false
set_option linter.all false
set_option maxRecDepth 100000
set_option autoImplicit false
/-! FlxSound: what a looked-at text of the pure language asks is enough for the Python text. -/
namespace Flx
open PySem PySem.Spec PyProof.Rows

/-- a def of the table as it stands behind the top, at the level k -/
def FnAt (P : Program) (w : World) (K : K') (mg : Str → Option Value) (base : Heap) (T : List FDef) (k f : Nat) (fd : FDef) : Prop :=
  ∃ (fa : Addr) (fdata : FuncData) (ps : List Str), mg fd.name = some (.ref fa) ∧ PySem.W.keepIn K (.ref fa) = true ∧ L2.Binds K fdata ps [] ∧ ps.length = fd.np ∧ L2.FnOk P w K mg base L2.CX0 k fa fdata ps (liftSp K (callW T k f))
structure Gd (X : L2.Cx) (T : List FDef) (k : Nat) : Prop where
  room : L2.Room k X.A
  calm : X.calm = true
  nd : X.N.Nodup
  fn : ∀ (f : Nat) (fd : FDef), T[f]? = some fd → FnAt X.prog X.w X.K X.mg X.base T k f fd
  blt : ∀ x ∈ builtins, X.mg x = none
theorem Gd.blk {X : L2.Cx} {T : List FDef} {k : Nat} (G : Gd X T k) (s : Shared) (H : L2.Hp) (scope : Scope) (env : Env) (fp : List Addr) : Gd (X.blk s H scope env fp) T k := ⟨G.room, G.calm, G.nd, G.fn, G.blt⟩

section
variable (T : List FDef) (N : List Str) (k : Nat)
abbrev Cw := callW T k
def SndE (ex : Ex) : Prop := ∀ (X : L2.Cx) (e : Expr), Gd X T k → X.N = N → chkE T N X.env.scope ex e = true → L2.PE X e (liftE X.K (wE (callW T k) ex))
def SndT (ex : Ex) : Prop := ∀ (X : L2.Cx) (e : Expr), Gd X T k → X.N = N → chkE T N X.env.scope ex e = true → chkT T N X.env.scope ex e = true → L2.PT X e (liftT X.K (wT (callW T k) ex))
def SndA (es : Exs) : Prop := ∀ (X : L2.Cx) (l : List Expr), Gd X T k → X.N = N → chkEs T N X.env.scope es l = true → L2.PA X l (liftA X.K (wEs (callW T k) es))
def SndO (o : ExO) : Prop := ∀ (X : L2.Cx) (e : Option Expr), Gd X T k → X.N = N → chkO T N X.env.scope o e = true → L2.PO X e (liftO X.K (wO (callW T k) o))
def SndI (it : It) : Prop := ∀ (X : L2.Cx) (tg : Tg) (t e : Expr) (sc : Scope) (fb : Str → Bool), Gd X T k → X.N = N → chkG N sc fb tg t = true → chkI T N X.env.scope tg it e = true → L2.PI X t e (liftI X.K (wI (callW T k) it))
def SndC (es : Exs) : Prop := ∀ (X : L2.Cx) (l : List Expr), Gd X T k → X.N = N → chkC T N X.env.scope es l = true → L2.PTs X l (liftT X.K (wC (callW T k) es))
end
section
variable {T : List FDef} {N : List Str} {k : Nat}
theorem mE (ex : Ex) : MonoE (wE (callW T k) ex) := wE_mono (callW_mono T k) ex
theorem mA (ex : Exs) : MonoE (wEs (callW T k) ex) := wEs_mono (callW_mono T k) ex
theorem mO (ex : ExO) : MonoE (wO (callW T k) ex) := wO_mono (callW_mono T k) ex
theorem mT (ex : Ex) : MonoE (wT (callW T k) ex) := wT_mono (callW_mono T k) ex
theorem mC (ex : Exs) : MonoE (wC (callW T k) ex) := wC_mono (callW_mono T k) ex
theorem vis_of {sc : Scope} {x : Str} (h : visB sc x = true) : L2.Vis sc x := by
  unfold visB at h
  unfold L2.Vis
  split at h <;> first | cases h | skip
  · exact .inl (by assumption)
  · exact .inr (.inl (by assumption))
  · exact .inr (.inr (by assumption))
theorem gl_of {X : L2.Cx} {x : Str} (h : glB X.env.scope x = true) : L2.Gl X x := by
  unfold glB at h
  split at h
  · assumption
  · cases h
theorem dunder_of {x : Str} (h : dunder x = false) : (x == ("__debug__" : Str)) = false ∧ (x == ("__classdict__" : Str)) = false ∧ x ≠ ("__name__" : Str) := by
  unfold dunder at h
  simp only [Bool.or_eq_false_iff] at h
  exact ⟨h.1.1, h.1.2, fun e => by rw [e] at h; simp at h⟩
theorem truth_of {X : L2.Cx} {e : Expr} {ex : Ex} (h : L2.PE X e (liftE X.K (wE (callW T k) ex))) (hp : plainT e = true) : L2.PT X e (liftT X.K (wT (callW T k) ex)) := by
  refine pt_le (L2.pt_truth h (plainT_of hp)) fun σ H Q => ?_
  rintro ⟨m, S, σd, r, g, q⟩
  refine stepE (mE ex) r g q fun x S1 m1 H1 v x1 r1 g1 d1 h1 => ?_
  obtain ⟨b, e1, q1⟩ := h1
  exact ⟨b, tru_of r1 d1 e1, q1 _ _ x1 r1⟩

theorem snd_var (i : Nat) : SndE T N k (.var i) := by
  intro X e G hN h
  unfold chkE at h
  split at h
  · rename_i x p
    simp only [Bool.and_eq_true, decide_eq_true_eq, Bool.not_eq_true'] at h
    obtain ⟨⟨h1, h2⟩, h3⟩ := h
    obtain ⟨d1, d2, _⟩ := dunder_of h3
    refine pe_le (L2.pe_var (by rw [hN]; exact h1) (vis_of h2) d1 d2) fun σ H Q => ?_
    rintro ⟨m, S, σd, r, g, q⟩
    rw [wE] at q
    obtain ⟨d, e1, q⟩ := q
    obtain ⟨v, e2, dv⟩ := g.2 i d e1
    exact ⟨v, e2, at_once r q dv⟩
  · cases h
theorem snd_const {ex : Ex} {d : D} {v : L2.V} (hw : ∀ σ S Q, wE (callW T k) ex σ S Q → Q d S) (hd : ∀ K m H, RD K m H d v) (hc : ∀ (X : L2.Cx) (e : Expr), chkE T N X.env.scope ex e = true → L2.PE X e (L2.tC v)) : SndE T N k ex := by
  intro X e G hN h
  refine pe_le (hc X e h) fun σ H Q => ?_
  rintro ⟨m, S, σd, r, g, q⟩
  exact at_once r (hw _ _ _ q) (hd _ _ _)
theorem snd_int (i : Int) : SndE T N k (.cint i) := snd_const (v := .int i) (d := .int i) (fun σ S Q h => by rw [wE] at h; exact h) (fun _ _ _ => rfl) fun X e h => by
  unfold chkE at h
  split at h
  · have e1 := of_decide_eq_true h
    subst e1
    exact L2.pe_int
  · cases h
theorem snd_str (i : Str) : SndE T N k (.cstr i) := snd_const (v := .str i) (d := .str i) (fun σ S Q h => by rw [wE] at h; exact h) (fun _ _ _ => rfl) fun X e h => by
  unfold chkE at h
  split at h
  · have e1 := of_decide_eq_true h
    subst e1
    exact L2.pe_str
  · cases h
theorem snd_bl (i : Bool) : SndE T N k (.cbl i) := snd_const (v := .bl i) (d := .bl i) (fun σ S Q h => by rw [wE] at h; exact h) (fun _ _ _ => rfl) fun X e h => by
  unfold chkE at h
  split at h
  · have e1 := eq_of_beq h
    subst e1
    exact L2.pe_bl
  · cases h
theorem snd_non : SndE T N k .cnon := snd_const (v := .non) (d := .non) (fun σ S Q h => by rw [wE] at h; exact h) (fun _ _ _ => rfl) fun X e h => by
  unfold chkE at h
  split at h
  · exact L2.pe_non
  · cases h
theorem snd_bin {op : BOp} {a b : Ex} (ha : SndE T N k a) (hb : SndE T N k b) : SndE T N k (.bin op a b) := by
  intro X e G hN h
  unfold chkE at h
  split at h
  · simp only [Bool.and_eq_true, decide_eq_true_eq] at h
    obtain ⟨⟨rfl, h1⟩, h2⟩ := h
    refine pe_le (L2.pe_op (opBin op) (ha X _ G hN h1) (hb X _ G hN h2)) fun σ H Q => ?_
    rintro ⟨m, S, σd, r, g, q⟩
    rw [wE] at q
    exact stepE (mE a) r g q fun x S1 m1 H1 v x1 r1 g1 d1 q1 => stepE (mE b) r1 g1 q1 fun y S2 m2 H2 u x2 r2 g2 d2 q2 => bin_ok r2 (d1.keep r1 x2) d2 (binW_mono (fun _ _ p => p.shift (x1.trans x2)) q2)
  · cases h
theorem snd_neg {a : Ex} (ha : SndE T N k a) : SndE T N k (.neg a) := by
  intro X e G hN h
  unfold chkE at h
  split at h
  · refine pe_le (L2.pe_un L2.un_neg (ha X _ G hN h)) fun σ H Q => ?_
    rintro ⟨m, S, σd, r, g, q⟩
    rw [wE] at q
    refine stepE (mE a) r g q fun x S1 m1 H1 v x1 r1 g1 d1 q1 => ?_
    obtain ⟨i, rfl, q1⟩ := q1
    cases d1
    exact ⟨i, rfl, at_once r1 (q1.shift x1) rfl⟩
  · cases h
theorem snd_cmp {op : COp} {a b : Ex} (ha : SndE T N k a) (hb : SndE T N k b) : SndE T N k (.cmp op a b) := by
  intro X e G hN h
  unfold chkE at h
  split at h
  · simp only [Bool.and_eq_true, decide_eq_true_eq, Bool.not_eq_true'] at h
    obtain ⟨⟨⟨rfl, h1⟩, h2⟩, h3⟩ := h
    refine pe_le (L2.pe_cmpR (opCmp G.room op) (ha X _ G hN h1) (hb X _ G hN h2) (mark_of h3)) fun σ H Q => ?_
    rintro ⟨m, S, σd, r, g, q⟩
    rw [wE] at q
    exact stepE (mE a) r g q fun x S1 m1 H1 v x1 r1 g1 d1 q1 => stepE (mE b) r1 g1 q1 fun y S2 m2 H2 u x2 r2 g2 d2 q2 => cmp_ok r2 (d1.keep r1 x2) d2 (cmpW_mono (fun _ _ p => p.shift (x1.trans x2)) q2)
  · cases h
/-- a truth value tested -/
theorem po_bl {K : K'} {m m2 : List Addr} {S S2 : St} {H H2 : L2.Hp} {Q : Bool → L2.Hp → Prop} (x : Xt m S H m2 S2 H2) {b : Bool} {S' : St} (h : ∃ c, truD S' (.bl b) = some c ∧ PoB K m S H Q c S') :
    Po K m2 S2 H2 (fun v H' => ∃ c, v = .bl c ∧ Q c H') (.bl b) S' := by
  obtain ⟨c, e, q⟩ := h
  have e' : b = c := by simpa [truD] using e
  subst e'
  exact fun m' H' v x' r' d' => ⟨b, d', q m' H' (x.trans x') r'⟩
theorem sndT_cmp {op : COp} {a b : Ex} (ha : SndE T N k a) (hb : SndE T N k b) : SndT T N k (.cmp op a b) := by
  intro X e G hN h _
  unfold chkE at h
  split at h
  · simp only [Bool.and_eq_true, decide_eq_true_eq, Bool.not_eq_true'] at h
    obtain ⟨⟨⟨rfl, h1⟩, h2⟩, h3⟩ := h
    refine pt_le (L2.pt_cmpR (opCmp G.room op) (ha X _ G hN h1) (hb X _ G hN h2) (mark_of h3)) fun σ H Q => ?_
    rintro ⟨m, S, σd, r, g, q⟩
    unfold wT at q
    rw [wE] at q
    exact stepE (mE a) r g q fun x S1 m1 H1 v x1 r1 g1 d1 q1 => stepE (mE b) r1 g1 q1 fun y S2 m2 H2 u x2 r2 g2 d2 q2 => cmp_ok r2 (d1.keep r1 x2) d2 (cmpW_mono (fun _ _ p => po_bl (x1.trans x2) p) q2)
  · cases h
theorem chain_le {X : L2.Cx} {op op' : COp} {a b c : Ex} {m : List Addr} {S : St} {σd : Sg} {σ : L2.St} {H : L2.Hp} {Q : L2.VK} {R : QD} (r : RS X.K m S H) (g : RSg X.K m H σd σ) (hR : ∀ b S', R (.bl b) S' → Po X.K m S H Q (.bl b) S') (q : wE (callW T k) (.cmp2 op op' a b c) σd S R) :
    L2.tChain (rCmp X.K op) (rCmp X.K op') (liftE X.K (wE (callW T k) a)) (liftE X.K (wE (callW T k) b)) (liftE X.K (wE (callW T k) c)) σ H Q := by
  rw [wE] at q
  refine stepE (mE a) r g q fun x S1 m1 H1 v x1 r1 g1 d1 q1 => stepE (mE b) r1 g1 q1 fun y S2 m2 H2 u x2 r2 g2 d2 q2 => cmp_ok r2 (d1.keep r1 x2) d2 (cmpW_mono (fun b S3 p => ?_) q2)
  intro m3 H3 v3 x3 r3 d3
  refine ⟨b, d3, ?_⟩
  have x13 := (x1.trans x2).trans x3
  cases b with
  | false =>
    rw [if_neg Bool.false_ne_true] at p ⊢
    exact hR _ _ p _ _ _ x13 r3 rfl
  | true =>
    rw [if_pos rfl] at p ⊢
    exact stepE (mE c) r3 (g2.keep r2 x3) p fun z S4 m4 H4 w x4 r4 g4 d4 p4 => cmp_ok r4 ((d2.keep r2 x3).keep r3 x4) d4 (cmpW_mono (fun b' S' p' => (hR _ _ p').shift (x13.trans x4)) p4)
theorem snd_cmp2 {op op' : COp} {a b c : Ex} (ha : SndE T N k a) (hb : SndE T N k b) (hc : SndE T N k c) : SndE T N k (.cmp2 op op' a b c) := by
  intro X e G hN h
  unfold chkE at h
  split at h
  · simp only [Bool.and_eq_true, decide_eq_true_eq, Bool.not_eq_true'] at h
    obtain ⟨⟨⟨⟨⟨rfl, rfl⟩, h1⟩, h2⟩, h3⟩, h4⟩ := h
    refine pe_le (L2.pe_chain (opCmp G.room op) (opCmp G.room op') (ha X _ G hN h1) (hb X _ G hN h2) (hc X _ G hN h3) (by show behindInMarks _ _ = false; exact mark_of h4)) fun σ H Q => ?_
    rintro ⟨m, S, σd, r, g, q⟩
    exact chain_le r g (fun _ _ p => p) q
  · cases h
theorem sndT_cmp2 {op op' : COp} {a b c : Ex} (ha : SndE T N k a) (hb : SndE T N k b) (hc : SndE T N k c) : SndT T N k (.cmp2 op op' a b c) := by
  intro X e G hN h _
  unfold chkE at h
  split at h
  · simp only [Bool.and_eq_true, decide_eq_true_eq, Bool.not_eq_true'] at h
    obtain ⟨⟨⟨⟨⟨rfl, rfl⟩, h1⟩, h2⟩, h3⟩, h4⟩ := h
    refine pt_le (L2.pt_chain (opCmp G.room op) (opCmp G.room op') (ha X _ G hN h1) (hb X _ G hN h2) (hc X _ G hN h3) (by show behindInMarks _ _ = false; exact mark_of h4)) fun σ H Q => ?_
    rintro ⟨m, S, σd, r, g, q⟩
    exact chain_le r g (fun _ _ p => po_bl .refl p) q
  · cases h
theorem chain3_le {X : L2.Cx} {op op' op2 : COp} {a b c d : Ex} {m : List Addr} {S : St} {σd : Sg} {σ : L2.St} {H : L2.Hp} {Q : L2.VK} {R : QD} (r : RS X.K m S H) (g : RSg X.K m H σd σ) (hR : ∀ b S', R (.bl b) S' → Po X.K m S H Q (.bl b) S') (q : wE (callW T k) (.cmp3 op op' op2 a b c d) σd S R) :
    tChain3 (rCmp X.K op) (rCmp X.K op') (rCmp X.K op2) (liftE X.K (wE (callW T k) a)) (liftE X.K (wE (callW T k) b)) (liftE X.K (wE (callW T k) c)) (liftE X.K (wE (callW T k) d)) σ H Q := by
  rw [wE] at q
  refine stepE (mE a) r g q fun x S1 m1 H1 v x1 r1 g1 d1 q1 => stepE (mE b) r1 g1 q1 fun y S2 m2 H2 u x2 r2 g2 d2 q2 => cmp_ok r2 (d1.keep r1 x2) d2 (cmpW_mono (fun b S3 p => ?_) q2)
  intro m3 H3 v3 x3 r3 d3
  refine ⟨b, d3, ?_⟩
  have x13 := (x1.trans x2).trans x3
  cases b with
  | false =>
    rw [if_neg Bool.false_ne_true] at p ⊢
    exact hR _ _ p _ _ _ x13 r3 rfl
  | true =>
    rw [if_pos rfl] at p ⊢
    refine stepE (mE c) r3 (g2.keep r2 x3) p fun z S4 m4 H4 w x4 r4 g4 d4 p4 => cmp_ok r4 ((d2.keep r2 x3).keep r3 x4) d4 (cmpW_mono (fun b' S5 p' => ?_) p4)
    intro m5 H5 v5 x5 r5 d5
    refine ⟨b', d5, ?_⟩
    have x15 := (x13.trans x4).trans x5
    cases b' with
    | false =>
      rw [if_neg Bool.false_ne_true] at p' ⊢
      exact hR _ _ p' _ _ _ x15 r5 rfl
    | true =>
      rw [if_pos rfl] at p' ⊢
      exact stepE (mE d) r5 (g4.keep r4 x5) p' fun z S6 m6 H6 w6 x6 r6 g6 d6 p6 => cmp_ok r6 ((d4.keep r4 x5).keep r5 x6) d6 (cmpW_mono (fun b' S' p' => (hR _ _ p').shift (x15.trans x6)) p6)
theorem snd_cmp3 {op op' op2 : COp} {a b c d : Ex} (ha : SndE T N k a) (hb : SndE T N k b) (hc : SndE T N k c) (hd : SndE T N k d) : SndE T N k (.cmp3 op op' op2 a b c d) := by
  intro X e G hN h
  unfold chkE at h
  split at h
  · simp only [Bool.and_eq_true, decide_eq_true_eq, Bool.not_eq_true'] at h
    obtain ⟨⟨⟨⟨⟨⟨⟨rfl, rfl⟩, rfl⟩, h1⟩, h2⟩, h3⟩, h3'⟩, h4⟩ := h
    refine pe_le (pe_chain3 (opCmp G.room op) (opCmp G.room op') (opCmp G.room op2) (ha X _ G hN h1) (hb X _ G hN h2) (hc X _ G hN h3) (hd X _ G hN h3') (by show behindInMarks _ _ = false; exact mark_of h4)) fun σ H Q => ?_
    rintro ⟨m, S, σd, r, g, q⟩
    exact chain3_le r g (fun _ _ p => p) q
  · cases h
theorem sndT_cmp3 {op op' op2 : COp} {a b c d : Ex} (ha : SndE T N k a) (hb : SndE T N k b) (hc : SndE T N k c) (hd : SndE T N k d) : SndT T N k (.cmp3 op op' op2 a b c d) := by
  intro X e G hN h _
  unfold chkE at h
  split at h
  · simp only [Bool.and_eq_true, decide_eq_true_eq, Bool.not_eq_true'] at h
    obtain ⟨⟨⟨⟨⟨⟨⟨rfl, rfl⟩, rfl⟩, h1⟩, h2⟩, h3⟩, h3'⟩, h4⟩ := h
    refine pt_le (pt_chain3 (opCmp G.room op) (opCmp G.room op') (opCmp G.room op2) (ha X _ G hN h1) (hb X _ G hN h2) (hc X _ G hN h3) (hd X _ G hN h3') (by show behindInMarks _ _ = false; exact mark_of h4)) fun σ H Q => ?_
    rintro ⟨m, S, σd, r, g, q⟩
    exact chain3_le r g (fun _ _ p => po_bl .refl p) q
  · cases h
theorem and_le {X : L2.Cx} {a b : Ex} {tb : L2.TE} (hb : ∀ σ H Q, liftE X.K (wE (callW T k) b) σ H Q → tb σ H Q) : ∀ σ H Q, liftE X.K (wE (callW T k) (.and a b)) σ H Q → L2.tAndT X.K (liftE X.K (wE (callW T k) a)) tb σ H Q := by
  rintro σ H Q ⟨m, S, σd, r, g, q⟩
  rw [wE] at q
  refine stepE (mE a) r g q fun x S1 m1 H1 v x1 r1 g1 d1 q1 => ?_
  obtain ⟨c, e, q1⟩ := q1
  refine ⟨c, tru_of r1 d1 e, ?_⟩
  cases c with
  | true =>
    rw [if_pos rfl] at q1 ⊢
    exact hb _ _ _ (stepE (mE b) r1 g1 q1 fun y S2 m2 H2 u x2 r2 g2 d2 q2 => at_once r2 (q2.shift (x1.trans x2)) d2)
  | false =>
    rw [if_neg Bool.false_ne_true] at q1 ⊢
    exact at_once r1 (q1.shift x1) d1
theorem or_le {X : L2.Cx} {a b : Ex} {tb : L2.TE} (hb : ∀ σ H Q, liftE X.K (wE (callW T k) b) σ H Q → tb σ H Q) : ∀ σ H Q, liftE X.K (wE (callW T k) (.or a b)) σ H Q → L2.tOrT X.K (liftE X.K (wE (callW T k) a)) tb σ H Q := by
  rintro σ H Q ⟨m, S, σd, r, g, q⟩
  rw [wE] at q
  refine stepE (mE a) r g q fun x S1 m1 H1 v x1 r1 g1 d1 q1 => ?_
  obtain ⟨c, e, q1⟩ := q1
  refine ⟨c, tru_of r1 d1 e, ?_⟩
  cases c with
  | false =>
    rw [if_neg Bool.false_ne_true] at q1 ⊢
    exact hb _ _ _ (stepE (mE b) r1 g1 q1 fun y S2 m2 H2 u x2 r2 g2 d2 q2 => at_once r2 (q2.shift (x1.trans x2)) d2)
  | true =>
    rw [if_pos rfl] at q1 ⊢
    exact at_once r1 (q1.shift x1) d1
theorem snd_and {a b : Ex} (ha : SndE T N k a) (hb : SndE T N k b) : SndE T N k (.and a b) := by
  intro X e G hN h
  unfold chkE at h
  split at h
  · simp only [Bool.and_eq_true] at h
    exact pe_le (L2.pe_andT (ha X _ G hN h.1) (L2.pe_one (hb X _ G hN h.2))) (and_le fun _ _ _ q => q)
  · simp only [Bool.and_eq_true] at h
    exact pe_le (L2.pe_andT (ha X _ G hN h.1) (hb X _ G hN h.2)) (and_le fun _ _ _ q => q)
  · cases h
theorem snd_or {a b : Ex} (ha : SndE T N k a) (hb : SndE T N k b) : SndE T N k (.or a b) := by
  intro X e G hN h
  unfold chkE at h
  split at h
  · simp only [Bool.and_eq_true] at h
    exact pe_le (L2.pe_orT (ha X _ G hN h.1) (L2.pe_one (hb X _ G hN h.2))) (or_le fun _ _ _ q => q)
  · simp only [Bool.and_eq_true] at h
    exact pe_le (L2.pe_orT (ha X _ G hN h.1) (hb X _ G hN h.2)) (or_le fun _ _ _ q => q)
  · cases h
theorem snd_not {a : Ex} (ha : SndE T N k a) : SndE T N k (.not a) := by
  intro X e G hN h
  unfold chkE at h
  split at h
  · refine pe_le (L2.pe_notT (ha X _ G hN h)) fun σ H Q => ?_
    rintro ⟨m, S, σd, r, g, q⟩
    rw [wE] at q
    refine stepE (mE a) r g q fun x S1 m1 H1 v x1 r1 g1 d1 q1 => ?_
    obtain ⟨c, e, q1⟩ := q1
    exact ⟨c, tru_of r1 d1 e, at_once r1 (q1.shift x1) rfl⟩
  · cases h
/-- tests joined -/
theorem andT_le {X : L2.Cx} {a b : Ex} {tb : L2.TT} (hb : ∀ σ H Q, liftT X.K (wT (callW T k) b) σ H Q → tb σ H Q) : ∀ σ H Q, liftT X.K (wT (callW T k) (.and a b)) σ H Q → L2.tAnd (liftT X.K (wT (callW T k) a)) tb σ H Q := by
  rintro σ H Q ⟨m, S, σd, r, g, q⟩
  unfold wT at q
  rw [wE] at q
  have q' : wT (callW T k) a σd S fun c S1 => if c = true then wT (callW T k) b σd S1 (PoB X.K m S H Q) else PoB X.K m S H Q false S1 := by
    refine wE_mono (callW_mono T k) a _ _ _ _ (fun x S1 h => ?_) q
    obtain ⟨c, e, h⟩ := h
    refine ⟨c, e, ?_⟩
    cases c with
    | true => exact h
    | false =>
      rw [if_neg Bool.false_ne_true] at h ⊢
      obtain ⟨c', e', h⟩ := h
      rw [e] at e'; cases e'
      exact h
  refine stepT (mT a) r g q' fun c S1 m1 H1 x1 r1 g1 q1 => ?_
  cases c with
  | true =>
    rw [if_pos rfl] at q1 ⊢
    exact hb _ _ _ (stepT (mT b) r1 g1 q1 fun c' S2 m2 H2 x2 r2 g2 q2 => q2 _ _ (x1.trans x2) r2)
  | false =>
    rw [if_neg Bool.false_ne_true] at q1 ⊢
    exact q1 _ _ x1 r1
theorem orT_le {X : L2.Cx} {a b : Ex} {tb : L2.TT} (hb : ∀ σ H Q, liftT X.K (wT (callW T k) b) σ H Q → tb σ H Q) : ∀ σ H Q, liftT X.K (wT (callW T k) (.or a b)) σ H Q → L2.tOr (liftT X.K (wT (callW T k) a)) tb σ H Q := by
  rintro σ H Q ⟨m, S, σd, r, g, q⟩
  unfold wT at q
  rw [wE] at q
  have q' : wT (callW T k) a σd S fun c S1 => if c = true then PoB X.K m S H Q true S1 else wT (callW T k) b σd S1 (PoB X.K m S H Q) := by
    refine wE_mono (callW_mono T k) a _ _ _ _ (fun x S1 h => ?_) q
    obtain ⟨c, e, h⟩ := h
    refine ⟨c, e, ?_⟩
    cases c with
    | false => exact h
    | true =>
      rw [if_pos rfl] at h ⊢
      obtain ⟨c', e', h⟩ := h
      rw [e] at e'; cases e'
      exact h
  refine stepT (mT a) r g q' fun c S1 m1 H1 x1 r1 g1 q1 => ?_
  cases c with
  | false =>
    rw [if_neg Bool.false_ne_true] at q1 ⊢
    exact hb _ _ _ (stepT (mT b) r1 g1 q1 fun c' S2 m2 H2 x2 r2 g2 q2 => q2 _ _ (x1.trans x2) r2)
  | true =>
    rw [if_pos rfl] at q1 ⊢
    exact q1 _ _ x1 r1
/-- tests of a junction, whatever the whole is -/
def SndW (ex : Ex) : Prop := ∀ (X : L2.Cx) (op : BoolOp) (x y : Expr) (r : List Expr) (p : Pos), Gd X T k → X.N = N → chkE T N X.env.scope ex (.BoolOp op (x :: y :: r) p) = true → chkT T N X.env.scope ex (.BoolOp op (x :: y :: r) p) = true → L2.PW X (.BoolOp op (x :: y :: r) p) (liftT X.K (wT (callW T k) ex))
theorem sndW_and {a b : Ex} (ha : SndT T N k a) (hb : SndT T N k b) (hw : SndW (T := T) (N := N) (k := k) b) : SndW (T := T) (N := N) (k := k) (.and a b) := by
  intro X op x y r p G hN h h'
  unfold chkE at h
  unfold chkT at h'
  cases op with
  | Or => simp at h
  | And =>
    cases r with
    | nil =>
      simp only [Bool.and_eq_true] at h h'
      exact pw_le (L2.pw_and (ha X _ G hN h.1 h'.1) (L2.pw_and1 (hb X _ G hN h.2 h'.2))) (andT_le fun _ _ _ q => q)
    | cons z r =>
      simp only [Bool.and_eq_true] at h h'
      exact pw_le (L2.pw_and (ha X _ G hN h.1 h'.1) (hw X _ _ _ _ _ G hN h.2 h'.2)) (andT_le fun _ _ _ q => q)
theorem sndW_or {a b : Ex} (ha : SndT T N k a) (hb : SndT T N k b) (hw : SndW (T := T) (N := N) (k := k) b) : SndW (T := T) (N := N) (k := k) (.or a b) := by
  intro X op x y r p G hN h h'
  unfold chkE at h
  unfold chkT at h'
  cases op with
  | And => simp at h
  | Or =>
    cases r with
    | nil =>
      simp only [Bool.and_eq_true] at h h'
      exact pw_le (L2.pw_or (ha X _ G hN h.1 h'.1) (L2.pw_or1 (hb X _ G hN h.2 h'.2))) (orT_le fun _ _ _ q => q)
    | cons z r =>
      simp only [Bool.and_eq_true] at h h'
      exact pw_le (L2.pw_or (ha X _ G hN h.1 h'.1) (hw X _ _ _ _ _ G hN h.2 h'.2)) (orT_le fun _ _ _ q => q)
theorem sndT_and {a b : Ex} (hw : SndW (T := T) (N := N) (k := k) (.and a b)) : SndT T N k (.and a b) := by
  intro X e G hN h h'
  have h0 := h
  unfold chkE at h
  split at h
  · exact (hw X _ _ _ _ _ G hN h0 h').pt
  · exact (hw X _ _ _ _ _ G hN h0 h').pt
  · cases h
theorem sndT_or {a b : Ex} (hw : SndW (T := T) (N := N) (k := k) (.or a b)) : SndT T N k (.or a b) := by
  intro X e G hN h h'
  have h0 := h
  unfold chkE at h
  split at h
  · exact (hw X _ _ _ _ _ G hN h0 h').pt
  · exact (hw X _ _ _ _ _ G hN h0 h').pt
  · cases h
theorem sndT_not {a : Ex} (ha : SndT T N k a) : SndT T N k (.not a) := by
  intro X e G hN h h'
  unfold chkE at h
  split at h
  · unfold chkT at h'
    refine pt_le (L2.pt_not (ha X _ G hN h h')) fun σ H Q => ?_
    rintro ⟨m, S, σd, r, g, q⟩
    unfold wT at q
    rw [wE] at q
    have q' : wT (callW T k) a σd S fun c S1 => PoB X.K m S H Q (!c) S1 := by
      refine wE_mono (callW_mono T k) a _ _ _ _ (fun x S1 h => ?_) q
      obtain ⟨c, e, c', e', h⟩ := h
      have e2 : (!c) = c' := by simpa [truD] using e'
      subst e2
      exact ⟨c, e, h⟩
    exact stepT (mT a) r g q' fun c S1 m1 H1 x1 r1 g1 q1 => q1 _ _ x1 r1
  · cases h
theorem snd_ite {c a b : Ex} (hc : SndT T N k c) (ha : SndE T N k a) (hb : SndE T N k b) : SndE T N k (.ite c a b) := by
  intro X e G hN h
  unfold chkE at h
  split at h
  · simp only [Bool.and_eq_true] at h
    refine pe_le (L2.pe_ifExp (hc X _ G hN h.1.1.1 h.1.1.2) (ha X _ G hN h.1.2) (hb X _ G hN h.2)) fun σ H Q => ?_
    rintro ⟨m, S, σd, r, g, q⟩
    rw [wE] at q
    have q' : wT (callW T k) c σd S fun d S1 => if d = true then wE (callW T k) a σd S1 (Po X.K m S H Q) else wE (callW T k) b σd S1 (Po X.K m S H Q) := q
    refine stepT (mT c) r g q' fun d S1 m1 H1 x1 r1 g1 q1 => ?_
    cases d with
    | true =>
      rw [if_pos rfl] at q1 ⊢
      exact stepE (mE a) r1 g1 q1 fun y S2 m2 H2 u x2 r2 g2 d2 q2 => at_once r2 (q2.shift (x1.trans x2)) d2
    | false =>
      rw [if_neg Bool.false_ne_true] at q1 ⊢
      exact stepE (mE b) r1 g1 q1 fun y S2 m2 H2 u x2 r2 g2 d2 q2 => at_once r2 (q2.shift (x1.trans x2)) d2
  · cases h
theorem snd_nil : SndA T N k .nil := by
  intro X l G hN h
  rw [chkEs] at h
  have e : l = [] := by simpa using h
  subst e
  refine pa_le L2.pa_nil fun σ H Q => ?_
  rintro ⟨m, S, σd, r, g, q⟩
  rw [wEs] at q
  exact q _ _ [] .refl r rfl
theorem snd_cons {a : Ex} {es : Exs} (ha : SndE T N k a) (hs : SndA T N k es) : SndA T N k (.cons a es) := by
  intro X l G hN h
  cases l with
  | nil => rw [chkEs] at h; cases h
  | cons e l =>
    rw [chkEs] at h
    simp only [Bool.and_eq_true, Bool.not_eq_true'] at h
    refine pa_le (L2.pa_cons (ha X _ G hN h.1.2) (hs X _ G hN h.2) (star_of h.1.1)) fun σ H Q => ?_
    rintro ⟨m, S, σd, r, g, q⟩
    rw [wEs] at q
    exact stepE (mE a) r g q fun x S1 m1 H1 v x1 r1 g1 d1 q1 => stepA (mA es) r1 g1 q1 fun y S2 m2 H2 u x2 r2 g2 d2 q2 => q2 _ _ _ (x1.trans x2) r2 ⟨v, u, rfl, d1.keep r1 x2, d2⟩
theorem snd_tup {es : Exs} (hs : SndA T N k es) : SndE T N k (.tup es) := by
  intro X e G hN h
  unfold chkE at h
  split at h
  · refine pe_le (L2.pe_tup (hs X _ G hN h)) fun σ H Q => ?_
    rintro ⟨m, S, σd, r, g, q⟩
    rw [wE] at q
    exact stepA (mA es) r g q fun x S1 m1 H1 v x1 r1 g1 d1 q1 => ⟨by rw [← d1.length]; exact q1.1, new_tup r1 d1 (q1.2.shift x1)⟩
  · cases h
theorem snd_lst {es : Exs} (hs : SndA T N k es) : SndE T N k (.lst es) := by
  intro X e G hN h
  unfold chkE at h
  split at h
  · refine pe_le (L2.pe_lst (hs X _ G hN h)) fun σ H Q => ?_
    rintro ⟨m, S, σd, r, g, q⟩
    rw [wE] at q
    exact stepA (mA es) r g q fun x S1 m1 H1 v x1 r1 g1 d1 q1 => ⟨by rw [← d1.length]; exact q1.1, new_list r1 d1 (q1.2.shift x1)⟩
  · cases h
theorem snd_ix {a b : Ex} (ha : SndE T N k a) (hb : SndE T N k b) : SndE T N k (.ix a b) := by
  intro X e G hN h
  unfold chkE at h
  split at h
  · simp only [Bool.and_eq_true, Bool.not_eq_true'] at h
    refine pe_le (L2.pe_ix L2.ix_seq (ha X _ G hN h.1.1) (hb X _ G hN h.1.2) (plainIx_of h.2)) fun σ H Q => ?_
    rintro ⟨m, S, σd, r, g, q⟩
    rw [wE] at q
    exact stepE (mE a) r g q fun x S1 m1 H1 v x1 r1 g1 d1 q1 => stepE (mE b) r1 g1 q1 fun y S2 m2 H2 u x2 r2 g2 d2 q2 => ix_ok r2 (d1.keep r1 x2) d2 (ixW_mono (fun _ _ p => p.shift (x1.trans x2)) q2)
  · cases h
theorem snd_none : SndO T N k .none := by
  intro X o G hN h
  unfold chkO at h
  cases o with
  | some e => cases h
  | none =>
    refine po_le L2.po_none fun σ H Q => ?_
    rintro ⟨m, S, σd, r, g, q⟩
    rw [wO] at q
    exact q _ _ .refl r
theorem snd_some {a : Ex} (ha : SndE T N k a) : SndO T N k (.some a) := by
  intro X o G hN h
  unfold chkO at h
  cases o with
  | none => cases h
  | some e =>
    refine po_le (L2.po_some (ha X _ G hN h)) fun σ H Q => ?_
    rintro ⟨m, S, σd, r, g, q⟩
    rw [wO] at q
    refine stepE (mE a) r g q fun x S1 m1 H1 v x1 r1 g1 d1 q1 => ?_
    obtain ⟨i, rfl, q1⟩ := q1
    cases d1
    exact ⟨i, rfl, q1 _ _ x1 r1⟩
theorem snd_sl {a : Ex} {lo hi : ExO} (ha : SndE T N k a) (hl : SndO T N k lo) (hh : SndO T N k hi) : SndE T N k (.sl a lo hi) := by
  intro X e G hN h
  unfold chkE at h
  split at h
  · simp only [Bool.and_eq_true] at h
    refine pe_le (L2.pe_slice opSl (ha X _ G hN h.1.1) (hl X _ G hN h.1.2) (hh X _ G hN h.2)) fun σ H Q => ?_
    rintro ⟨m, S, σd, r, g, q⟩
    rw [wE] at q
    exact stepE (mE a) r g q fun x S1 m1 H1 v x1 r1 g1 d1 q1 => stepO (mO lo) r1 g1 q1 fun l S2 m2 H2 x2 r2 g2 q2 => stepO (mO hi) r2 g2 q2 fun u S3 m3 H3 x3 r3 g3 q3 =>
      sl_ok r3 ((d1.keep r1 x2).keep r2 x3) (slW_mono (fun _ _ p => p.shift ((x1.trans x2).trans x3)) q3)
  · cases h
theorem snd_call {f : Nat} {es : Exs} (hs : SndA T N k es) : SndE T N k (.call f es) := by
  intro X e G hN h
  unfold chkE at h
  split at h
  · rename_i x p l pos
    simp only [Bool.and_eq_true, Bool.not_eq_true'] at h
    obtain ⟨⟨⟨⟨h1, h2⟩, h3⟩, h4⟩, h5⟩ := h
    cases hT : T[f]? with
    | none => rw [hT] at h1; cases h1
    | some fd =>
      rw [hT] at h1
      simp only [Bool.and_eq_true, decide_eq_true_eq] at h1
      obtain ⟨rfl, h6⟩ := h1
      obtain ⟨fa, fdata, ps, e1, e2, e3, e4, F⟩ := G.fn f fd hT
      obtain ⟨db, _, _⟩ := dunder_of h3
      have hst := noStar_chk h5
      cases l with
      | nil => cases h4
      | cons e0 l =>
        have hs0 : isStar e0 = false := by
          unfold noStar at hst
          rw [List.all_cons, Bool.and_eq_true] at hst
          simpa using hst.1
        have hsl : noStar l = true := by
          unfold noStar at hst ⊢
          rw [List.all_cons, Bool.and_eq_true] at hst
          exact hst.2
        refine pe_le (L2.pe_call F G.room (gl_of h2) e1 e2 e3 .nil L2.pass0 (hs X _ G hN h5) db (star_of hs0) (noStar_any hsl)) fun σ H Q => ?_
        rintro ⟨m, S, σd, r, g, q⟩
        rw [wE] at q
        refine stepA (mA es) r g q fun xs S1 m1 H1 vs x1 r1 g1 d1 q1 => ?_
        rw [List.append_nil]
        exact ⟨m1, S1, xs, r1, d1, callW_mono T k f xs S1 _ _ (fun _ _ p => p.shift x1) q1⟩
  · cases h
theorem blt_boot : ∀ f : Blt, bootBuiltins (bltName f) = some (bltFn f) := by
  intro f
  cases f <;> decide +kernel
theorem blt_in : ∀ f : Blt, bltName f ∈ builtins ∧ bltName f ≠ ("__name__" : Str) ∧ (bltName f == ("__debug__" : Str)) = false := by
  intro f
  cases f <;> decide +kernel
theorem snd_blt {f : Blt} {es : Exs} (hs : SndA T N k es) : SndE T N k (.blt f es) := by
  intro X e G hN h
  unfold chkE at h
  split at h
  · rename_i x p l pos
    simp only [Bool.and_eq_true, Bool.not_eq_true', decide_eq_true_eq] at h
    obtain ⟨⟨⟨rfl, h2⟩, h4⟩, h5⟩ := h
    have hst := noStar_chk h5
    obtain ⟨b1, b2, b3⟩ := blt_in f
    cases l with
    | nil => cases h4
    | cons e0 l =>
      have hs0 : isStar e0 = false := by
        unfold noStar at hst
        rw [List.all_cons, Bool.and_eq_true] at hst
        simpa using hst.1
      have hsl : noStar l = true := by
        unfold noStar at hst ⊢
        rw [List.all_cons, Bool.and_eq_true] at hst
        exact hst.2
      have fin : ∀ σ H Q, liftE X.K (wE (callW T k) (.blt f es)) σ H Q → L2.tCB (rBlt X.K f) (liftA X.K (wEs (callW T k) es)) σ H Q := by
        rintro σ H Q ⟨m, S, σd, r, g, q⟩
        rw [wE] at q
        exact stepA (mA es) r g q fun xs S1 m1 H1 vs x1 r1 g1 d1 q1 => blt_ok r1 d1 (bltW_mono (fun _ _ p => p.shift x1) q1)
      have hboot := blt_boot f
      have op := opBlt (X := X) G.room G.calm f
      have kind : (∃ id, bltFn f = .builtin id) ∨ ∃ id, bltFn f = .type id := by cases f <;> first | exact .inl ⟨_, rfl⟩ | exact .inr ⟨_, rfl⟩
      rcases kind with ⟨id, e1⟩ | ⟨id, e1⟩
      · rw [e1] at hboot op
        exact pe_le (L2.pe_callB op (gl_of h2) (G.blt _ b1) hboot (hs X _ G hN h5) b2 b3 (star_of hs0) (noStar_any hsl)) fin
      · rw [e1] at hboot op
        exact pe_le (L2.pe_callTy op (gl_of h2) (G.blt _ b1) hboot (hs X _ G hN h5) b2 b3 (star_of hs0) (noStar_any hsl)) fin
  · cases h
theorem ty_boot : ∀ t : Ty, bootBuiltins (tyName t) = some (.type (tyOf t)) ∧ tyName t ∈ builtins ∧ tyName t ≠ ("__name__" : Str) ∧ (tyName t == ("__debug__" : Str)) = false := by
  intro t
  cases t <;> decide +kernel
theorem snd_isi {a : Ex} {t : Ty} (ha : SndE T N k a) : SndE T N k (.isi a t) := by
  intro X e G hN h
  unfold chkE at h
  split at h
  · rename_i x p y z p2 pos
    simp only [Bool.and_eq_true, Bool.not_eq_true', decide_eq_true_eq] at h
    obtain ⟨⟨⟨⟨⟨rfl, h2⟩, rfl⟩, h3⟩, h4⟩, h5⟩ := h
    obtain ⟨t1, t2, t3, t4⟩ := ty_boot t
    have hT : L2.PE X (.Name (tyName t) p2) (L2.tC (.ty (tyOf t))) := L2.pe_bltn (gl_of h3) (G.blt _ t2) t1 rfl t3 t4
    have hA : L2.PA X [y, .Name (tyName t) p2] (L2.tCons (liftE X.K (wE (callW T k) a)) (L2.tCons (L2.tC (.ty (tyOf t))) L2.tNil)) := L2.pa_cons (ha X _ G hN h4) (L2.pa_cons hT L2.pa_nil (star_of rfl)) (star_of h5)
    refine pe_le (L2.pe_callB L2.call_isi (gl_of h2) (G.blt _ (by decide +kernel)) (by decide +kernel) hA (by decide +kernel) (by decide +kernel) (star_of h5) (by rw [star_of rfl]; rfl)) fun σ H Q => ?_
    rintro ⟨m, S, σd, r, g, q⟩
    rw [wE] at q
    refine stepE (mE a) r g q fun x S1 m1 H1 v x1 r1 g1 d1 q1 => ?_
    obtain ⟨b, e, q1⟩ := q1
    exact isi_ok r1 d1 e (q1.shift x1)
  · cases h
theorem mth_attrs : ∀ f : Mth, typeOf (.builtin (mthId f)) = pure (.type "method_descriptor") := by
  intro f
  cases f
  · exact PySem.F.type_list_append
  · exact PySem.F.type_list_insert
  · exact PySem.F.type_list_pop
  · exact PySem.F.type_list_extend
  · exact PySem.F.type_list_index
theorem mth_slot : ∀ f : Mth, Slot "list" (mthName f) (mthId f) := by
  intro f
  cases f
  · exact PySem.F.slot_list_append
  · exact PySem.F.slot_list_insert
  · exact PySem.F.slot_list_pop
  · exact PySem.F.slot_list_extend
  · exact PySem.F.slot_list_index
end
end Flx

end
section
set_option Elab.async false
set_option linter.all false
set_option maxRecDepth 100000
set_option autoImplicit false
/-! FlxSound2: methods, walks, comprehensions, statements. -/
namespace Flx
open PySem PySem.Spec PyProof.Rows
section
variable {T : List FDef} {N : List Str} {k : Nat}
theorem few_of {l : List Expr} {pos : Pos} {env : Env} (h : noStar l = true) (hl : l.length < 20) :
    ((backTo pos (starEach l env)).all (fun x => !x.1) && (backToKw pos (keywordEach [] env)).all (fun x => x.1.isSome) && decide (l.length + ([] : List Keyword).length + (if ([] : List Keyword).isEmpty then 0 else 1) < 30)) = true := by
  rw [noStar_all h]
  have e : decide (l.length + ([] : List Keyword).length + (if ([] : List Keyword).isEmpty then 0 else 1) < 30) = true := decide_eq_true (by
    simp only [List.length_nil, List.isEmpty_nil, if_true]
    omega)
  rw [e]; rfl
theorem snd_mth {f : Mth} {o : Ex} {es : Exs} (ho : SndE T N k o) (hs : SndA T N k es) : SndE T N k (.mth f o es) := by
  intro X e G hN h
  unfold chkE at h
  split at h
  · rename_i x nm ap l cp
    simp only [Bool.and_eq_true, Bool.not_eq_true', decide_eq_true_eq] at h
    obtain ⟨⟨⟨⟨⟨rfl, h2⟩, h3⟩, h4⟩, h5⟩, h6⟩ := h
    have hst := noStar_chk h6
    have pO := ho X _ G hN h2
    cases l with
    | nil =>
      have e1 : es = .nil := by
        cases es with
        | nil => rfl
        | cons a b => rw [chkEs] at h6; cases h6
      subst e1
      refine pe_le (L2.pe_bm0 PySem.F.plainAttrs_list (mth_slot f) (mth_attrs f) (opMth G.room f) pO (base_of h3) h4) fun σ H Q => ?_
      rintro ⟨m, S, σd, r, g, q⟩
      rw [wE] at q
      refine stepE (mE o) r g q fun x S1 m1 H1 v x1 r1 g1 d1 q1 => ?_
      obtain ⟨q0, q1⟩ := q1
      rw [wEs] at q1
      exact ⟨mth_ty r1 d1 q0, mth_ok r1 d1 (show RDs X.K m1 H1 [] [] from rfl) (mthW_mono (fun _ _ p => Po.shift x1 p) q1)⟩
    | cons e0 l =>
      have hs0 : isStar e0 = false := by
        unfold noStar at hst
        rw [List.all_cons, Bool.and_eq_true] at hst
        simpa using hst.1
      have hsl : noStar l = true := by
        unfold noStar at hst ⊢
        rw [List.all_cons, Bool.and_eq_true] at hst
        exact hst.2
      refine pe_le (L2.pe_bm PySem.F.plainAttrs_list (mth_slot f) (mth_attrs f) (opMth G.room f) pO (hs X _ G hN h6) (base_of h3) (few_of hst h5) h4 (star_of hs0) (noStar_any hsl)) fun σ H Q => ?_
      rintro ⟨m, S, σd, r, g, q⟩
      rw [wE] at q
      refine stepE (mE o) r g q fun x S1 m1 H1 v x1 r1 g1 d1 q1 => ?_
      exact ⟨mth_ty r1 d1 q1.1, stepA (mA es) r1 g1 q1.2 fun xs S2 m2 H2 vs x2 r2 g2 d2 q2 => mth_ok r2 (d1.keep r1 x2) d2 (mthW_mono (fun _ _ p => Po.shift (x1.trans x2) p) q2)⟩
  · cases h
theorem snd_smt {f : SMth} {o a : Ex} (ho : SndE T N k o) (ha : SndE T N k a) : SndE T N k (.smt f o a) := by
  intro X e G hN h
  unfold chkE at h
  split at h
  · simp only [Bool.and_eq_true, Bool.not_eq_true', decide_eq_true_eq] at h
    obtain ⟨⟨⟨⟨⟨rfl, h2⟩, h3⟩, h4⟩, h5⟩, h6⟩ := h
    cases f
    refine pe_le (L2.pe_split (ho X _ G hN h2) (ha X _ G hN h5) (star_of h6) (base_of h3) h4) fun σ H Q => ?_
    rintro ⟨m, S, σd, r, g, q⟩
    rw [wE] at q
    refine stepE (mE o) r g q fun x S1 m1 H1 v x1 r1 g1 d1 q1 => ?_
    obtain ⟨⟨z, rfl⟩, q1⟩ := q1
    refine ⟨⟨z, d1⟩, stepE (mE a) r1 g1 q1 fun y S2 m2 H2 u x2 r2 g2 d2 q2 => ?_⟩
    exact split_ok r2 (d1.keep r1 x2) d2 (smtW_mono (fun _ _ p => Po.shift (x1.trans x2) p) q2)
  · cases h
/-! dicts -/
theorem snd_dnw : SndE T N k .dnw := by
  intro X e G hN h
  unfold chkE at h
  split at h
  · refine pe_le L2.pe_dnewK fun σ H Q => ?_
    rintro ⟨m, S, σd, r, g, q⟩
    rw [wE] at q
    exact new_dic r q
  · cases h
theorem snd_dsp {a b : Ex} (ha : SndE T N k a) (hb : SndE T N k b) : SndE T N k (.dsp a b) := by
  intro X e G hN h
  unfold chkE at h
  split at h
  · simp only [Bool.and_eq_true] at h
    refine pe_le (L2.pe_disp (L2.pps_cons (ha X _ G hN h.1) (hb X _ G hN h.2) L2.pps_nil) rfl rfl (by simp) (by show 1 ≤ 15; decide)) fun σ H Q => ?_
    rintro ⟨m, S, σd, r, g, q⟩ p hp
    rw [wE] at q
    obtain ⟨x0, r0, d0⟩ := laid_dic (kvs := []) (vs := []) r hp rfl rfl
    refine stepE (mE a) r0 (g.keep r x0) q fun x S1 m1 H1 v x1 r1 g1 d1 q1 => stepE (mE b) r1 g1 q1 fun y S2 m2 H2 u x2 r2 g2 d2 q2 => ?_
    exact dsp_ok r2 ((d0.keep r0 x1).keep r1 x2) (d1.keep r1 x2) d2 (dspW_mono (fun _ _ p => p.shift ((x0.trans x1).trans x2)) q2)
  · cases h
theorem snd_dix {a b : Ex} (ha : SndE T N k a) (hb : SndE T N k b) : SndE T N k (.dix a b) := by
  intro X e G hN h
  unfold chkE at h
  split at h
  · simp only [Bool.and_eq_true, Bool.not_eq_true'] at h
    refine pe_le (L2.pe_dget (by have := G.room.units; omega) (ha X _ G hN h.1.1) (hb X _ G hN h.1.2) (plainIx_of h.2)) fun σ H Q => ?_
    rintro ⟨m, S, σd, r, g, q⟩
    rw [wE] at q
    exact stepE (mE a) r g q fun x S1 m1 H1 v x1 r1 g1 d1 q1 => stepE (mE b) r1 g1 q1 fun y S2 m2 H2 u x2 r2 g2 d2 q2 => dix_ok r2 (d1.keep r1 x2) d2 (dixW_mono (fun _ _ p => p.shift (x1.trans x2)) q2)
  · cases h
theorem snd_dgt {a b c : Ex} (ha : SndE T N k a) (hb : SndE T N k b) (hc : SndE T N k c) : SndE T N k (.dgt a b c) := by
  intro X e G hN h
  unfold chkE at h
  split at h
  · rename_i x nm ap y z cp
    simp only [Bool.and_eq_true, Bool.not_eq_true', decide_eq_true_eq] at h
    obtain ⟨⟨⟨⟨⟨⟨⟨rfl, h2⟩, h3⟩, h4⟩, h5⟩, h6⟩, h7⟩, h8⟩ := h
    have hst : noStar [y, z] = true := by unfold noStar; simp [h6, h8]
    refine pe_le (L2.pe_dget2 (by have := G.room.units; omega) (ha X _ G hN h2) (hb X _ G hN h5) (hc X _ G hN h7) ⟨base_of h3, few_of hst (by show 2 < 20; decide), h4, by rw [star_of h6, star_of h8]; rfl⟩) fun σ H Q => ?_
    rintro ⟨m, S, σd, r, g, q⟩
    rw [wE] at q
    refine stepE (mE a) r g q fun x S1 m1 H1 v x1 r1 g1 d1 q1 => ?_
    obtain ⟨w, rfl, hD⟩ := isD_ok r1 d1 q1.1
    refine ⟨w, rfl, hD, stepE (mE b) r1 g1 q1.2 fun y S2 m2 H2 u x2 r2 g2 d2 q2 => stepE (mE c) r2 g2 q2 fun z S3 m3 H3 t x3 r3 g3 d3 q3 => ?_⟩
    obtain ⟨a', o, e, g4, q4⟩ := dgt_ok r3 ((d1.keep r1 x2).keep r2 x3) (d2.keep r2 x3) d3 (dgtW_mono (fun _ _ p => p.shift ((x1.trans x2).trans x3)) q3)
    cases e
    exact ⟨o, g4, q4⟩
  · cases h
theorem snd_din {neg : Bool} {a b : Ex} (ha : SndE T N k a) (hb : SndE T N k b) : SndE T N k (.din neg a b) := by
  intro X e G hN h
  unfold chkE at h
  split at h
  · rename_i x op y pos
    simp only [Bool.and_eq_true, decide_eq_true_eq, Bool.not_eq_true'] at h
    obtain ⟨⟨⟨rfl, h1⟩, h2⟩, h3⟩ := h
    have fin : ∀ σ H Q, liftE X.K (wE (callW T k) (.din neg a b)) σ H Q → liftE X.K (wE (callW T k) a) σ H (fun y H1 => liftE X.K (wE (callW T k) b) σ H1 fun x H2 => ∃ d o, x = .ref d ∧ L2.DGet H2 d y o ∧ Q (.bl (if neg then !o.isSome else o.isSome)) H2) := by
      rintro σ H Q ⟨m, S, σd, r, g, q⟩
      rw [wE] at q
      refine stepE (mE a) r g q fun x S1 m1 H1 v x1 r1 g1 d1 q1 => stepE (mE b) r1 g1 q1 fun y S2 m2 H2 u x2 r2 g2 d2 q2 => ?_
      exact din_ok r2 (d1.keep r1 x2) d2 (dinW_mono (fun _ _ p => p.shift (x1.trans x2)) q2)
    cases neg with
    | false => exact pe_le (L2.pe_cmp (L2.pc_din (by have := G.room.units; omega) (ha X _ G hN h1) (hb X _ G hN h2)) (mark_of h3)) fin
    | true => exact pe_le (L2.pe_cmp (L2.pc_dnotin (by have := G.room.units; omega) (ha X _ G hN h1) (hb X _ G hN h2)) (mark_of h3)) fin
  · cases h
theorem sndT_din {neg : Bool} {a b : Ex} (ha : SndE T N k a) (hb : SndE T N k b) : SndT T N k (.din neg a b) := by
  intro X e G hN h _
  unfold chkE at h
  split at h
  · rename_i x op y pos
    simp only [Bool.and_eq_true, decide_eq_true_eq, Bool.not_eq_true'] at h
    obtain ⟨⟨⟨rfl, h1⟩, h2⟩, h3⟩ := h
    have fin : ∀ σ H (Q : Bool → L2.Hp → Prop), liftT X.K (wT (callW T k) (.din neg a b)) σ H Q → liftE X.K (wE (callW T k) a) σ H (fun y H1 => liftE X.K (wE (callW T k) b) σ H1 fun x H2 => ∃ d o, x = .ref d ∧ L2.DGet H2 d y o ∧ ∃ c, L2.V.bl (if neg then !o.isSome else o.isSome) = .bl c ∧ Q c H2) := by
      rintro σ H Q ⟨m, S, σd, r, g, q⟩
      unfold wT at q
      rw [wE] at q
      refine stepE (mE a) r g q fun x S1 m1 H1 v x1 r1 g1 d1 q1 => stepE (mE b) r1 g1 q1 fun y S2 m2 H2 u x2 r2 g2 d2 q2 => ?_
      exact din_ok r2 (d1.keep r1 x2) d2 (Q := fun v H' => ∃ c, v = .bl c ∧ Q c H') (dinW_mono (fun _ _ p => po_bl (x1.trans x2) p) q2)
    cases neg with
    | false => exact pt_le (L2.pt_cmp (L2.pc_din (by have := G.room.units; omega) (ha X _ G hN h1) (hb X _ G hN h2)) (mark_of h3)) fin
    | true => exact pt_le (L2.pt_cmp (L2.pc_dnotin (by have := G.room.units; omega) (ha X _ G hN h1) (hb X _ G hN h2)) (mark_of h3)) fin
  · cases h
theorem snd_sup {o : Ex} (ho : SndE T N k o) : SndE T N k (.sup o) := by
  intro X e G hN h
  unfold chkE at h
  split at h
  · simp only [Bool.and_eq_true, Bool.not_eq_true', decide_eq_true_eq] at h
    obtain ⟨⟨⟨rfl, h2⟩, h3⟩, h4⟩ := h
    refine pe_le (L2.pe_upper (ho X _ G hN h2) (base_of h3) h4) fun σ H Q => ?_
    rintro ⟨m, S, σd, r, g, q⟩
    rw [wE] at q
    refine stepE (mE o) r g q fun x S1 m1 H1 v x1 r1 g1 d1 q1 => ?_
    obtain ⟨z, rfl, h1, q1⟩ := q1
    exact ⟨⟨z, d1⟩, z, d1, rfl, h1, at_once r1 (q1.shift x1) rfl⟩
  · cases h
theorem snd_dsr {a : Ex} (ha : SndE T N k a) : SndE T N k (.dsr a) := by
  intro X e G hN h
  unfold chkE at h
  split at h
  · rename_i x p y pos
    simp only [Bool.and_eq_true, Bool.not_eq_true', decide_eq_true_eq] at h
    obtain ⟨⟨⟨rfl, h2⟩, h4⟩, h5⟩ := h
    have hA : L2.PA X [y] (L2.tCons (liftE X.K (wE (callW T k) a)) L2.tNil) := L2.pa_cons (ha X _ G hN h4) L2.pa_nil (star_of h5)
    refine pe_le (L2.pe_callB (L2.call_sortedDI G.calm) (gl_of h2) (G.blt _ (by decide +kernel)) (by decide +kernel) hA (by decide +kernel) (by decide +kernel) (star_of h5) (by rfl)) fun σ H Q => ?_
    rintro ⟨m, S, σd, r, g, q⟩
    rw [wE] at q
    refine stepE (mE a) r g q fun x S1 m1 H1 v x1 r1 g1 d2 q1 => ?_
    exact dsr_ok r1 d2 (dsrW_mono (fun _ _ p => p.shift x1) q1)
  · cases h
theorem one_arg {es : Exs} {l : List Expr} {sc : Scope} (h : chkEs T N sc es l = true) (hl : l.length = 1) : ∃ a e, l = [e] ∧ es = .cons a .nil ∧ chkE T N sc a e = true ∧ isStar e = false := by
  cases es with
  | nil =>
    rw [chkEs] at h
    have e : l = [] := by simpa using h
    subst e; cases hl
  | cons a es =>
    cases l with
    | nil => cases hl
    | cons e l =>
      have e1 : l = [] := by simpa using hl
      subst e1
      rw [chkEs] at h
      simp only [Bool.and_eq_true, Bool.not_eq_true'] at h
      cases es with
      | nil => exact ⟨a, e, rfl, rfl, h.1.2, h.1.1⟩
      | cons b es => have h2 := h.2; rw [chkEs] at h2; cases h2
theorem two_args {es : Exs} {l : List Expr} {sc : Scope} (h : chkEs T N sc es l = true) (hl : l.length = 2) :
    ∃ a b e f, l = [e, f] ∧ es = .cons a (.cons b .nil) ∧ chkE T N sc a e = true ∧ isStar e = false ∧ chkE T N sc b f = true ∧ isStar f = false := by
  cases es with
  | nil =>
    rw [chkEs] at h
    have e : l = [] := by simpa using h
    subst e; cases hl
  | cons a es =>
    cases l with
    | nil => cases hl
    | cons e l =>
      rw [chkEs] at h
      simp only [Bool.and_eq_true, Bool.not_eq_true'] at h
      obtain ⟨b, f, rfl, rfl, h3, h4⟩ := one_arg h.2 (by simpa using hl)
      exact ⟨a, b, e, f, rfl, rfl, h.1.2, h.1.1, h3, h4⟩
/-- every item of an argument list -/
def AllE : Exs → Prop
  | .nil => True
  | .cons a es => SndE T N k a ∧ AllE es
theorem sndA_of : ∀ {es : Exs}, AllE (T := T) (N := N) (k := k) es → SndA T N k es
  | .nil, _ => snd_nil
  | .cons a es, h => snd_cons h.1 (sndA_of h.2)
theorem range_in : ("range" : Str) ∈ builtins ∧ ("list" : Str) ∈ builtins ∧ ("enumerate" : Str) ∈ builtins ∧ ("zip" : Str) ∈ builtins ∧ ("reversed" : Str) ∈ builtins := by decide +kernel
theorem rgV_of (a b : Int) {K : K'} {m : List Addr} {H : L2.Hp} : RDs K m H (rgD a b) (L2.rgV a b) := by
  have e1 : rgD a b = ((List.range (b - a).toNat).map fun i : Nat => a + (i : Int)).map D.int := by unfold rgD; rw [List.map_map]; rfl
  have e2 : L2.rgV a b = ((List.range (b - a).toNat).map fun i : Nat => a + (i : Int)).map L2.V.int := by unfold L2.rgV; rw [List.map_map]; rfl
  rw [e1, e2]
  exact RDs.map_int _
theorem lrg_fin {X : L2.Cx} {m : List Addr} {S : St} {H : L2.Hp} {Q : L2.VK} {a b : Int} (r : RS X.K m S H) (h : -(2 ^ 62) ≤ a ∧ a < 2 ^ 62 ∧ -(2 ^ 62) ≤ b ∧ b < 2 ^ 62) (hn : (b - a).toNat ≤ 2 ^ 24)
    (q : Po X.K m S H Q (.ref S.length) (S ++ [.lst (rgD a b)])) : L2.RgOk a b ∧ ∀ p, H p = none → Q (.ref p) (L2.upd H p (.lst (L2.rgV a b))) :=
  ⟨⟨h.1, h.2.1, h.2.2.1, h.2.2.2, hn⟩, new_list r (rgV_of a b) q⟩
theorem snd_lrg {es : Exs} (hs : AllE (T := T) (N := N) (k := k) es) : SndE T N k (.lrg es) := by
  intro X e G hN h
  obtain ⟨b1, b2, _⟩ := range_in
  unfold chkE at h
  split at h
  · simp only [Bool.and_eq_true, decide_eq_true_eq, Bool.or_eq_true, beq_iff_eq] at h
    obtain ⟨⟨⟨⟨⟨rfl, h2⟩, rfl⟩, h3⟩, h4⟩, h5⟩ := h
    rcases h5 with h5 | h5
    · obtain ⟨a, e0, rfl, rfl, ha, sa⟩ := one_arg h4 h5
      refine pe_le (L2.pe_listRg G.calm (gl_of h2) (G.blt _ b2) (L2.prg_1 (gl_of h3) (G.blt _ b1) (hs.1 X _ G hN ha) (star_of sa)) (star_of rfl)) fun σ H Q => ?_
      rintro ⟨m, S, σd, r, g, q⟩
      rw [wE, wEs] at q
      refine stepE (mE a) r g q fun x S1 m1 H1 v x1 r1 g1 d1 q1 => ?_
      rw [wEs] at q1
      cases x <;> first | exact q1.elim | skip
      cases d1
      exact ⟨_, rfl, lrg_fin r1 ⟨by decide, by decide, q1.1, q1.2.1⟩ q1.2.2.1 (q1.2.2.2.shift x1)⟩
    · obtain ⟨a, b, e0, f0, rfl, rfl, ha, sa, hb, sb⟩ := two_args h4 h5
      refine pe_le (L2.pe_listRg G.calm (gl_of h2) (G.blt _ b2) (L2.prg_2 (gl_of h3) (G.blt _ b1) (hs.1 X _ G hN ha) (hs.2.1 X _ G hN hb) (star_of sa) (star_of sb) (by rw [star_of sb]; rfl)) (star_of rfl)) fun σ H Q => ?_
      rintro ⟨m, S, σd, r, g, q⟩
      rw [wE, wEs] at q
      refine stepE (mE a) r g q fun x S1 m1 H1 v x1 r1 g1 d1 q1 => ?_
      rw [wEs] at q1
      refine stepE (mE b) r1 g1 q1 fun y S2 m2 H2 u x2 r2 g2 d2 q2 => ?_
      rw [wEs] at q2
      cases x <;> first | exact q2.elim | skip
      cases y <;> first | exact q2.elim | skip
      cases d1; cases d2
      exact ⟨_, _, rfl, rfl, lrg_fin r2 q2.1 q2.2.1 (q2.2.2.shift (x1.trans x2))⟩
  · cases h

/-! ### walks -/
theorem sndI_seq {a : Ex} (ha : SndE T N k a) : SndI T N k (.seq a) := by
  intro X tg t e sc fb G hN ht h
  rw [chkI] at h
  refine pi_le (pi_any (ha X _ G hN h)) fun σ H Q => ?_
  rintro ⟨m, S, σd, r, g, q⟩
  rw [wI] at q
  refine stepE (mE a) r g q fun x S1 m1 H1 v x1 r1 g1 d1 q1 => ?_
  obtain ⟨xs, e1, q1⟩ := q1
  cases x with
  | tup ys =>
    cases e1
    obtain ⟨p, vs, rfl, h1, h2⟩ := id d1
    exact ⟨p, rfl, .inr ⟨vs, h1, q1 _ _ _ x1 r1 (jok_tup r1 d1)⟩⟩
  | ref n =>
    obtain ⟨p, vs, rfl, h1, h2⟩ := seq_read r1 e1 d1
    exact ⟨p, rfl, .inl ⟨vs, h1, q1 _ _ _ x1 r1 (jok_list r1 d1)⟩⟩
  | _ => cases e1
theorem sndI_rng {es : Exs} (hs : AllE (T := T) (N := N) (k := k) es) : SndI T N k (.rng es) := by
  intro X tg t e sc fb G hN ht h
  obtain ⟨b1, _⟩ := range_in
  unfold chkI at h
  split at h
  · simp only [Bool.and_eq_true, decide_eq_true_eq, Bool.or_eq_true, beq_iff_eq] at h
    obtain ⟨⟨⟨rfl, h3⟩, h4⟩, h5⟩ := h
    rcases h5 with h5 | h5
    · obtain ⟨a, e0, rfl, rfl, ha, sa⟩ := one_arg h4 h5
      refine pi_le (L2.pi_range1 (gl_of h3) (G.blt _ b1) (L2.pa_cons (hs.1 X _ G hN ha) L2.pa_nil (star_of sa)) (by rw [star_of sa]; rfl)) fun σ H Q => ?_
      rintro ⟨m, S, σd, r, g, q⟩
      rw [wI, wEs] at q
      refine stepE (mE a) r g q fun x S1 m1 H1 v x1 r1 g1 d1 q1 => ?_
      rw [wEs] at q1
      cases x <;> first | exact q1.elim | skip
      rename_i i
      cases d1
      refine ⟨_, rfl, q1.1, q1.2.1, q1.2.2 _ _ _ x1 r1 ?_⟩
      have j := jok_rng (K := X.K) (m := m1) (S := S1) (H := H1) (G := noG) (a := 0) (b := i)
      rw [Int.sub_zero] at j
      exact j
    · obtain ⟨a, b, e0, f0, rfl, rfl, ha, sa, hb, sb⟩ := two_args h4 h5
      refine pi_le (L2.pi_range2 (gl_of h3) (G.blt _ b1) (L2.pa_cons (hs.1 X _ G hN ha) (L2.pa_cons (hs.2.1 X _ G hN hb) L2.pa_nil (star_of sb)) (star_of sa)) (by rw [star_of sa, star_of sb]; rfl) (by rw [star_of sb]; rfl)) fun σ H Q => ?_
      rintro ⟨m, S, σd, r, g, q⟩
      rw [wI, wEs] at q
      refine stepE (mE a) r g q fun x S1 m1 H1 v x1 r1 g1 d1 q1 => ?_
      rw [wEs] at q1
      refine stepE (mE b) r1 g1 q1 fun y S2 m2 H2 u x2 r2 g2 d2 q2 => ?_
      rw [wEs] at q2
      cases x <;> first | exact q2.elim | skip
      cases y <;> first | exact q2.elim | skip
      cases d1; cases d2
      exact ⟨_, _, rfl, q2.1, q2.2 _ _ _ (x1.trans x2) r2 jok_rng⟩
  · cases h
theorem sndI_rgd {a b : Ex} (ha : SndE T N k a) (hb : SndE T N k b) : SndI T N k (.rgd a b) := by
  intro X tg t e sc fb G hN ht h
  obtain ⟨b1, _⟩ := range_in
  unfold chkI at h
  split at h
  · simp only [Bool.and_eq_true, decide_eq_true_eq, Bool.not_eq_true'] at h
    obtain ⟨⟨⟨⟨⟨rfl, h3⟩, h4⟩, h5⟩, h6⟩, h7⟩ := h
    refine pi_le (L2.pi_range3 (gl_of h3) (G.blt _ b1) (L2.pa_cons (ha X _ G hN h4) (L2.pa_cons (hb X _ G hN h6) (L2.pa_cons (L2.pe_un L2.un_neg L2.pe_int) L2.pa_nil (star_of rfl)) (star_of h7)) (star_of h5)) (star_of h5) (by rw [star_of h7]; rfl)) fun σ H Q => ?_
    rintro ⟨m, S, σd, r, g, q⟩
    rw [wI] at q
    refine stepE (mE a) r g q fun x S1 m1 H1 v x1 r1 g1 d1 q1 => stepE (mE b) r1 g1 q1 fun y S2 m2 H2 u x2 r2 g2 d2 q2 => ?_
    obtain ⟨i, j, rfl, rfl, q3, q2⟩ := q2
    cases d1; cases d2
    exact ⟨1, rfl, i, j, -1, (i - j).toNat, rfl, L2.RgC.neg q3.1 q3.2.1 q3.2.2.1 q3.2.2.2, q2 _ _ _ (x1.trans x2) r2 jok_rgd⟩
  · cases h
theorem tup_of {sc : Scope} {fb : Str → Bool} {tg : Tg} {t : Expr} (h : chkG N sc fb tg t = true) (h2 : isTp tg = true) : ∃ l c p, t = .Tuple l c p := by
  cases tg with
  | nm i => cases h2
  | tp ts =>
    unfold chkG at h
    split at h
    · exact ⟨_, _, _, rfl⟩
    · cases h
theorem sndI_enm {a : Ex} (ha : SndE T N k a) : SndI T N k (.enm a) := by
  intro X tg t e sc fb G hN ht h
  obtain ⟨_, _, b3, _⟩ := range_in
  unfold chkI at h
  split at h
  · simp only [Bool.and_eq_true, decide_eq_true_eq, Bool.not_eq_true'] at h
    obtain ⟨⟨⟨⟨rfl, h3⟩, h4⟩, h5⟩, h6⟩ := h
    obtain ⟨l, c, p, rfl⟩ := tup_of ht h6
    refine pi_le (pi_enumG (gl_of h3) (G.blt _ b3) (L2.pa_cons (ha X _ G hN h4) L2.pa_nil (star_of h5)) (by rw [star_of h5]; rfl)) fun σ H Q => ?_
    rintro ⟨m, S, σd, r, g, q⟩
    rw [wI] at q
    refine stepE (mE a) r g q fun x S1 m1 H1 v x1 r1 g1 d1 q1 => ?_
    obtain ⟨xs, e1, q1⟩ := q1
    obtain ⟨c1, p1, vs, rfl, h10, _, k1⟩ := hk_of r1 e1 d1
    exact ⟨p1, vs, c1, rfl, h10, q1 _ _ _ x1 r1 (jok_enumG k1)⟩
  · cases h
theorem sndI_zip {a b : Ex} (ha : SndE T N k a) (hb : SndE T N k b) : SndI T N k (.zip a b) := by
  intro X tg t e sc fb G hN ht h
  obtain ⟨_, _, _, b4, _⟩ := range_in
  unfold chkI at h
  split at h
  · simp only [Bool.and_eq_true, decide_eq_true_eq, Bool.not_eq_true'] at h
    obtain ⟨⟨⟨⟨⟨⟨rfl, h3⟩, h4⟩, h5⟩, h6⟩, h7⟩, h8⟩ := h
    obtain ⟨l, c, p, rfl⟩ := tup_of ht h8
    refine pi_le (pi_zipG (gl_of h3) (G.blt _ b4) (L2.pa_cons (ha X _ G hN h4) (L2.pa_cons (hb X _ G hN h6) L2.pa_nil (star_of h7)) (star_of h5)) (star_of h5) (by rw [star_of h7]; rfl)) fun σ H Q => ?_
    rintro ⟨m, S, σd, r, g, q⟩
    rw [wI] at q
    refine stepE (mE a) r g q fun x S1 m1 H1 v x1 r1 g1 d1 q1 => stepE (mE b) r1 g1 q1 fun y S2 m2 H2 u x2 r2 g2 d2 q2 => ?_
    obtain ⟨xs, ys, e1, e2, q2⟩ := q2
    obtain ⟨c1, p1, vs, rfl, h10, _, k1⟩ := hk_of r2 e1 (d1.keep r1 x2)
    obtain ⟨c2, p2, us, rfl, h11, _, k2⟩ := hk_of r2 e2 d2
    exact ⟨p1, p2, vs, us, c1, c2, rfl, h10, h11, q2 _ _ _ (x1.trans x2) r2 (jok_zip k1 k2)⟩
  · cases h
theorem sndI_rev {a : Ex} (ha : SndE T N k a) : SndI T N k (.rev a) := by
  intro X tg t e sc fb G hN ht h
  obtain ⟨_, _, _, _, b5⟩ := range_in
  unfold chkI at h
  split at h
  · simp only [Bool.and_eq_true, decide_eq_true_eq, Bool.not_eq_true'] at h
    obtain ⟨⟨⟨rfl, h3⟩, h4⟩, h5⟩ := h
    refine pi_le (RT.pi_revA (gl_of h3) (G.blt _ b5) (ha X _ G hN h4) (star_of h5)) fun σ H Q => ?_
    rintro ⟨m, S, σd, r, g, q⟩
    rw [wI] at q
    refine stepE (mE a) r g q fun x S1 m1 H1 v x1 r1 g1 d1 q1 => ?_
    obtain ⟨xs, e1, q1⟩ := q1
    cases x with
    | tup ys =>
      cases e1
      obtain ⟨p, vs, rfl, h1, h2⟩ := id d1
      exact ⟨p, vs, rfl, .inr ⟨h1, q1 _ _ _ x1 r1 (jok_rev_tup r1 d1 h2)⟩⟩
    | ref n =>
      obtain ⟨p, vs, rfl, h1, h2⟩ := seq_read r1 e1 d1
      exact ⟨p, vs, rfl, .inl ⟨h1, q1 _ _ _ x1 r1 (jok_rev_list r1 d1 h2)⟩⟩
    | _ => cases e1
  · cases h

/-! ### targets -/
mutual
theorem snd_tg : ∀ (tg : Tg) (X : L2.Cx) (fb : Str → Bool) (t : Expr), X.calm = true → X.N.Nodup → (∀ x, fb x = true → X.fn x = true) → chkG X.N X.env.scope fb tg t = true → L2.PG X t (gR X.K tg)
  | .nm i, X, fb, t, hc, hn, hf, h => by
    unfold chkG at h
    split at h
    · rename_i x p
      simp only [Bool.and_eq_true, decide_eq_true_eq] at h
      rw [gR]
      have h2 := h.2
      unfold locB at h2
      split at h2
      · exact L2.pg_name hn h.1 (.inl (by assumption)) (.inr (by assumption))
      · exact L2.pg_name hn h.1 (.inr (by assumption)) (.inl (hf _ h2))
      · cases h2
    · cases h
  | .tp ts, X, fb, t, hc, hn, hf, h => by
    unfold chkG at h
    split at h
    · rw [gR]
      obtain ⟨h1, h2⟩ := noStar_tgs (env := X.env) h
      exact L2.pg_tup hc (snd_tgs ts X fb _ hc hn hf h) h1 h2
    · cases h
theorem snd_tgs : ∀ (ts : Tgs) (X : L2.Cx) (fb : Str → Bool) (l : List Expr), X.calm = true → X.N.Nodup → (∀ x, fb x = true → X.fn x = true) → chkGs X.N X.env.scope fb ts l = true → L2.PGs X l (gRs X.K ts)
  | .nil, X, fb, l, hc, hn, hf, h => by
    rw [chkGs] at h
    have e : l = [] := by simpa using h
    subst e
    rw [gRs]
    exact L2.pgs_nil
  | .cons t ts, X, fb, l, hc, hn, hf, h => by
    cases l with
    | nil => rw [chkGs] at h; cases h
    | cons e l =>
      rw [chkGs] at h
      simp only [Bool.and_eq_true, Bool.not_eq_true'] at h
      rw [gRs]
      exact L2.pgs_cons (snd_tg t X fb e hc hn hf h.1.2) (snd_tgs ts X fb l hc hn hf h.2) (by rw [assignStar_of h.1.1]; rfl)
end
theorem sndC_nil : SndC T N k .nil := by
  intro X l G hN h
  rw [chkC] at h
  have e : l = [] := by simpa using h
  subst e
  refine pts_le L2.pts_nil fun σ H Q => ?_
  rintro ⟨m, S, σd, r, g, q⟩
  rw [wC] at q
  exact q _ _ .refl r
theorem sndC_one {a : Ex} (ha : SndT T N k a) : SndC T N k (.cons a .nil) := by
  intro X l G hN h
  unfold chkC at h
  split at h
  · simp only [Bool.and_eq_true] at h
    refine pts_le (L2.pts_one (ha X _ G hN h.1 h.2)) fun σ H Q => ?_
    rintro ⟨m, S, σd, r, g, q⟩
    rw [wC] at q
    exact ⟨m, S, σd, r, g, q⟩
  · cases h
/-- a comprehension's rule and what it asks -/
theorem lc_le {X : L2.Cx} {elt : Ex} {tg : Tg} {it : It} {ifs : Exs} {own : List Nat} (h3 : tgIn own tg = true) : ∀ σ H Q, liftE X.K (wE (callW T k) (.lc elt tg it ifs own)) σ H Q →
    L2.tLc (liftI X.K (wI (callW T k) it)) (gR X.K tg) (liftT X.K (wC (callW T k) ifs)) (liftE X.K (wE (callW T k) elt)) own σ H Q := by
  rintro σ H Q ⟨m, S, σd, r, g, q⟩
  rw [wE] at q
  refine ⟨m, S, σd, r, g, wI_mono (callW_mono T k) it _ _ _ _ (fun G' xs S1 q1 => ?_) q⟩
  intro m1 H1 J x1 r1 hJ
  exact lc_ok (mC ifs) (mE elt) r1 (g.keep r x1) hJ h3 q1.1 (fun _ _ _ z => z) (fun _ _ _ z => z)
    (lcW_mono (fun σ S Q Q' => wC_mono (callW_mono T k) ifs σ S Q Q') (fun σ S Q Q' => wE_mono (callW_mono T k) elt σ S Q Q') xs [] S1 _ _ (fun acc S2 p => p.shift x1) q1.2)
theorem own_snd (own : List Nat) : (own.map fun j => (N.getD j "", j)).map (·.2) = own := by
  rw [List.map_map]
  exact List.map_id own
/-- what a looked-at comprehension brings -/
theorem lc_parts {elt : Ex} {tg : Tg} {it : It} {ifs : Exs} {own : List Nat} (he : SndE T N k elt) (hi : SndI T N k it) (hc : SndC T N k ifs) {X : L2.Cx} {y t i : Expr} {fs : List Expr} {scope : Scope} (G : Gd X T k) (hN : X.N = N)
    (h1 : L2.blkC N X.env.scope scope (own.map fun j => (N.getD j "", j)) = true) (h4 : chkG N (L2.relS scope X.env.scope) (fun x => scope.names.lookup x == some .cell) tg t = true)
    (h5 : chkI T N X.env.scope tg it i = true) (h6 : chkC T N (L2.relS scope X.env.scope) ifs fs = true) (h7 : chkE T N (L2.relS scope X.env.scope) elt y = true) :
    L2.PI X t i (liftI X.K (wI (callW T k) it)) ∧ L2.BlkOk X.N X.env.scope scope (own.map fun j => (N.getD j "", j)) ∧
    (∀ (s : Shared) (H : L2.Hp) (C : Addr) (cl : List (Str × Addr)) (fp : List Addr), L2.PG (X.blk s H scope (compEnvC scope cl C X.env) fp) t (gR X.K tg)) ∧
    (∀ (s : Shared) (H : L2.Hp) (C : Addr) (cl : List (Str × Addr)) (fp : List Addr), L2.PTs (X.blk s H scope (compEnvC scope cl C X.env) fp) fs (liftT X.K (wC (callW T k) ifs))) ∧
    (∀ (s : Shared) (H : L2.Hp) (C : Addr) (cl : List (Str × Addr)) (fp : List Addr), L2.PE (X.blk s H scope (compEnvC scope cl C X.env) fp) y (liftE X.K (wE (callW T k) elt))) := by
  subst hN
  exact ⟨hi X tg t i _ _ G rfl h4 h5, L2.blkOk_by h1, fun s H C cl fp => snd_tg tg (X.blk s H scope (compEnvC scope cl C X.env) fp) _ t G.calm G.nd (fun _ z => z) h4,
    fun s H C cl fp => hc (X.blk s H scope (compEnvC scope cl C X.env) fp) fs (G.blk _ _ _ _ _) rfl h6,
    fun s H C cl fp => he (X.blk s H scope (compEnvC scope cl C X.env) fp) y (G.blk _ _ _ _ _) rfl h7⟩
theorem snd_lc {elt : Ex} {tg : Tg} {it : It} {ifs : Exs} {own : List Nat} (he : SndE T N k elt) (hi : SndI T N k it) (hc : SndC T N k ifs) : SndE T N k (.lc elt tg it ifs own) := by
  intro X e G hN h
  unfold chkE at h
  split at h
  · rename_i y t i fs scope pos
    simp only [Bool.and_eq_true, Bool.not_eq_true'] at h
    obtain ⟨⟨⟨⟨⟨⟨h1, h3⟩, h4⟩, h5⟩, h5'⟩, h6⟩, h7⟩ := h
    obtain ⟨p1, p2, p3, p4, p5⟩ := lc_parts he hi hc G hN h1 h4 h5 h6 h7
    have P := L2.pe_lc (pos := pos) G.calm G.nd p1 p2 p3 p4 p5 (set_of h5')
    rw [own_snd] at P
    exact pe_le P (lc_le h3)
  · cases h
theorem lc2_le {X : L2.Cx} {elt : Ex} {tg tg1 : Tg} {it it1 : It} {ifs ifs1 : Exs} {own vs1 : List Nat} (h3 : tgIn own tg = true) (h3' : tgIn vs1 tg1 = true) : ∀ σ H Q, liftE X.K (wE (callW T k) (.lc2 elt tg it ifs tg1 it1 ifs1 own vs1)) σ H Q →
    L2.tLc2 (liftI X.K (wI (callW T k) it)) (gR X.K tg) (liftT X.K (wC (callW T k) ifs)) (liftI X.K (wI (callW T k) it1)) (gR X.K tg1) (liftT X.K (wC (callW T k) ifs1)) (liftE X.K (wE (callW T k) elt)) own vs1 σ H Q := by
  rintro σ H Q ⟨m, S, σd, r, g, q⟩
  rw [wE] at q
  refine ⟨m, S, σd, r, g, wI_mono (callW_mono T k) it _ _ _ _ (fun G' xs S1 q1 => ?_) q⟩
  intro m1 H1 J x1 r1 hJ
  exact lc2_ok (mC ifs) (fun σ S Q Q' => wI_mono (callW_mono T k) it1 σ S Q Q') (mC ifs1) (mE elt) r1 (g.keep r x1) hJ h3 h3' (fun _ _ _ z => z) (fun _ _ _ z => z) (fun _ _ _ z => z) (fun _ _ _ z => z)
    (lc2W_mono (fun σ S Q Q' => wC_mono (callW_mono T k) ifs σ S Q Q') (fun σ S Q Q' => wI_mono (callW_mono T k) it1 σ S Q Q') (fun σ S Q Q' => wC_mono (callW_mono T k) ifs1 σ S Q Q') (fun σ S Q Q' => wE_mono (callW_mono T k) elt σ S Q Q') xs [] S1 _ _ (fun acc S2 p => p.shift x1) q1)
theorem all_in {own vs1 : List Nat} (h : (vs1.all fun i => own.contains i) = true) : ∀ i ∈ vs1, i ∈ own := fun i hi => by
  have := List.all_eq_true.1 h i hi
  simpa using this
/-- what a looked-at comprehension of two walks brings -/
theorem lc2_parts {tg1 : Tg} {it1 : It} {ifs1 : Exs} (hi1 : SndI T N k it1) (hc1 : SndC T N k ifs1) {X : L2.Cx} {t1 i1 : Expr} {fs1 : List Expr} {scope : Scope} (G : Gd X T k) (hN : X.N = N)
    (h8 : chkG N (L2.relS scope X.env.scope) (fun x => scope.names.lookup x == some .cell) tg1 t1 = true)
    (h9 : chkI T N (L2.relS scope X.env.scope) tg1 it1 i1 = true) (h10 : chkC T N (L2.relS scope X.env.scope) ifs1 fs1 = true) :
    (∀ (s : Shared) (H : L2.Hp) (C : Addr) (cl : List (Str × Addr)) (fp : List Addr), L2.PI (X.blk s H scope (compEnvC scope cl C X.env) fp) t1 i1 (liftI X.K (wI (callW T k) it1))) ∧
    (∀ (s : Shared) (H : L2.Hp) (C : Addr) (cl : List (Str × Addr)) (fp : List Addr), L2.PG (X.blk s H scope (compEnvC scope cl C X.env) fp) t1 (gR X.K tg1)) ∧
    (∀ (s : Shared) (H : L2.Hp) (C : Addr) (cl : List (Str × Addr)) (fp : List Addr), L2.PTs (X.blk s H scope (compEnvC scope cl C X.env) fp) fs1 (liftT X.K (wC (callW T k) ifs1))) := by
  subst hN
  exact ⟨fun s H C cl fp => hi1 (X.blk s H scope (compEnvC scope cl C X.env) fp) tg1 t1 i1 _ _ (G.blk _ _ _ _ _) rfl h8 h9,
    fun s H C cl fp => snd_tg tg1 (X.blk s H scope (compEnvC scope cl C X.env) fp) _ t1 G.calm G.nd (fun _ z => z) h8,
    fun s H C cl fp => hc1 (X.blk s H scope (compEnvC scope cl C X.env) fp) fs1 (G.blk _ _ _ _ _) rfl h10⟩
theorem snd_lc2 {elt : Ex} {tg tg1 : Tg} {it it1 : It} {ifs ifs1 : Exs} {own vs1 : List Nat} (he : SndE T N k elt) (hi : SndI T N k it) (hc : SndC T N k ifs) (hi1 : SndI T N k it1) (hc1 : SndC T N k ifs1) : SndE T N k (.lc2 elt tg it ifs tg1 it1 ifs1 own vs1) := by
  intro X e G hN h
  unfold chkE at h
  split at h
  · rename_i y t i fs t1 i1 fs1 scope pos
    simp only [Bool.and_eq_true, Bool.not_eq_true'] at h
    obtain ⟨⟨⟨⟨⟨⟨⟨⟨⟨⟨⟨⟨h1, h3⟩, h4⟩, h5⟩, h5'⟩, h6⟩, h7⟩, h8⟩, h9⟩, h10⟩, h11⟩, h12⟩, h13⟩ := h
    obtain ⟨p1, p2, p3, p4, p5⟩ := lc_parts he hi hc G hN h1 h4 h5 h6 h7
    obtain ⟨p6, p7, p8⟩ := lc2_parts hi1 hc1 G hN h8 h9 h10
    have P := L2.pe_lc2 (pos := pos) G.calm G.nd p1 p2 (vs1 := vs1) (by rw [own_snd]; exact all_in h12) p3 p4 p6 p7 p8 p5 (set_of h5') (fun _ => set_of h13)
    rw [own_snd] at P
    exact pe_le P (lc2_le h3 h11)
  · cases h
theorem dcm_le {X : L2.Cx} {kx vx : Ex} {tg : Tg} {it : It} {own : List Nat} (h3 : tgIn own tg = true) : ∀ σ H Q, liftE X.K (wE (callW T k) (.dcm kx vx tg it own)) σ H Q →
    L2.tDc (liftI X.K (wI (callW T k) it)) (gR X.K tg) (liftT X.K (wC (callW T k) .nil)) (liftE X.K (wE (callW T k) kx)) (liftE X.K (wE (callW T k) vx)) own σ H Q := by
  rintro σ H Q ⟨m, S, σd, r, g, q⟩
  rw [wE] at q
  refine ⟨m, S, σd, r, g, wI_mono (callW_mono T k) it _ _ _ _ (fun G' xs S1 q1 => ?_) q⟩
  intro m1 H1 J x1 r1 hJ
  exact dc_ok (mC .nil) (mE kx) (mE vx) r1 (g.keep r x1) hJ h3 q1.1 (fun _ _ _ z => by rw [wC]; exact z) (fun _ _ _ z => z) (fun _ _ _ z => z) (fun _ _ _ z => z)
    (dcW_mono (fun σ S Q Q' => wE_mono (callW_mono T k) kx σ S Q Q') (fun σ S Q Q' => wE_mono (callW_mono T k) vx σ S Q Q') xs [] S1 _ _ (fun acc S2 p => p.shift x1) q1.2)
theorem snd_dcm {kx vx : Ex} {tg : Tg} {it : It} {own : List Nat} (hk : SndE T N k kx) (he : SndE T N k vx) (hi : SndI T N k it) (hc : SndC T N k .nil) : SndE T N k (.dcm kx vx tg it own) := by
  intro X e G hN h
  unfold chkE at h
  split at h
  · rename_i x y t i scope pos
    simp only [Bool.and_eq_true, Bool.not_eq_true'] at h
    obtain ⟨⟨⟨⟨⟨⟨h1, h3⟩, h4⟩, h5⟩, h5'⟩, h6⟩, h7⟩ := h
    obtain ⟨p1, p2, p3, p4, p5⟩ := lc_parts (fs := []) he hi hc G hN h1 h4 h5 rfl h7
    obtain ⟨_, _, _, _, p6⟩ := lc_parts (fs := []) hk hi hc G hN h1 h4 h5 rfl h6
    have P := L2.pe_dc (pos := pos) G.calm G.nd p1 p2 p3 p4 p6 p5 (set_of h5')
    rw [own_snd] at P
    exact pe_le P (dcm_le h3)
  · cases h
end
end Flx

end
section
set_option Elab.async false
set_option linter.all false
set_option maxRecDepth 100000
set_option autoImplicit false
/-! FlxSound3: all expressions, statements, defs, the table. -/
namespace Flx
open PySem PySem.Spec PyProof.Rows
section
variable {T : List FDef} {N : List Str} {k : Nat}
def XE (T : List FDef) (N : List Str) (k : Nat) (ex : Ex) : Prop := SndE T N k ex ∧ SndT T N k ex ∧ SndW (T := T) (N := N) (k := k) ex
theorem leafX {ex : Ex} (h : SndE T N k ex) (ht : ∀ sc e, chkT T N sc ex e = plainT e) (hw : ∀ sc op x y r p, chkE T N sc ex (.BoolOp op (x :: y :: r) p) = false) : XE T N k ex :=
  ⟨h, fun X e G hN h1 h2 => truth_of (h X e G hN h1) (by rw [← ht X.env.scope e]; exact h2), fun X op x y r p G hN h1 _ => by rw [hw] at h1; cases h1⟩
mutual
theorem allE : ∀ ex : Ex, XE T N k ex
  | .var i => leafX (snd_var i) (fun _ _ => rfl) fun _ _ _ _ _ _ => rfl
  | .cint i => leafX (snd_int i) (fun _ _ => rfl) fun _ _ _ _ _ _ => rfl
  | .cstr i => leafX (snd_str i) (fun _ _ => rfl) fun _ _ _ _ _ _ => rfl
  | .cbl i => leafX (snd_bl i) (fun _ _ => rfl) fun _ _ _ _ _ _ => rfl
  | .cnon => leafX snd_non (fun _ _ => rfl) fun _ _ _ _ _ _ => rfl
  | .bin op a b => leafX (snd_bin (allE a).1 (allE b).1) (fun _ _ => rfl) fun _ _ _ _ _ _ => rfl
  | .neg a => leafX (snd_neg (allE a).1) (fun _ _ => rfl) fun _ _ _ _ _ _ => rfl
  | .cmp op a b => ⟨snd_cmp (allE a).1 (allE b).1, sndT_cmp (allE a).1 (allE b).1, fun X op x y r p G hN h1 _ => by have e : false = true := h1; cases e⟩
  | .cmp2 op op' a b c => ⟨snd_cmp2 (allE a).1 (allE b).1 (allE c).1, sndT_cmp2 (allE a).1 (allE b).1 (allE c).1, fun X op x y r p G hN h1 _ => by have e : false = true := h1; cases e⟩
  | .cmp3 op op' op2 a b c d => ⟨snd_cmp3 (allE a).1 (allE b).1 (allE c).1 (allE d).1, sndT_cmp3 (allE a).1 (allE b).1 (allE c).1 (allE d).1, fun X op x y r p G hN h1 _ => by have e : false = true := h1; cases e⟩
  | .and a b =>
    have w := sndW_and (allE a).2.1 (allE b).2.1 (allE b).2.2
    ⟨snd_and (allE a).1 (allE b).1, sndT_and w, w⟩
  | .or a b =>
    have w := sndW_or (allE a).2.1 (allE b).2.1 (allE b).2.2
    ⟨snd_or (allE a).1 (allE b).1, sndT_or w, w⟩
  | .not a => ⟨snd_not (allE a).1, sndT_not (allE a).2.1, fun X op x y r p G hN h1 _ => by have e : false = true := h1; cases e⟩
  | .ite c a b => leafX (snd_ite (allE c).2.1 (allE a).1 (allE b).1) (fun _ _ => rfl) fun _ _ _ _ _ _ => rfl
  | .tup es => leafX (snd_tup (sndA_of (allEs es))) (fun _ _ => rfl) fun _ _ _ _ _ _ => rfl
  | .lst es => leafX (snd_lst (sndA_of (allEs es))) (fun _ _ => rfl) fun _ _ _ _ _ _ => rfl
  | .ix a b => leafX (snd_ix (allE a).1 (allE b).1) (fun _ _ => rfl) fun _ _ _ _ _ _ => rfl
  | .sl a lo hi => leafX (snd_sl (allE a).1 (allO lo) (allO hi)) (fun _ _ => rfl) fun _ _ _ _ _ _ => rfl
  | .call f es => leafX (snd_call (sndA_of (allEs es))) (fun _ _ => rfl) fun _ _ _ _ _ _ => rfl
  | .blt f es => leafX (snd_blt (sndA_of (allEs es))) (fun _ _ => rfl) fun _ _ _ _ _ _ => rfl
  | .isi a t => leafX (snd_isi (allE a).1) (fun _ _ => rfl) fun _ _ _ _ _ _ => rfl
  | .mth m o es => leafX (snd_mth (allE o).1 (sndA_of (allEs es))) (fun _ _ => rfl) fun _ _ _ _ _ _ => rfl
  | .smt m o e => leafX (snd_smt (allE o).1 (allE e).1) (fun _ _ => rfl) fun _ _ _ _ _ _ => rfl
  | .dnw => leafX snd_dnw (fun _ _ => rfl) fun _ _ _ _ _ _ => rfl
  | .dsp a b => leafX (snd_dsp (allE a).1 (allE b).1) (fun _ _ => rfl) fun _ _ _ _ _ _ => rfl
  | .dix a b => leafX (snd_dix (allE a).1 (allE b).1) (fun _ _ => rfl) fun _ _ _ _ _ _ => rfl
  | .dgt a b c => leafX (snd_dgt (allE a).1 (allE b).1 (allE c).1) (fun _ _ => rfl) fun _ _ _ _ _ _ => rfl
  | .dsr a => leafX (snd_dsr (allE a).1) (fun _ _ => rfl) fun _ _ _ _ _ _ => rfl
  | .dcm kx vx tg it own => leafX (snd_dcm (allE kx).1 (allE vx).1 (allI it) sndC_nil) (fun _ _ => rfl) fun _ _ _ _ _ _ => rfl
  | .din neg a b => ⟨snd_din (allE a).1 (allE b).1, sndT_din (allE a).1 (allE b).1, fun X op x y r p G hN h1 _ => by have e : false = true := h1; cases e⟩
  | .sup o => leafX (snd_sup (allE o).1) (fun _ _ => rfl) fun _ _ _ _ _ _ => rfl
  | .lc2 elt tg it ifs tg1 it1 ifs1 own vs1 => leafX (snd_lc2 (allE elt).1 (allI it) (allC ifs) (allI it1) (allC ifs1)) (fun _ _ => rfl) fun _ _ _ _ _ _ => rfl
  | .lrg es => leafX (snd_lrg (allEs es)) (fun _ _ => rfl) fun _ _ _ _ _ _ => rfl
  | .lc elt tg it ifs own => leafX (snd_lc (allE elt).1 (allI it) (allC ifs)) (fun _ _ => rfl) fun _ _ _ _ _ _ => rfl
theorem allI : ∀ it : It, SndI T N k it
  | .seq e => sndI_seq (allE e).1
  | .rng es => sndI_rng (allEs es)
  | .rgd a b => sndI_rgd (allE a).1 (allE b).1
  | .enm e => sndI_enm (allE e).1
  | .zip a b => sndI_zip (allE a).1 (allE b).1
  | .rev e => sndI_rev (allE e).1
theorem allEs : ∀ es : Exs, AllE (T := T) (N := N) (k := k) es
  | .nil => trivial
  | .cons a es => ⟨(allE a).1, allEs es⟩
theorem allO : ∀ o : ExO, SndO T N k o
  | .none => snd_none
  | .some a => snd_some (allE a).1
theorem allC : ∀ es : Exs, SndC T N k es
  | .nil => sndC_nil
  | .cons a .nil => sndC_one (allE a).2.1
  | .cons a (.cons b es) => fun X l G hN h => by have e : false = true := h; cases e
end

/-! ### statements -/
/-- the context of a def's body: nothing leaves it but by return -/
structure Gs (X : L2.Cx) (T : List FDef) (k : Nat) : Prop extends Gd X T k where
  fn' : ∀ x, X.fn x = true
  xe : X.xe = fun _ _ => False
  kind : X.env.scope.kind = .function
def SndS (T : List FDef) (N : List Str) (k : Nat) (sm : Sm) : Prop := ∀ (X : L2.Cx) (s : Stmt), Gs X T k → X.N = N → chkS T N X.env.scope sm s = true → L2.PS X s (liftS X.K (wS (callW T k) sm))
def SndSs (T : List FDef) (N : List Str) (k : Nat) (sm : Sms) : Prop := ∀ (X : L2.Cx) (s : List Stmt), Gs X T k → X.N = N → chkSs T N X.env.scope sm s = true → L2.PSs X s (liftS X.K (wSs (callW T k) sm))
theorem never_of {X : L2.Cx} (G : Gs X T k) : PassesOwn (model X.prog X.w) X.A X.env X.xe := by
  rw [G.xe]
  exact PassesOwn.never
theorem loc_of {sc : Scope} {x : Str} (h : locB sc (fun _ => true) x = true) : L2.Loc sc x := by
  unfold locB at h
  split at h
  · exact .inl (by assumption)
  · exact .inr (by assumption)
  · cases h
theorem sw_false {e : Expr} {y : Str} {yp : Pos} {l : Nat} {env : Env} (hk : env.scope.kind = .function) (h : isComp e = false ∨ isLC e = true) :
    (swapsWith e (some (.Name y yp)) l env = pure false) ∨ ∃ elt gs scope p, e = .ListComp elt gs scope p ∧ env.scope.names.lookup y = some .local ∧ swapsWith e (some (.Name y yp)) l env = pure true := by
  rcases h with h | h
  · exact .inl (sw_of h)
  · cases e <;> first | (cases h; done) | skip
    rename_i elt gs scope p
    by_cases h1 : env.scope.names.lookup y = some .local ∧ (yp.line == p.line) = true ∧ (scope.names.any fun (n, k) => n == y && (k == .local || k == .cell)) = false
    · exact .inr ⟨elt, gs, scope, p, rfl, h1.1, L2.sw_true hk h1.1 h1.2.1 h1.2.2⟩
    · refine .inl ?_
      have hb : env.blockKind = .function := by unfold Env.blockKind; rw [hk]; rfl
      have e0 : swapsWith (.ListComp elt gs scope p) (some (.Name y yp)) l env = pure (env.blockKind == .function && env.kindOf y == some .local && yp.line == p.line && !(scope.names.any fun (n, k) => n == y && (k == .local || k == .cell))) := by
        unfold swapsWith
        rfl
      rw [e0]
      congr 1
      rw [hb]
      cases hl : (yp.line == p.line) with
      | false => simp
      | true =>
        cases ha : (scope.names.any fun (n, k) => n == y && (k == .local || k == .cell)) with
        | true => simp
        | false =>
          have hy : ¬ env.scope.names.lookup y = some .local := fun g => h1 ⟨g, hl, ha⟩
          have ky : (env.kindOf y == some .local) = false := by
            show (env.scope.names.lookup y == some .local) = false
            cases g : (env.scope.names.lookup y == some NameKind.local) with
            | false => rfl
            | true => exact absurd (eq_of_beq g) hy
          rw [ky]; rfl
theorem sw_dc {kx vx : Expr} {gs : List Comprehension} {scope : Scope} {p : Pos} {y : Str} {yp : Pos} {l : Nat} {env : Env} (hk : env.scope.kind = .function) :
    (swapsWith (.DictComp kx vx gs scope p) (some (.Name y yp)) l env = pure false) ∨ (env.scope.names.lookup y = some .local ∧ swapsWith (.DictComp kx vx gs scope p) (some (.Name y yp)) l env = pure true) := by
  have hb : env.blockKind = .function := by unfold Env.blockKind; rw [hk]; rfl
  have e0 : swapsWith (.DictComp kx vx gs scope p) (some (.Name y yp)) l env = pure (env.blockKind == .function && env.kindOf y == some .local && yp.line == p.line && !(scope.names.any fun (n, k) => n == y && (k == .local || k == .cell))) := by
    unfold swapsWith
    rfl
  rw [e0, hb]
  cases hl : (yp.line == p.line) with
  | false => left; congr 1; simp
  | true =>
    cases ha : (scope.names.any fun (n, k) => n == y && (k == .local || k == .cell)) with
    | true => left; congr 1; simp
    | false =>
      by_cases hy : env.scope.names.lookup y = some .local
      · right
        refine ⟨hy, ?_⟩
        have ky : env.kindOf y = some .local := hy
        rw [ky]; rfl
      · left
        have ky : (env.kindOf y == some .local) = false := by
          show (env.scope.names.lookup y == some .local) = false
          cases g : (env.scope.names.lookup y == some NameKind.local) with
          | false => rfl
          | true => exact absurd (eq_of_beq g) hy
        rw [ky]; rfl
theorem snd_set {i : Nat} {x : Ex} (hx : SndE T N k x) (hdc : ∀ kx vx tg it own, x = .dcm kx vx tg it own → SndE T N k kx ∧ SndE T N k vx ∧ SndI T N k it ∧ SndC T N k .nil) (hlc : ∀ elt tg it ifs own, x = .lc elt tg it ifs own → SndE T N k elt ∧ SndI T N k it ∧ SndC T N k ifs) (hlc2 : ∀ elt tg it ifs tg1 it1 ifs1 own vs1, x = .lc2 elt tg it ifs tg1 it1 ifs1 own vs1 → SndE T N k elt ∧ SndI T N k it ∧ SndC T N k ifs ∧ SndI T N k it1 ∧ SndC T N k ifs1) : SndS T N k (.set i x) := by
  intro X s G hN h
  unfold chkS at h
  split at h
  · rename_i y yp e pos
    simp only [Bool.and_eq_true, decide_eq_true_eq] at h
    obtain ⟨⟨⟨h1, h2⟩, h3⟩, h4⟩ := h
    have fin : ∀ {te : L2.TE}, (∀ σ H Q, liftE X.K (wE (callW T k) x) σ H Q → te σ H Q) → ∀ D σ H, liftS X.K (wS (callW T k) (.set i x)) D σ H → L2.tAsg te (L2.gName i) D σ H := by
      rintro te hle D σ H ⟨m, S, σd, E, r, g, o, q⟩
      rw [wS] at q
      refine hle _ _ _ (stepE (mE x) r g q fun d S1 m1 H1 v x1 r1 g1 d1 q1 => ?_)
      exact o.nx _ _ _ _ _ x1 r1 (g1.set d1) q1
    by_cases hd : isDC e = true
    · cases e <;> first | (cases hd; done) | skip
      rename_i kx vx gs scope p
      rcases sw_dc (kx := kx) (vx := vx) (gs := gs) (scope := scope) (p := p) (y := y) (yp := yp) (l := pos.line) G.kind with hs | ⟨hy, hs⟩
      · exact ps_le (L2.ps_set G.nd (by rw [hN]; exact h1) (loc_of h2) (hx X _ G.toGd hN h3) hs (.inl (G.fn' _))) (fin fun _ _ _ q => q)
      · cases x <;> first | (have e : false = true := h3; cases e; done) | skip
        rename_i kx' vx' tg it own
        obtain ⟨hk, he, hi, hc⟩ := hdc _ _ _ _ _ rfl
        unfold chkE at h3
        split at h3
        · rename_i xk xv t i' scope' pos' heq
          cases heq
          simp only [Bool.and_eq_true, Bool.not_eq_true'] at h3
          obtain ⟨⟨⟨⟨⟨⟨h31, h33⟩, h34⟩, h35⟩, h35'⟩, h36⟩, h37⟩ := h3
          obtain ⟨p1, p2, p3, p4, p5⟩ := lc_parts (fs := []) he hi hc G.toGd hN h31 h34 h35 rfl h37
          obtain ⟨_, _, _, _, p6⟩ := lc_parts (fs := []) hk hi hc G.toGd hN h31 h34 h35 rfl h36
          have P := L2.ps_setDc (spos := pos) G.calm G.nd (by rw [hN]; exact h1) hy hs p1 p2 p3 p4 p6 p5 (set_of h35')
          rw [own_snd] at P
          exact ps_le P (fin (dcm_le h33))
        · cases h3
    have h4' : isComp e = false ∨ isLC e = true := by
      simp only [Bool.or_eq_true, Bool.not_eq_true'] at h4
      rcases h4 with h | h
      · exact h
      · exact absurd h hd
    rcases sw_false (l := pos.line) G.kind h4' with hs | ⟨elt, gs, scope, p, rfl, hy, hs⟩
    · exact ps_le (L2.ps_set G.nd (by rw [hN]; exact h1) (loc_of h2) (hx X _ G.toGd hN h3) hs (.inl (G.fn' _))) (fin fun _ _ _ q => q)
    · -- a comprehension, exchanged with its variables
      cases x <;> first | (have e : false = true := h3; cases e; done) | skip
      · rename_i elt' tg it ifs tg1 it1 ifs1 own vs1
        obtain ⟨he, hi, hc, hi1, hc1⟩ := hlc2 _ _ _ _ _ _ _ _ _ rfl
        unfold chkE at h3
        split at h3
        · rename_i y' t i' fs t1 i1' fs1 scope' pos' heq
          cases heq
          simp only [Bool.and_eq_true, Bool.not_eq_true'] at h3
          obtain ⟨⟨⟨⟨⟨⟨⟨⟨⟨⟨⟨⟨h31, h33⟩, h34⟩, h35⟩, h35'⟩, h36⟩, h37⟩, h38⟩, h39⟩, h310⟩, h311⟩, h312⟩, h313⟩ := h3
          obtain ⟨p1, p2, p3, p4, p5⟩ := lc_parts he hi hc G.toGd hN h31 h34 h35 h36 h37
          obtain ⟨p6, p7, p8⟩ := lc2_parts hi1 hc1 G.toGd hN h38 h39 h310
          have P := L2.ps_setLc2 (spos := pos) G.calm G.nd (by rw [hN]; exact h1) hy hs p1 p2 (vs1 := vs1) (by rw [own_snd]; exact all_in h312) p3 p4 p6 p7 p8 p5 (set_of h35') (fun _ => set_of h313)
          rw [own_snd] at P
          exact ps_le P (fin (lc2_le h33 h311))
        · cases h3
      · rename_i elt' tg it ifs own
        obtain ⟨he, hi, hc⟩ := hlc _ _ _ _ _ rfl
        unfold chkE at h3
        split at h3
        · rename_i y' t i' fs scope' pos' heq
          cases heq
          simp only [Bool.and_eq_true, Bool.not_eq_true'] at h3
          obtain ⟨⟨⟨⟨⟨⟨h31, h33⟩, h34⟩, h35⟩, h35'⟩, h36⟩, h37⟩ := h3
          obtain ⟨p1, p2, p3, p4, p5⟩ := lc_parts he hi hc G.toGd hN h31 h34 h35 h36 h37
          have P := L2.ps_setLc (spos := pos) G.calm G.nd (by rw [hN]; exact h1) hy hs p1 p2 p3 p4 p5 (set_of h35')
          rw [own_snd] at P
          exact ps_le P (fin (lc_le h33))
        · cases h3
  · cases h
theorem snd_setT {ts : Tgs} {x : Ex} (hx : SndE T N k x) : SndS T N k (.setT ts x) := by
  intro X s G hN h
  unfold chkS at h
  split at h
  · rename_i l c p e pos
    simp only [Bool.and_eq_true, Bool.not_eq_true'] at h
    obtain ⟨⟨⟨h1, h2⟩, h3⟩, h4⟩ := h
    have hg : L2.PG X (.Tuple l c p) (gR X.K (.tp ts)) := snd_tg (.tp ts) X (fun _ => true) _ G.calm G.nd (fun x _ => G.fn' x) (by unfold chkG; rw [hN]; exact h1)
    have hw : swappedStores [.Tuple l c p] e X.env = pure none := by cases e <;> first | rfl | cases h4
    refine ps_le (L2.ps_asg (hx X _ G.toGd hN h2) hg (by cases e <;> first | rfl | cases h3) hw rfl) ?_
    rintro D σ H ⟨m, S, σd, E, r, g, o, q⟩
    rw [wS] at q
    refine stepE (mE x) r g q fun d S1 m1 H1 v x1 r1 g1 d1 q1 => ?_
    obtain ⟨σ', e1, q1⟩ := q1
    exact gR_ok (.tp ts) g1 d1 e1 fun σ2 g2 => o.nx _ _ _ _ _ x1 r1 g2 q1
  · cases h
theorem snd_setIx {o i x : Ex} (ho : SndE T N k o) (hi : SndE T N k i) (hx : SndE T N k x) : SndS T N k (.setIx o i x) := by
  intro X s G hN h
  unfold chkS at h
  split at h
  · rename_i y z p e pos
    simp only [Bool.and_eq_true, Bool.not_eq_true'] at h
    obtain ⟨⟨⟨⟨h1, h2⟩, h3⟩, h4⟩, h5⟩ := h
    have hg := L2.pg_sub (X := X) (pos := p) (ho X _ G.toGd hN h3) (hi X _ G.toGd hN h4) L2.set_list (fun v => by cases z <;> first | rfl | cases h5)
    refine ps_le (L2.ps_asg (hx X _ G.toGd hN h1) hg (by cases e <;> first | rfl | cases h2) (by cases e <;> rfl) rfl) ?_
    rintro D σ H ⟨m, S, σd, E, r, g, oo, q⟩
    rw [wS] at q
    refine stepE (mE x) r g q fun d S1 m1 H1 v x1 r1 g1 d1 q1 => stepE (mE o) r1 g1 q1 fun d' S2 m2 H2 v' x2 r2 g2 d2 q2 => stepE (mE i) r2 g2 q2 fun d'' S3 m3 H3 v'' x3 r3 g3 d3 q3 => ?_
    refine setIx_ok r3 (d2.keep r2 x3) d3 ((d1.keep r1 x2).keep r2 x3) (setIxW_mono (fun S4 q4 => ?_) q3)
    intro H4 x4 r4
    exact oo.nx _ _ _ _ _ (((x1.trans x2).trans x3).trans x4) r4 (g3.keep r3 x4) q4
  · cases h
theorem snd_setDx {o i x : Ex} (ho : SndE T N k o) (hi : SndE T N k i) (hx : SndE T N k x) : SndS T N k (.setDx o i x) := by
  intro X s G hN h
  unfold chkS at h
  split at h
  · rename_i y z p e pos
    simp only [Bool.and_eq_true, Bool.not_eq_true'] at h
    obtain ⟨⟨⟨⟨h1, h2⟩, h3⟩, h4⟩, h5⟩ := h
    have hg := L2.pg_sub (X := X) (pos := p) (ho X _ G.toGd hN h3) (hi X _ G.toGd hN h4) (set_dict (by have := G.toGd.room.units; omega)) (fun v => by cases z <;> first | rfl | cases h5)
    refine ps_le (L2.ps_asg (hx X _ G.toGd hN h1) hg (by cases e <;> first | rfl | cases h2) (by cases e <;> rfl) rfl) ?_
    rintro D σ H ⟨m, S, σd, E, r, g, oo, q⟩
    rw [wS] at q
    refine stepE (mE x) r g q fun d S1 m1 H1 v x1 r1 g1 d1 q1 => stepE (mE o) r1 g1 q1 fun d' S2 m2 H2 v' x2 r2 g2 d2 q2 => stepE (mE i) r2 g2 q2 fun d'' S3 m3 H3 v'' x3 r3 g3 d3 q3 => ?_
    refine setDx_ok r3 (d2.keep r2 x3) d3 ((d1.keep r1 x2).keep r2 x3) (setDxW_mono (fun S4 q4 => ?_) q3)
    intro H4 x4 r4
    exact oo.nx _ _ _ _ _ (((x1.trans x2).trans x3).trans x4) r4 (g3.keep r3 x4) q4
  · cases h
theorem snd_ex {x : Ex} (hx : SndE T N k x) : SndS T N k (.ex x) := by
  intro X s G hN h
  unfold chkS at h
  split at h
  · rename_i e pos
    simp only [Bool.and_eq_true] at h
    refine ps_le (L2.ps_expr (hx X _ G.toGd hN h.1) (by have h2 := h.2; cases e <;> first | rfl | cases h2)) ?_
    rintro D σ H ⟨m, S, σd, E, r, g, o, q⟩
    rw [wS] at q
    exact stepE (mE x) r g q fun d S1 m1 H1 v x1 r1 g1 d1 q1 => o.nx _ _ _ _ _ x1 r1 g1 q1
  · cases h
theorem snd_if {c : Ex} {a b : Sms} (hc : SndT T N k c) (ha : SndSs T N k a) (hb : SndSs T N k b) : SndS T N k (.ite c a b) := by
  intro X s G hN h
  unfold chkS at h
  split at h
  · simp only [Bool.and_eq_true] at h
    refine ps_le (L2.ps_if (hc X _ G.toGd hN h.1.1.1 h.1.1.2) (ha X _ G hN h.1.2) (hb X _ G hN h.2)) ?_
    rintro D σ H ⟨m, S, σd, E, r, g, o, q⟩
    rw [wS] at q
    refine stepT (mT c) r g q fun d S1 m1 H1 x1 r1 g1 q1 => ?_
    cases d with
    | true =>
      rw [if_pos rfl] at q1 ⊢
      exact ⟨m1, S1, σd, E, r1, g1, o.shift x1, q1⟩
    | false =>
      rw [if_neg Bool.false_ne_true] at q1 ⊢
      exact ⟨m1, S1, σd, E, r1, g1, o.shift x1, q1⟩
  · cases h
theorem snd_for {tg : Tg} {it : It} {b : Sms} (hi : SndI T N k it) (hb : SndSs T N k b) : SndS T N k (.for tg it b) := by
  intro X s G hN h
  unfold chkS at h
  split at h
  · simp only [Bool.and_eq_true, Bool.not_eq_true'] at h
    obtain ⟨⟨⟨h1, h2⟩, h3⟩, h4⟩ := h
    have hg := snd_tg tg X (fun _ => true) _ G.calm G.nd (fun x _ => G.fn' x) (by rw [hN]; exact h1)
    refine ps_le (L2.ps_for (never_of G) G.calm (hi X tg _ _ _ _ G.toGd hN h1 h2) hg (hb X _ G hN h4) (set_of h3)) ?_
    rintro D σ H ⟨m, S, σd, E, r, g, o, q⟩
    rw [wS] at q
    refine ⟨m, S, σd, r, g, wI_mono (callW_mono T k) it _ _ _ _ (fun G' xs S1 q1 => ?_) q⟩
    intro m1 H1 J x1 r1 hJ
    exact for_ok r1 (g.keep r x1) (o.shift x1) hJ (fun _ _ _ z => z) q1
  · cases h
theorem snd_whl {c : Ex} {b : Sms} (hc : SndT T N k c) (hb : SndSs T N k b) : SndS T N k (.whl c b) := by
  intro X s G hN h
  unfold chkS at h
  split at h
  · simp only [Bool.and_eq_true] at h
    refine ps_le (L2.ps_while (never_of G) (hc X _ G.toGd hN h.1.1 h.1.2) (hb X _ G hN h.2)) ?_
    rintro D σ H ⟨m, S, σd, E, r, g, o, q⟩
    rw [wS] at q
    obtain ⟨n, q⟩ := q
    exact whl_ok (mT c) r g o (fun _ _ _ z => z) (fun _ _ _ z => z) q
  · cases h
theorem star_any {l : List Expr} (h : noStar l = true) : (l.any fun | .Starred .. => true | _ => false) = false := by
  induction l with
  | nil => rfl
  | cons e r ih =>
    unfold noStar at h ih
    rw [List.all_cons, Bool.and_eq_true] at h
    rw [List.any_cons, ih h.2]
    cases e <;> first | rfl | (cases h.1)
theorem swap2 {x y : Str} {px py kp kp2 : Pos} {kt k2 : Nat} {a b : Expr} {env : Env} (hk : env.scope.kind = .function) (hx : env.scope.names.lookup x = some .local) (hy : env.scope.names.lookup y = some .local) (hxy : (x == y) = false) (hl : (py.line == px.line) = true)
    (hs : noStar [a, b] = true) (h1 : [a, b].all (foldedForSure 8) = false) (h2 : [a, b].all (constantsAlone 8) = false) :
    swappedStores [.Tuple [.Name x px, .Name y py] kt kp] (.Tuple [a, b] k2 kp2) env = pure (some [x, y]) := by
  have hb : env.blockKind = .function := by unfold Env.blockKind; rw [hk]; rfl
  have kx : (env.kindOf x == some .local) = true := by show (env.scope.names.lookup x == some .local) = true; rw [hx]; rfl
  have ky : (env.kindOf y == some .local) = true := by show (env.scope.names.lookup y == some .local) = true; rw [hy]; rfl
  have hst := star_any hs
  have hxy' : ¬ x = y := by simpa using hxy
  have hd : [x, y].eraseDups = [x, y] := by
    have h' : (y == x) = false := by rw [← hxy]; exact Bool.beq_comm
    simp [List.eraseDups, List.eraseDupsBy, List.eraseDupsBy.loop, h']
  unfold swappedStores
  simp only [List.length_cons, List.length_nil, hb, hst, List.filterMap_cons, List.filterMap_nil, kx, ky, hl, List.head?_cons, Option.map_some, Option.getD_some, Expr.pos, hd, h1, h2]
  have s1 : isStar a = false := by unfold noStar at hs; simp at hs; exact hs.1
  have s2 : isStar b = false := by unfold noStar at hs; simp at hs; exact hs.2
  simp
  rw [hd]
  split
  · cases s1
  · split
    · cases s2
    · rfl
theorem swap3 {x y z : Str} {px py pz kp kp2 : Pos} {kt k2 : Nat} {a b c : Expr} {env : Env} (hk : env.scope.kind = .function) (hx : env.scope.names.lookup x = some .local) (hy : env.scope.names.lookup y = some .local) (hz : env.scope.names.lookup z = some .local)
    (hxy : (x == y) = false) (hxz : (x == z) = false) (hyz : (y == z) = false) (hl : (py.line == px.line) = true) (hl2 : (pz.line == px.line) = true)
    (hs : noStar [a, b, c] = true) (h1 : [a, b, c].all (foldedForSure 8) = false) (h2 : [a, b, c].all (constantsAlone 8) = false) :
    swappedStores [.Tuple [.Name x px, .Name y py, .Name z pz] kt kp] (.Tuple [a, b, c] k2 kp2) env = pure (some [x, y, z]) := by
  have hb : env.blockKind = .function := by unfold Env.blockKind; rw [hk]; rfl
  have kx : (env.kindOf x == some .local) = true := by show (env.scope.names.lookup x == some .local) = true; rw [hx]; rfl
  have ky : (env.kindOf y == some .local) = true := by show (env.scope.names.lookup y == some .local) = true; rw [hy]; rfl
  have kz : (env.kindOf z == some .local) = true := by show (env.scope.names.lookup z == some .local) = true; rw [hz]; rfl
  have hst := star_any hs
  have hd : [x, y, z].eraseDups = [x, y, z] := by
    have h1 : (y == x) = false := by rw [← hxy]; exact Bool.beq_comm
    have h2 : (z == x) = false := by rw [← hxz]; exact Bool.beq_comm
    have h3 : (z == y) = false := by rw [← hyz]; exact Bool.beq_comm
    simp [List.eraseDups, List.eraseDupsBy, List.eraseDupsBy.loop, h1, h2, h3]
  unfold swappedStores
  simp only [List.length_cons, List.length_nil, hb, hst, List.filterMap_cons, List.filterMap_nil, kx, ky, kz, hl, hl2, List.head?_cons, Option.map_some, Option.getD_some, Expr.pos, hd, h1, h2]
  have s1 : isStar a = false := by unfold noStar at hs; simp at hs; exact hs.1
  have s2 : isStar b = false := by unfold noStar at hs; simp at hs; exact hs.2.1
  have s3 : isStar c = false := by unfold noStar at hs; simp at hs; exact hs.2.2
  simp
  rw [hd]
  split
  · cases s1
  · split
    · cases s2
    · split
      · cases s3
      · rfl
theorem snd_par {is : List Nat} {es : Exs} (hs : SndA T N k es) : SndS T N k (.par is es) := by
  intro X s G hN h
  unfold chkS at h
  split at h
  · rename_i l kt pt r k2 pt2 pos
    simp only [Bool.and_eq_true, decide_eq_true_eq, Bool.not_eq_true'] at h
    obtain ⟨⟨⟨⟨h1, h2⟩, h3⟩, h4⟩, h5⟩ := h
    have hst := noStar_chk h2
    unfold parB at h1
    split at h1
    · rename_i i j x px y py
      simp only [Bool.and_eq_true, decide_eq_true_eq, Bool.not_eq_true', beq_iff_eq] at h1
      obtain ⟨⟨⟨⟨⟨⟨e1, e2⟩, e3⟩, e4⟩, e5⟩, e6⟩, e7⟩ := h1
      match r, h3 with
      | [a, b], _ =>
      refine ps_le (L2.ps_par G.calm G.nd (by rw [hN]; exact e1) (by rw [hN]; exact e2) (by simpa using e3) e5 e6 (hs X _ G.toGd hN h2) (swap2 G.kind e5 e6 e4 (by rw [e7]; simp) hst h4 h5)) ?_
      rintro D σ H ⟨m, S, σd, E, r, g, o, q⟩
      rw [wS] at q
      refine stepA (mA es) r g q fun xs S1 m1 H1 vs x1 r1 g1 d1 q1 => ?_
      match xs, q1 with
      | [d1', d2'], q1 =>
      obtain ⟨v, rr, rfl, k1, k2⟩ := d1
      obtain ⟨w, rr2, rfl, k3, k4⟩ := k2
      have k4 : rr2 = [] := k4
      subst k4
      exact ⟨v, w, rfl, o.nx _ _ _ _ _ x1 r1 ((g1.set k1).set k3) q1⟩
    · rename_i i j l x px y py z pz
      simp only [Bool.and_eq_true, decide_eq_true_eq, Bool.not_eq_true', beq_iff_eq] at h1
      obtain ⟨⟨⟨⟨⟨⟨⟨⟨⟨⟨⟨⟨⟨e1, e2⟩, e3⟩, e4⟩, e5⟩, e6⟩, e7⟩, e8⟩, e9⟩, e10⟩, e11⟩, e12⟩, e13⟩, e14⟩ := h1
      match r, h3 with
      | [a, b, c], _ =>
      refine ps_le (L2.ps_par3 G.calm G.nd (by rw [hN]; exact e1) (by rw [hN]; exact e2) (by rw [hN]; exact e3) (by simpa using e4) (by simpa using e5) (by simpa using e6) e10 e11 e12 (hs X _ G.toGd hN h2) (swap3 G.kind e10 e11 e12 e7 e8 e9 (by rw [e13]; simp) (by rw [e14]; simp) hst h4 h5)) ?_
      rintro D σ H ⟨m, S, σd, E, r, g, o, q⟩
      rw [wS] at q
      refine stepA (mA es) r g q fun xs S1 m1 H1 vs x1 r1 g1 d1 q1 => ?_
      match xs, q1 with
      | [d1', d2', d3'], q1 =>
      obtain ⟨v, rr, rfl, k1, k2⟩ := d1
      obtain ⟨w, rr2, rfl, k3, k4⟩ := k2
      obtain ⟨u, rr3, rfl, k5, k6⟩ := k4
      have k6 : rr3 = [] := k6
      subst k6
      exact ⟨v, w, u, rfl, o.nx _ _ _ _ _ x1 r1 (((g1.set k1).set k3).set k5) q1⟩
    · cases h1
  · cases h
theorem snd_ret {x : Ex} (hx : SndE T N k x) : SndS T N k (.ret x) := by
  intro X s G hN h
  unfold chkS at h
  split at h
  · refine ps_le (L2.ps_ret (hx X _ G.toGd hN h)) ?_
    rintro D σ H ⟨m, S, σd, E, r, g, o, q⟩
    rw [wS] at q
    exact stepE (mE x) r g q fun d S1 m1 H1 v x1 r1 g1 d1 q1 => o.rt _ _ _ _ _ x1 r1 d1 q1
  · cases h
theorem snd_retN : SndS T N k .retN := by
  intro X s G hN h
  unfold chkS at h
  split at h
  · refine ps_le L2.ps_retN ?_
    rintro D σ H ⟨m, S, σd, E, r, g, o, q⟩
    rw [wS] at q
    exact o.rt _ _ _ _ _ .refl r (show RD X.K m H .non .non from rfl) q
  · cases h
theorem snd_brk : SndS T N k .brk := by
  intro X s G hN h
  unfold chkS at h
  split at h
  · refine ps_le L2.ps_break ?_
    rintro D σ H ⟨m, S, σd, E, r, g, o, q⟩
    rw [wS] at q
    exact o.bk _ _ _ _ _ .refl r g q
  · cases h
theorem snd_cnt : SndS T N k .cnt := by
  intro X s G hN h
  unfold chkS at h
  split at h
  · refine ps_le L2.ps_continue ?_
    rintro D σ H ⟨m, S, σd, E, r, g, o, q⟩
    rw [wS] at q
    exact o.ct _ _ _ _ _ .refl r g q
  · cases h
theorem snd_pas : SndS T N k .pas := by
  intro X s G hN h
  unfold chkS at h
  split at h
  · refine ps_le L2.ps_pass ?_
    rintro D σ H ⟨m, S, σd, E, r, g, o, q⟩
    rw [wS] at q
    exact o.nx _ _ _ _ _ .refl r g q
  · cases h
theorem snd_snil : SndSs T N k .nil := by
  intro X s G hN h
  rw [chkSs] at h
  have e : s = [] := by simpa using h
  subst e
  refine pss_le L2.pss_nil ?_
  rintro D σ H ⟨m, S, σd, E, r, g, o, q⟩
  rw [wSs] at q
  exact o.nx _ _ _ _ _ .refl r g q
theorem snd_scons {a : Sm} {as : Sms} (ha : SndS T N k a) (hs : SndSs T N k as) : SndSs T N k (.cons a as) := by
  intro X s G hN h
  cases s with
  | nil => rw [chkSs] at h; cases h
  | cons s ss =>
    rw [chkSs] at h
    simp only [Bool.and_eq_true] at h
    refine pss_le (L2.pss_cons (ha X _ G hN h.1) (hs X _ G hN h.2)) ?_
    rintro D σ H ⟨m, S, σd, E, r, g, o, q⟩
    rw [wSs] at q
    refine ⟨m, S, σd, _, r, g, ?_, q⟩
    exact ⟨fun m' S' H' σd' σ' x r' g' q' => ⟨m', S', σd', E, r', g', o.shift x, q'⟩, o.rt, o.bk, o.ct⟩
mutual
theorem allS : ∀ s : Sm, SndS T N k s
  | .set i x => snd_set (allE x).1 (fun kx vx tg it own _ => ⟨(allE kx).1, (allE vx).1, allI it, sndC_nil⟩) (fun elt tg it ifs own _ => ⟨(allE elt).1, allI it, allC ifs⟩) (fun elt tg it ifs tg1 it1 ifs1 own vs1 _ => ⟨(allE elt).1, allI it, allC ifs, allI it1, allC ifs1⟩)
  | .setT ts x => snd_setT (allE x).1
  | .par is es => snd_par (sndA_of (allEs es))
  | .setIx o i x => snd_setIx (allE o).1 (allE i).1 (allE x).1
  | .setDx o i x => snd_setDx (allE o).1 (allE i).1 (allE x).1
  | .ex x => snd_ex (allE x).1
  | .ite c a b => snd_if (allE c).2.1 (allSs a) (allSs b)
  | .for tg it b => snd_for (allI it) (allSs b)
  | .whl c b => snd_whl (allE c).2.1 (allSs b)
  | .ret x => snd_ret (allE x).1
  | .retN => snd_retN
  | .brk => snd_brk
  | .cnt => snd_cnt
  | .pas => snd_pas
theorem allSs : ∀ s : Sms, SndSs T N k s
  | .nil => snd_snil
  | .cons a as => snd_scons (allS a) (allSs as)
end

/-! ### defs -/
/-- a def of the text: its statement, its names (parameters first) -/
structure PDef where
  st : Stmt
  ns : List Str
/-- the table's looks: the bodies, the scopes -/
def okDef (T : List FDef) (fd : FDef) (p : PDef) : Bool :=
  chkSs T p.ns (L2.defScope p.st) fd.body (L2.defBody p.st) && decide (fd.nn = p.ns.length) && decide (fd.np ≤ fd.nn) && decide (p.ns.Nodup) &&
    (match (L2.defScope p.st).kind with | .function => true | _ => false) && !(L2.defScope p.st).isCoroutine && !(L2.defScope p.st).isGenerator &&
    ((p.ns.take fd.np).all fun x => match (L2.defScope p.st).names.lookup x with | some .local => true | some .cell => true | _ => false) &&
    ((L2.defScope p.st).names.all fun y => match y.2 with | .free => false | _ => true)
theorem scope_of {T : List FDef} {fd : FDef} {p : PDef} (h : okDef T fd p = true) : L2.FnScope p.ns (p.ns.take fd.np) (L2.defScope p.st) ∧ chkSs T p.ns (L2.defScope p.st) fd.body (L2.defBody p.st) = true ∧ fd.nn = p.ns.length ∧ (p.ns.take fd.np).length = fd.np := by
  unfold okDef at h
  simp only [Bool.and_eq_true, decide_eq_true_eq, Bool.not_eq_true', List.all_eq_true] at h
  obtain ⟨⟨⟨⟨⟨⟨⟨⟨h1, h2⟩, h3⟩, h4⟩, h5⟩, h6⟩, h7⟩, h8⟩, h9⟩ := h
  have hl : (p.ns.take fd.np).length = fd.np := by rw [List.length_take]; omega
  refine ⟨⟨?_, h6, h7, h4, by rw [hl], fun x hx => ?_, fun y hy => ?_⟩, h1, h2, hl⟩
  · split at h5
    · assumption
    · cases h5
  · have q := h8 x hx
    split at q
    · exact .inl (by assumption)
    · exact .inr (by assumption)
    · cases q
  · have q := h9 y hy
    intro e
    rw [e] at q
    cases q
/-- a def behind the top: where it stands, how its arguments bind -/
structure Here (K : K') (mg : Str → Option Value) (fd : FDef) (p : PDef) : Prop where
  ex : ∃ (f : Addr) (d : FuncData), mg fd.name = some (.ref f) ∧ L2.Fun K fd.name fd.name p.st f d ∧ L2.Binds K d (p.ns.take fd.np) []
theorem start_of {K : K'} {m : List Addr} {H : L2.Hp} {N : List Str} {ds : List D} {vs : List L2.V} (h : RDs K m H ds vs) (n : Nat) (hn : n = N.length) (hl : ds.length ≤ n) : RSg K m H (startD n ds) (L2.start N vs) := by
  have hv := h.length
  refine ⟨by unfold startD L2.start; simp; omega, fun i d e => ?_⟩
  unfold startD at e
  by_cases hi : i < ds.length
  · rw [List.getElem?_append_left (by simpa using hi), List.getElem?_map] at e
    cases q : ds[i]? with
    | none => rw [q] at e; cases e
    | some d' =>
      rw [q] at e
      have e' : d' = d := by
        injection e with e; injection e
      subst e'
      obtain ⟨v, e1, e2⟩ := h.get q
      refine ⟨v, ?_, e2⟩
      unfold L2.start
      rw [List.getElem?_append_left (by rw [List.length_map, ← hv]; exact hi), List.getElem?_map, e1]
      rfl
  · rw [List.getElem?_append_right (by simpa using hi), List.getElem?_replicate] at e
    split at e <;> cases e
theorem step_ok {P : Program} {w : World} {K : K'} {mg : Str → Option Value} {base : Heap} {T : List FDef} {k f : Nat} {fd : FDef} {p : PDef} {fa : Addr} {d : FuncData} (hf : T[f]? = some fd) (hok : okDef T fd p = true) (hb : ∀ x ∈ builtins, mg x = none)
    (ih : ∀ (f : Nat) (fd : FDef), T[f]? = some fd → FnAt P w K mg base T k f fd) (F : L2.Fun K fd.name fd.name p.st fa d) : L2.FnOk P w K mg base L2.CX0 (k + 1) fa d (p.ns.take fd.np) (liftSp K (callW T (k + 1) f)) := by
  obtain ⟨S, c, hn, hlen⟩ := scope_of hok
  refine F.ok S (fun vs H Q E h => ?_) fun cdv A outer s H vs Q E hr h => ?_
  · obtain ⟨m, S', ds, _, r, fd', e, hl', _⟩ := h
    rw [hf] at e; cases e
    rw [hlen, ← r.length, hl']
  · obtain ⟨m, S', ds, r, rd, fd', e, hl', h⟩ := h
    rw [hf] at e; cases e
    have G : Gs (L2.cxOf L2.CX0 P w K mg base p.ns fd.name (L2.defScope p.st) fa cdv A outer s H E).nox T k := ⟨⟨hr, rfl, S.nd, ih, hb⟩, fun _ => rfl, rfl, S.kind⟩
    refine ⟨_, allSs fd.body _ _ G rfl c, m, S', _, _, r, start_of rd fd.nn hn (by rw [hl']; have := hlen; rw [List.length_take] at this; omega), ?_, h⟩
    exact ⟨fun m' S'' H' σd' σ' x r' g q => q _ _ _ x r' (show RD K m' H' .non .non from rfl), fun m' S'' H' d' v x r' q1 q => q _ _ _ x r' q1, fun _ _ _ _ _ _ _ _ q => q.elim, fun _ _ _ _ _ _ _ _ q => q.elim⟩
theorem table_ok {P : Program} {w : World} {K : K'} {mg : Str → Option Value} {base : Heap} (T : List FDef) (ps : List PDef) (hl : T.length = ps.length) (hok : (T.zip ps).all (fun q => okDef T q.1 q.2) = true)
    (hh : ∀ q ∈ T.zip ps, Here K mg q.1 q.2) (hb : ∀ x ∈ builtins, mg x = none) :
    ∀ (k f : Nat) (fd : FDef), T[f]? = some fd → FnAt P w K mg base T k f fd := by
  have two : ∀ (f : Nat) (fd : FDef), T[f]? = some fd → ∃ p, okDef T fd p = true ∧ Here K mg fd p := fun f fd hf => by
    obtain ⟨p, hp⟩ : ∃ p, ps[f]? = some p := ⟨_, List.getElem?_eq_getElem (by rw [← hl]; exact (List.getElem?_eq_some_iff.mp hf).1)⟩
    have hm : (fd, p) ∈ T.zip ps := List.mem_of_getElem? (i := f) (by rw [List.getElem?_zip_eq_some]; exact ⟨hf, hp⟩)
    exact ⟨p, List.all_eq_true.mp hok _ hm, hh _ hm⟩
  intro k
  induction k with
  | zero =>
    intro f fd hf
    obtain ⟨p, o, H⟩ := two f fd hf
    obtain ⟨fa, d, e1, F, b⟩ := H.ex
    obtain ⟨S, c, hn, hlen⟩ := scope_of o
    refine ⟨fa, d, _, e1, F.kp, b, hlen, ⟨fun vs H Q E h => ?_, fun A outer s H args us vs Q E hr e0 hb hv h => ?_⟩⟩
    · obtain ⟨m, S, ds, _, _, h⟩ := h
      exact h.elim
    · obtain ⟨m, S, ds, _, _, h⟩ := h
      exact h.elim
  | succ k ih =>
    intro f fd hf
    obtain ⟨p, o, H⟩ := two f fd hf
    obtain ⟨fa, d, e1, F, b⟩ := H.ex
    obtain ⟨S, c, hn, hlen⟩ := scope_of o
    exact ⟨fa, d, _, e1, F.kp, b, hlen, step_ok hf o hb ih F⟩
end
end Flx

end
section
set_option Elab.async false
set_option linter.all false
set_option maxRecDepth 100000
set_option autoImplicit false
/-! FlxEnd: from a table to a law's row. -/
namespace Flx
open PySem PySem.Spec PyProof.Rows
/-- a def of the text, as the written part holds it -/
def HereK (K : K') (x : Str) (st : Stmt) : Prop :=
  ∃ (f : Addr) (od an : Option Addr) (sl : Array (Option Value)) (oc kV dc pm cd ct : Value), PySem.W.nsIn K mainGlobals x = some (some (.ref f)) ∧
    K.lookup f = some ⟨oc, od, .func (PySem.W.fnOf x x (L2.defArgs st) (L2.defBody st) (L2.defScope st) .none kV dc pm an cd ct), sl⟩ ∧ PySem.W.codeIn K cd x = true ∧ PySem.W.keepIn K (.ref f) = true
/-- the parameters of a def: positional ones, no defaults -/
def plainArgs (a : Arguments) (ps : List Str) : Bool :=
  a.posonlyargs.isEmpty && a.vararg.isNone && a.kwonlyargs.isEmpty && a.kwarg.isNone && a.defaults.isEmpty && decide (a.args.map (·.arg) = ps)
/-- positional arguments bind to such parameters -/
def BindsAll (st : Stmt) (x : Str) (n : Nat) (ps : List Str) : Prop :=
  ∀ (kV doc pm : Value) (an : Option Addr) (cdv ct : Value) (us : List Value), us.length = n → bindArgs (PySem.W.fnOf x x (L2.defArgs st) (L2.defBody st) (L2.defScope st) .none kV doc pm an cdv ct) ⟨us, []⟩ = pure (ps.zip us)
theorem here_of {K : K'} {h : Heap} {mg : Str → Option Value} {fd : FDef} {p : PDef} (X : K.In h) (G : h.Ns mainGlobals mg) (hp : (p.ns.take fd.np).length = fd.np) (hb : BindsAll p.st fd.name fd.np (p.ns.take fd.np)) (hk : HereK K fd.name p.st) : Here K mg fd p := by
  obtain ⟨f, od, an, sl, oc, kV, dc, pm, cd, ct, a, l, c, k⟩ := hk
  have F := L2.fun_mk (st := p.st) l c k
  exact ⟨f, _, PySem.W.mg_of X G a, F, F.binds fun kV doc pm an cdv ct us hu => hb kV doc pm an cdv ct us (by rw [hu, hp])⟩
/-- the law's own def, the rest of the table behind it -/
theorem law_fn {P : Program} {w : World} {K : K'} {h : Heap} {mg : Str → Option Value} {fa : Addr} {T : List FDef} {ps : List PDef} {f : Nat} {fd : FDef} {p : PDef} (k : Nat) (X : K.In h) (G : h.Ns mainGlobals mg) (hfa : mg fd.name = some (.ref fa))
    (hl : T.length = ps.length) (hok : (T.zip ps).all (fun q => okDef T q.1 q.2) = true) (hf : T[f]? = some fd) (hp : ps[f]? = some p) (h1 : p.ns.take fd.np = [("script" : Str)])
    (hB : ∀ q ∈ T.zip ps, BindsAll q.2.st q.1.name q.1.np (q.2.ns.take q.1.np)) (hK : ∀ q ∈ T.zip ps, HereK K q.1.name q.2.st) (hz : ∀ x ∈ builtins, PySem.W.nsIn K mainGlobals x = some none) :
    ∃ d : FuncData, (∀ (s : Shared) (u : Value), BindsTo s d ⟨[u], []⟩ [("script", u)]) ∧ ∀ base : Heap, K.In base → base.Ns mainGlobals mg → L2.FnOk P w K mg base L2.CX0 (k + 1) fa d ["script"] (liftSp K (callW T (k + 1) f)) := by
  have hm : (fd, p) ∈ T.zip ps := List.mem_of_getElem? (i := f) (by rw [List.getElem?_zip_eq_some]; exact ⟨hf, hp⟩)
  have ok := List.all_eq_true.mp hok _ hm
  have hlen : ∀ q ∈ T.zip ps, (q.2.ns.take q.1.np).length = q.1.np := fun q hq => (scope_of (List.all_eq_true.mp hok _ hq)).2.2.2
  have hb : ∀ x ∈ builtins, mg x = none := fun x hx => PySem.W.mg_none_of X G (hz x hx)
  have hh : ∀ q ∈ T.zip ps, Here K mg q.1 q.2 := fun q hq => here_of X G (hlen q hq) (hB q hq) (hK q hq)
  obtain ⟨f', od, an, sl, oc, kV, dc, pm, cd, ct, a, l, c, kk⟩ := hK _ hm
  have e := hfa.symm.trans (PySem.W.mg_of X G a)
  cases e
  have F := L2.fun_mk (st := p.st) l c kk
  have hn1 : fd.np = 1 := by have := hlen _ hm; rw [h1] at this; exact this.symm
  refine ⟨PySem.W.fnOf fd.name fd.name (L2.defArgs p.st) (L2.defBody p.st) (L2.defScope p.st) .none kV dc pm an cd ct, fun s u => ?_, fun base _ _ => ?_⟩
  · have q := hB _ hm kV dc pm an cd ct [u] (by rw [hn1]; rfl)
    rw [h1] at q
    exact .of_eq q
  · have q := step_ok (P := P) (w := w) (base := base) hf ok hb (table_ok T ps hl hok hh hb k) F
    rw [h1] at q
    exact q
/-- the law's promise -/
theorem law_sp {K : K'} {T : List FDef} {k f : Nat} {a : Addr} {ns : List Int} {H : L2.Hp} {E : L2.XK} (hO : L2.Only H) (hS : L2.SqL K H a (ns.map L2.V.int))
    (h : callW T k f [.ref 0] [.fro (ns.map D.int)] fun d _ => d = .bl true) : liftSp K (callW T k f) [.ref a] H (fun v _ => v = .bl true) E := by
  have hF : Fro K H a (ns.map L2.V.int) := by
    rcases hS with (h1 | ⟨o, h1⟩) | h1
    · rcases hO a with z | ⟨o, xs, z⟩ <;> rw [z] at h1 <;> cases h1
    · exact .inl ⟨o, h1⟩
    · exact .inr h1
  have e0 : ∀ {α : Type} {n : Nat} {x y : α}, [x][n]? = some y → n = 0 ∧ x = y := fun {α n x y} e => by
    cases n with
    | zero => exact ⟨rfl, by simpa using e⟩
    | succ n => simp at e
  refine ⟨[a], [.fro (ns.map D.int)], [.ref 0], ⟨rfl, fun n o b h1 h2 => ?_, fun n n' o o' b h1 h2 h3 h4 h5 h6 => ?_⟩, ⟨.ref a, [], rfl, ⟨a, rfl, rfl⟩, rfl⟩, callW_mono T k f _ _ _ _ (fun d S' hd => ?_) h⟩
  · obtain ⟨_, rfl⟩ := e0 h1
    obtain ⟨_, rfl⟩ := e0 h2
    exact ⟨_, hF, RDs.map_int ns⟩
  · obtain ⟨_, rfl⟩ := e0 h1
    cases h3
  · subst hd
    exact fun m' H' v _ _ q => q
end Flx

end
section
set_option Elab.async false
set_option linter.all false
set_option autoImplicit false
set_option maxRecDepth 100000
/-! FlxUse: the pure language, step by step: one lemma for each form; loops by invariants; stores that grow. -/
namespace Flx
open PySem PySem.Spec PyProof.Rows

/-! ### stores -/
/-- S' has all that S has -/
structure Ext (S S' : St) : Prop where
  len : S.length ≤ S'.length
  get : ∀ {i : Nat} {m : MO}, S[i]? = some m → S'[i]? = some m
/-- S' has all that S has, but for the tape at 2 -/
structure Fr (S S' : St) : Prop where
  len : S.length ≤ S'.length
  get : ∀ {i : Nat} {m : MO}, i ≠ 2 → S[i]? = some m → S'[i]? = some m
/-- the tape -/
def Tp (S : St) : Prop := ∃ (ns : List Int) (a b c : Int), S[1]? = some (.lst (ns.map D.int)) ∧ S[2]? = some (.lst [.ref 1, .int a, .int b, .int c]) ∧ 0 ≤ a ∧ 0 ≤ b ∧ 0 ≤ c
theorem Ext.refl (S : St) : Ext S S := ⟨Nat.le_refl _, fun h => h⟩
theorem Fr.refl (S : St) : Fr S S := ⟨Nat.le_refl _, fun _ h => h⟩
theorem Ext.trans {S S1 S2 : St} (h : Ext S S1) (h' : Ext S1 S2) : Ext S S2 := ⟨Nat.le_trans h.len h'.len, fun e => h'.get (h.get e)⟩
theorem Fr.trans {S S1 S2 : St} (h : Fr S S1) (h' : Fr S1 S2) : Fr S S2 := ⟨Nat.le_trans h.len h'.len, fun n e => h'.get n (h.get n e)⟩
theorem Ext.fr {S S1 : St} (h : Ext S S1) : Fr S S1 := ⟨h.len, fun _ e => h.get e⟩
theorem lt_of_get {S : St} {i : Nat} {m : MO} (h : S[i]? = some m) : i < S.length := by
  rcases Nat.lt_or_ge i S.length with g | g
  · exact g
  · rw [List.getElem?_eq_none g] at h; cases h
theorem get_app {S X : St} {i : Nat} {m : MO} (h : S[i]? = some m) : (S ++ X)[i]? = some m := by
  rw [List.getElem?_append_left (lt_of_get h)]; exact h
theorem get_new {S : St} {m : MO} : (S ++ [m])[S.length]? = some m := by simp
theorem get_new' {S : St} {m : MO} {n : Nat} (h : n = S.length) : (S ++ [m])[n]? = some m := by subst h; simp
theorem get_set {S : St} {i n : Nat} {m m' : MO} (hn : i ≠ n) (h : S[i]? = some m) : (S.set n m')[i]? = some m := by
  rw [List.getElem?_set_ne (Ne.symm hn)]; exact h
theorem get_set_self {S : St} {n : Nat} {m m' : MO} (h : S[n]? = some m) : (S.set n m')[n]? = some m' := by
  rw [List.getElem?_set_self (lt_of_get h)]
theorem Ext.app {S S1 : St} (h : Ext S S1) (X : St) : Ext S (S1 ++ X) := ⟨by rw [List.length_append]; exact Nat.le_trans h.len (Nat.le_add_right _ _), fun e => get_app (h.get e)⟩
theorem Fr.app {S S1 : St} (h : Fr S S1) (X : St) : Fr S (S1 ++ X) := ⟨by rw [List.length_append]; exact Nat.le_trans h.len (Nat.le_add_right _ _), fun n e => get_app (h.get n e)⟩
theorem Ext.new (S X : St) : Ext S (S ++ X) := (Ext.refl S).app X
theorem Ext.set {S S1 : St} (h : Ext S S1) {n : Nat} (m : MO) (hn : S.length ≤ n) : Ext S (S1.set n m) :=
  ⟨by rw [List.length_set]; exact h.len, fun e => get_set (by have := lt_of_get e; omega) (h.get e)⟩
theorem Fr.set {S S1 : St} (h : Fr S S1) {n : Nat} (m : MO) (hn : S.length ≤ n) : Fr S (S1.set n m) :=
  ⟨by rw [List.length_set]; exact h.len, fun n' e => get_set (by have := lt_of_get e; omega) (h.get n' e)⟩
theorem Fr.setT {S S1 : St} (h : Fr S S1) (m : MO) : Fr S (S1.set 2 m) :=
  ⟨by rw [List.length_set]; exact h.len, fun n' e => get_set n' (h.get n' e)⟩
theorem Tp.ext {S S1 : St} (h : Tp S) (e : Ext S S1) : Tp S1 := by
  obtain ⟨ns, a, b, c, h1, h2, h3⟩ := h
  exact ⟨ns, a, b, c, e.get h1, e.get h2, h3⟩
theorem Tp.app {S : St} (h : Tp S) (X : St) : Tp (S ++ X) := h.ext (Ext.new S X)
theorem Tp.set {S : St} (h : Tp S) {n : Nat} (m : MO) (hn : 3 ≤ n) : Tp (S.set n m) := by
  obtain ⟨ns, a, b, c, h1, h2, h3⟩ := h
  exact ⟨ns, a, b, c, get_set (by omega) h1, get_set (by omega) h2, h3⟩
theorem Tp.len {S : St} (h : Tp S) : 3 ≤ S.length := by
  obtain ⟨ns, a, b, c, h1, h2, h3⟩ := h
  exact lt_of_get h2
theorem seqOf_lst {S : St} {n : Nat} {xs : List D} (h : S[n]? = some (.lst xs)) : seqOf S n = some xs := by unfold seqOf; rw [h]
theorem still_ref {n : Nat} {xs : List D} {S : St} (h : S[n]? = some (.lst xs)) : still (.ref n) xs S := seqOf_lst h
theorem seqOf_ext {S S' : St} {n : Nat} {xs : List D} (h : Ext S S') (e : seqOf S n = some xs) : seqOf S' n = some xs := by
  unfold seqOf at e ⊢
  cases h0 : S[n]? with
  | none => rw [h0] at e; cases e
  | some m => rw [h0] at e; rw [h.get h0]; exact e
theorem itemsOf_ext {S S' : St} {d : D} {xs : List D} (h : Ext S S') (e : itemsOf S d = some xs) : itemsOf S' d = some xs := by
  cases d <;> first | exact e | exact seqOf_ext h e

/-! ### places in lists -/
theorem ixN_nat {n i : Nat} (h : i < n) : L2.ixN n (i : Int) = some i := by
  unfold L2.ixN; rw [if_pos (by omega), if_pos (by omega), Int.toNat_natCast]
theorem atI_nat {α : Type} {xs : List α} {i : Nat} {d : α} (h : xs[i]? = some d) : L2.atI xs (i : Int) = some d := by
  have : i < xs.length := by
    rcases Nat.lt_or_ge i xs.length with g | g
    · exact g
    · rw [List.getElem?_eq_none g] at h; cases h
  unfold L2.atI; rw [ixN_nat this]; exact h
theorem atI_int {α : Type} {xs : List α} {i : Int} {d : α} (h0 : 0 ≤ i) (h : xs[i.toNat]? = some d) : L2.atI xs i = some d := by
  have := atI_nat h; rw [Int.toNat_of_nonneg h0] at this; exact this
/-- Python's place among n: from the end where it is below 0 -/
def pyI (n : Nat) (i : Int) : Nat := if 0 ≤ i then i.toNat else (i + n).toNat
theorem atI_map {α β : Type} {f : α → β} {xs : List α} {i : Int} {d : α} (h : L2.atI xs i = some d) : L2.atI (xs.map f) i = some (f d) := by
  unfold L2.atI at h ⊢
  rw [List.length_map]
  cases e : L2.ixN xs.length i with
  | none => rw [e] at h; cases h
  | some j =>
    rw [e] at h
    show (xs.map f)[j]? = some (f d)
    rw [List.getElem?_map]
    rw [show xs[j]? = some d from h]; rfl

/-! ### expressions -/
section
variable {C : Nat → List D → St → QD → Prop} {σ : Sg} {S : St} {Q : QD}
theorem e_var {i : Nat} {d : D} (h : σ[i]? = some (some d)) (q : Q d S) : wE C (.var i) σ S Q := by rw [wE]; exact ⟨d, h, q⟩
theorem e_cint {i : Int} (q : Q (.int i) S) : wE C (.cint i) σ S Q := by rw [wE]; exact q
theorem e_cstr {i : Str} (q : Q (.str i) S) : wE C (.cstr i) σ S Q := by rw [wE]; exact q
theorem e_cbl {i : Bool} (q : Q (.bl i) S) : wE C (.cbl i) σ S Q := by rw [wE]; exact q
theorem e_cnon (q : Q .non S) : wE C .cnon σ S Q := by rw [wE]; exact q
theorem e_bin {op : BOp} {a b : Ex} (q : wE C a σ S fun x S1 => wE C b σ S1 fun y S2 => binW op x y S2 Q) : wE C (.bin op a b) σ S Q := by rw [wE]; exact q
theorem e_neg {a : Ex} (q : wE C a σ S fun x S1 => ∃ i, x = .int i ∧ Q (.int (-i)) S1) : wE C (.neg a) σ S Q := by rw [wE]; exact q
theorem e_cmp {op : COp} {a b : Ex} (q : wE C a σ S fun x S1 => wE C b σ S1 fun y S2 => cmpW op x y S2 fun k S3 => Q (.bl k) S3) : wE C (.cmp op a b) σ S Q := by rw [wE]; exact q
theorem e_cmp2 {op op' : COp} {a b c : Ex} (q : wE C a σ S fun x S1 => wE C b σ S1 fun y S2 => cmpW op x y S2 fun k S3 => if k = true then wE C c σ S3 fun z S4 => cmpW op' y z S4 fun k' S5 => Q (.bl k') S5 else Q (.bl false) S3) : wE C (.cmp2 op op' a b c) σ S Q := by rw [wE]; exact q
theorem e_cmp3 {op op' op2 : COp} {a b c d : Ex} (q : wE C a σ S fun x S1 => wE C b σ S1 fun y S2 => cmpW op x y S2 fun k S3 => if k = true then wE C c σ S3 fun z S4 => cmpW op' y z S4 fun k' S5 => if k' = true then wE C d σ S5 fun u S6 => cmpW op2 z u S6 fun k2 S7 => Q (.bl k2) S7 else Q (.bl false) S5 else Q (.bl false) S3) : wE C (.cmp3 op op' op2 a b c d) σ S Q := by rw [wE]; exact q
theorem e_smt {m : SMth} {o e : Ex} (q : wE C o σ S fun x S1 => (∃ a, x = .str a) ∧ wE C e σ S1 fun y S2 => smtW m x y S2 Q) : wE C (.smt m o e) σ S Q := by rw [wE]; exact q
theorem e_and {a b : Ex} (q : wE C a σ S fun x S1 => ∃ k, truD S1 x = some k ∧ if k = true then wE C b σ S1 Q else Q x S1) : wE C (.and a b) σ S Q := by rw [wE]; exact q
theorem e_or {a b : Ex} (q : wE C a σ S fun x S1 => ∃ k, truD S1 x = some k ∧ if k = true then Q x S1 else wE C b σ S1 Q) : wE C (.or a b) σ S Q := by rw [wE]; exact q
theorem e_not {a : Ex} (q : wE C a σ S fun x S1 => ∃ k, truD S1 x = some k ∧ Q (.bl (!k)) S1) : wE C (.not a) σ S Q := by rw [wE]; exact q
theorem e_ite {c a b : Ex} (q : wE C c σ S fun x S1 => ∃ k, truD S1 x = some k ∧ if k = true then wE C a σ S1 Q else wE C b σ S1 Q) : wE C (.ite c a b) σ S Q := by rw [wE]; exact q
theorem e_tup {es : Exs} (q : wEs C es σ S fun xs S1 => xs.length ≤ sizeLine ∧ Q (.tup xs) S1) : wE C (.tup es) σ S Q := by rw [wE]; exact q
theorem e_lst {es : Exs} (q : wEs C es σ S fun xs S1 => xs.length ≤ sizeLine ∧ Q (.ref S1.length) (S1 ++ [.lst xs])) : wE C (.lst es) σ S Q := by rw [wE]; exact q
theorem e_ix {a b : Ex} (q : wE C a σ S fun x S1 => wE C b σ S1 fun y S2 => ixW x y S2 Q) : wE C (.ix a b) σ S Q := by rw [wE]; exact q
theorem e_sl {a : Ex} {lo hi : ExO} (q : wE C a σ S fun x S1 => wO C lo σ S1 fun l S2 => wO C hi σ S2 fun h S3 => slW x l h S3 Q) : wE C (.sl a lo hi) σ S Q := by rw [wE]; exact q
theorem e_call {f : Nat} {es : Exs} (q : wEs C es σ S fun xs S1 => C f xs S1 Q) : wE C (.call f es) σ S Q := by rw [wE]; exact q
theorem e_blt {f : Blt} {es : Exs} (q : wEs C es σ S fun xs S1 => bltW f xs S1 Q) : wE C (.blt f es) σ S Q := by rw [wE]; exact q
theorem e_isi {a : Ex} {t : Ty} (q : wE C a σ S fun x S1 => ∃ b, isTy t x = some b ∧ Q (.bl b) S1) : wE C (.isi a t) σ S Q := by rw [wE]; exact q
theorem e_mth {m : Mth} {o : Ex} {es : Exs} (q : wE C o σ S fun x S1 => lstD S1 x ∧ wEs C es σ S1 fun xs S2 => mthW m x xs S2 Q) : wE C (.mth m o es) σ S Q := by rw [wE]; exact q
theorem e_lrg {es : Exs} (q : wEs C es σ S fun xs S1 => rngW xs fun a b => (b - a).toNat ≤ 2 ^ 24 ∧ Q (.ref S1.length) (S1 ++ [.lst (rgD a b)])) : wE C (.lrg es) σ S Q := by rw [wE]; exact q
theorem e_dnw (q : Q (.ref S.length) (S ++ [.dic []])) : wE C .dnw σ S Q := by rw [wE]; exact q
theorem e_dsp {a b : Ex} (q : wE C a σ (S ++ [.dic []]) fun x S1 => wE C b σ S1 fun y S2 => dspW S.length x y S2 Q) : wE C (.dsp a b) σ S Q := by rw [wE]; exact q
theorem e_dix {a b : Ex} (q : wE C a σ S fun x S1 => wE C b σ S1 fun y S2 => dixW x y S2 Q) : wE C (.dix a b) σ S Q := by rw [wE]; exact q
theorem e_dgt {a b c : Ex} (q : wE C a σ S fun x S1 => dicD S1 x ∧ wE C b σ S1 fun y S2 => wE C c σ S2 fun z S3 => dgtW x y z S3 Q) : wE C (.dgt a b c) σ S Q := by rw [wE]; exact q
theorem e_dsr {a : Ex} (q : wE C a σ S fun x S1 => dsrW x S1 Q) : wE C (.dsr a) σ S Q := by rw [wE]; exact q
/-- a dict comprehension's turns -/
def DcL (C : Nat → List D → St → QD → Prop) (G : St → Prop) (k v : Ex) (tg : Tg) (σ : Sg) (xs : List D) (S : St) (Q : List (L2.Key × D) → St → Prop) : Prop :=
  dcW G tg (fun σ' S' Q' => wE C k σ' S' Q') (fun σ' S' Q' => wE C v σ' S' Q') σ xs [] S Q
theorem e_dcm {k v : Ex} {tg : Tg} {it : It} {own : List Nat} (q : wI C it σ S fun G xs S1 => xs.length < sizeLine ∧ DcL C G k v tg (wipeD σ own) xs S1 fun acc S2 => Q (.ref S2.length) (S2 ++ [.dic acc])) : wE C (.dcm k v tg it own) σ S Q := by rw [wE]; exact q
theorem e_din {neg : Bool} {a b : Ex} (q : wE C a σ S fun x S1 => wE C b σ S1 fun y S2 => dinW neg x y S2 fun k S3 => Q (.bl k) S3) : wE C (.din neg a b) σ S Q := by rw [wE]; exact q
theorem e_sup {o : Ex} (q : wE C o σ S fun x S1 => supW x S1 Q) : wE C (.sup o) σ S Q := by rw [wE]; exact q
/-- the turns of a comprehension of two walks -/
def Lc2L (C : Nat → List D → St → QD → Prop) (G : St → Prop) (elt : Ex) (tg : Tg) (ifs : Exs) (tg1 : Tg) (it1 : It) (ifs1 : Exs) (vs1 : List Nat) (σ : Sg) (xs : List D) (S : St) (Q : List D → St → Prop) : Prop :=
  lc2W G tg (fun σ' S' Q' => wC C ifs σ' S' Q') (fun σ' S' R' => wI C it1 σ' S' R') tg1 (fun σ' S' Q' => wC C ifs1 σ' S' Q') (fun σ' S' Q' => wE C elt σ' S' Q') vs1 σ xs [] S Q
theorem e_lc2 {elt : Ex} {tg : Tg} {it : It} {ifs : Exs} {tg1 : Tg} {it1 : It} {ifs1 : Exs} {own vs1 : List Nat} (q : wI C it σ S fun G xs S1 => Lc2L C G elt tg ifs tg1 it1 ifs1 vs1 (wipeD σ own) xs S1 fun acc S2 => Q (.ref S2.length) (S2 ++ [.lst acc])) : wE C (.lc2 elt tg it ifs tg1 it1 ifs1 own vs1) σ S Q := by rw [wE]; exact q
/-- a comprehension's turns -/
def LcL (C : Nat → List D → St → QD → Prop) (G : St → Prop) (elt : Ex) (tg : Tg) (ifs : Exs) (σ : Sg) (xs : List D) (S : St) (Q : List D → St → Prop) : Prop :=
  lcW G tg (fun σ' S' Q' => wC C ifs σ' S' Q') (fun σ' S' Q' => wE C elt σ' S' Q') σ xs [] S Q
def LcG (C : Nat → List D → St → QD → Prop) (G : St → Prop) (elt : Ex) (tg : Tg) (ifs : Exs) (σ : Sg) (xs acc : List D) (S : St) (Q : List D → St → Prop) : Prop :=
  lcW G tg (fun σ' S' Q' => wC C ifs σ' S' Q') (fun σ' S' Q' => wE C elt σ' S' Q') σ xs acc S Q
theorem e_lc {elt : Ex} {tg : Tg} {it : It} {ifs : Exs} {own : List Nat} (q : wI C it σ S fun G xs S1 => xs.length < sizeLine ∧ LcL C G elt tg ifs (wipeD σ own) xs S1 fun acc S2 => Q (.ref S2.length) (S2 ++ [.lst acc])) : wE C (.lc elt tg it ifs own) σ S Q := by rw [wE]; exact q
end
section
variable {C : Nat → List D → St → QD → Prop} {σ : Sg} {S : St}
theorem es_nil {Q : List D → St → Prop} (q : Q [] S) : wEs C .nil σ S Q := by rw [wEs]; exact q
theorem es_cons {e : Ex} {es : Exs} {Q : List D → St → Prop} (q : wE C e σ S fun x S1 => wEs C es σ S1 fun xs S2 => Q (x :: xs) S2) : wEs C (.cons e es) σ S Q := by rw [wEs]; exact q
theorem o_none {Q : Option Int → St → Prop} (q : Q none S) : wO C .none σ S Q := by rw [wO]; exact q
theorem o_some {e : Ex} {Q : Option Int → St → Prop} (q : wE C e σ S fun x S1 => ∃ i, x = .int i ∧ Q (some i) S1) : wO C (.some e) σ S Q := by rw [wO]; exact q
theorem wc_nil {Q : Bool → St → Prop} (q : Q true S) : wC C .nil σ S Q := by rw [wC]; exact q
theorem wc_one {e : Ex} {Q : Bool → St → Prop} (q : wE C e σ S fun x S1 => ∃ k, truD S1 x = some k ∧ Q k S1) : wC C (.cons e .nil) σ S Q := by rw [wC]; exact q
theorem w_test {e : Ex} {Q : Bool → St → Prop} (q : wE C e σ S fun x S1 => ∃ k, truD S1 x = some k ∧ Q k S1) : wT C e σ S Q := q
theorem i_seq {e : Ex} {R : (St → Prop) → List D → St → Prop} (q : wE C e σ S fun x S1 => ∃ xs, itemsOf S1 x = some xs ∧ R (still x xs) xs S1) : wI C (.seq e) σ S R := by rw [wI]; exact q
theorem i_rng {es : Exs} {R : (St → Prop) → List D → St → Prop} (q : wEs C es σ S fun xs S1 => rngW xs fun a b => R noG (rgD a b) S1) : wI C (.rng es) σ S R := by rw [wI]; exact q
theorem i_rgd {a b : Ex} {R : (St → Prop) → List D → St → Prop} (q : wE C a σ S fun x S1 => wE C b σ S1 fun y S2 => ∃ i j, x = .int i ∧ y = .int j ∧ (-(2 ^ 62) ≤ i ∧ i < 2 ^ 62 ∧ -(2 ^ 62) ≤ j ∧ j < 2 ^ 62) ∧ R noG (rgdD i j) S2) : wI C (.rgd a b) σ S R := by rw [wI]; exact q
theorem i_enm {e : Ex} {R : (St → Prop) → List D → St → Prop} (q : wE C e σ S fun x S1 => ∃ xs, itemsOf S1 x = some xs ∧ R (still x xs) ((List.range xs.length).zipWith (fun i d => .tup [.int (i : Nat), d]) xs) S1) : wI C (.enm e) σ S R := by rw [wI]; exact q
theorem i_zip {a b : Ex} {R : (St → Prop) → List D → St → Prop} (q : wE C a σ S fun x S1 => wE C b σ S1 fun y S2 => ∃ xs ys, itemsOf S2 x = some xs ∧ itemsOf S2 y = some ys ∧ R (fun S' => still x xs S' ∧ still y ys S') (List.zipWith (fun d e => .tup [d, e]) xs ys) S2) : wI C (.zip a b) σ S R := by rw [wI]; exact q
theorem i_rev {e : Ex} {R : (St → Prop) → List D → St → Prop} (q : wE C e σ S fun x S1 => ∃ xs, itemsOf S1 x = some xs ∧ R (still x xs) xs.reverse S1) : wI C (.rev e) σ S R := by rw [wI]; exact q
end

/-! ### statements -/
/-- a for's turns, its body kept whole -/
def ForL (C : Nat → List D → St → QD → Prop) (G : St → Prop) (tg : Tg) (b : Sms) (xs : List D) : TSt := forW G tg (fun E' σ' S' => wSs C b E' σ' S') xs
def WhlL (C : Nat → List D → St → QD → Prop) (c : Ex) (b : Sms) : TSt := fun E σ S => ∃ n, whlW (fun σ' S' Q' => wT C c σ' S' Q') (fun E' σ' S' => wSs C b E' σ' S') n E σ S
section
variable {C : Nat → List D → St → QD → Prop} {σ : Sg} {S : St} {E : En}
theorem ss_nil (q : E.nx σ S) : wSs C .nil E σ S := by rw [wSs]; exact q
theorem ss_cons {s : Sm} {ss : Sms} (q : wS C s { nx := wSs C ss E, rt := E.rt, bk := E.bk, ct := E.ct } σ S) : wSs C (.cons s ss) E σ S := by rw [wSs]; exact q
theorem ss_set {i : Nat} {e : Ex} {ss : Sms} (q : wS C (.set i e) { nx := wSs C ss E, rt := E.rt, bk := E.bk, ct := E.ct } σ S) : wSs C (.cons (.set i e) ss) E σ S := ss_cons q
theorem ss_setT {ts : Tgs} {e : Ex} {ss : Sms} (q : wS C (.setT ts e) { nx := wSs C ss E, rt := E.rt, bk := E.bk, ct := E.ct } σ S) : wSs C (.cons (.setT ts e) ss) E σ S := ss_cons q
theorem ss_par {is : List Nat} {es : Exs} {ss : Sms} (q : wS C (.par is es) { nx := wSs C ss E, rt := E.rt, bk := E.bk, ct := E.ct } σ S) : wSs C (.cons (.par is es) ss) E σ S := ss_cons q
theorem ss_setIx {o i e : Ex} {ss : Sms} (q : wS C (.setIx o i e) { nx := wSs C ss E, rt := E.rt, bk := E.bk, ct := E.ct } σ S) : wSs C (.cons (.setIx o i e) ss) E σ S := ss_cons q
theorem ss_setDx {o i e : Ex} {ss : Sms} (q : wS C (.setDx o i e) { nx := wSs C ss E, rt := E.rt, bk := E.bk, ct := E.ct } σ S) : wSs C (.cons (.setDx o i e) ss) E σ S := ss_cons q
theorem ss_ex {e : Ex} {ss : Sms} (q : wS C (.ex e) { nx := wSs C ss E, rt := E.rt, bk := E.bk, ct := E.ct } σ S) : wSs C (.cons (.ex e) ss) E σ S := ss_cons q
theorem ss_for {tg : Tg} {it : It} {b : Sms} {ss : Sms} (q : wS C (.for tg it b) { nx := wSs C ss E, rt := E.rt, bk := E.bk, ct := E.ct } σ S) : wSs C (.cons (.for tg it b) ss) E σ S := ss_cons q
theorem ss_whl {c : Ex} {b : Sms} {ss : Sms} (q : wS C (.whl c b) { nx := wSs C ss E, rt := E.rt, bk := E.bk, ct := E.ct } σ S) : wSs C (.cons (.whl c b) ss) E σ S := ss_cons q
theorem ss_ret {e : Ex} {ss : Sms} (q : wS C (.ret e) { nx := wSs C ss E, rt := E.rt, bk := E.bk, ct := E.ct } σ S) : wSs C (.cons (.ret e) ss) E σ S := ss_cons q
theorem ss_retN  {ss : Sms} (q : wS C .retN { nx := wSs C ss E, rt := E.rt, bk := E.bk, ct := E.ct } σ S) : wSs C (.cons .retN ss) E σ S := ss_cons q
theorem ss_brk  {ss : Sms} (q : wS C .brk { nx := wSs C ss E, rt := E.rt, bk := E.bk, ct := E.ct } σ S) : wSs C (.cons .brk ss) E σ S := ss_cons q
theorem ss_cnt  {ss : Sms} (q : wS C .cnt { nx := wSs C ss E, rt := E.rt, bk := E.bk, ct := E.ct } σ S) : wSs C (.cons .cnt ss) E σ S := ss_cons q
theorem ss_pas  {ss : Sms} (q : wS C .pas { nx := wSs C ss E, rt := E.rt, bk := E.bk, ct := E.ct } σ S) : wSs C (.cons .pas ss) E σ S := ss_cons q
theorem ss_iteR {c e : Ex} {ss : Sms} (q : wS C (.ite c (.cons (.ret e) .nil) .nil) { nx := wSs C ss E, rt := E.rt, bk := E.bk, ct := E.ct } σ S) : wSs C (.cons (.ite c (.cons (.ret e) .nil) .nil) ss) E σ S := ss_cons q
theorem ss_iteC {c : Ex} {ss : Sms} (q : wS C (.ite c (.cons .cnt .nil) .nil) { nx := wSs C ss E, rt := E.rt, bk := E.bk, ct := E.ct } σ S) : wSs C (.cons (.ite c (.cons .cnt .nil) .nil) ss) E σ S := ss_cons q
theorem ss_iteB {c : Ex} {ss : Sms} (q : wS C (.ite c (.cons .brk .nil) .nil) { nx := wSs C ss E, rt := E.rt, bk := E.bk, ct := E.ct } σ S) : wSs C (.cons (.ite c (.cons .brk .nil) .nil) ss) E σ S := ss_cons q
theorem ss_last {s : Sm} (q : wS C s { nx := E.nx, rt := E.rt, bk := E.bk, ct := E.ct } σ S) : wSs C (.cons s .nil) E σ S := by
  refine ss_cons ?_
  have e : (wSs C .nil E : Sg → St → Prop) = E.nx := by funext σ S; rw [wSs]
  rw [e]; exact q
theorem s_set {i : Nat} {e : Ex} (q : wE C e σ S fun x S1 => E.nx (σ.set i (some x)) S1) : wS C (.set i e) E σ S := by rw [wS]; exact q
theorem s_setT {ts : Tgs} {e : Ex} (q : wE C e σ S fun x S1 => ∃ σ', gA (.tp ts) x σ = some σ' ∧ E.nx σ' S1) : wS C (.setT ts e) E σ S := by rw [wS]; exact q
theorem s_par {is : List Nat} {es : Exs} (q : wEs C es σ S fun xs S1 => parW is xs σ fun σ' => E.nx σ' S1) : wS C (.par is es) E σ S := by rw [wS]; exact q
theorem par_nil {k : Sg → Prop} (q : k σ) : parW [] [] σ k := q
theorem par_cons {i : Nat} {is : List Nat} {x : D} {xs : List D} {k : Sg → Prop} (q : parW is xs (σ.set i (some x)) k) : parW (i :: is) (x :: xs) σ k := q
theorem s_setIx {o i e : Ex} (q : wE C e σ S fun v S1 => wE C o σ S1 fun x S2 => wE C i σ S2 fun y S3 => setIxW x y v S3 fun S4 => E.nx σ S4) : wS C (.setIx o i e) E σ S := by rw [wS]; exact q
theorem s_setDx {o i e : Ex} (q : wE C e σ S fun v S1 => wE C o σ S1 fun x S2 => wE C i σ S2 fun y S3 => setDxW x y v S3 fun S4 => E.nx σ S4) : wS C (.setDx o i e) E σ S := by rw [wS]; exact q
theorem s_ex {e : Ex} (q : wE C e σ S fun _ S1 => E.nx σ S1) : wS C (.ex e) E σ S := by rw [wS]; exact q
theorem s_ite {c : Ex} {a b : Sms} (q : wE C c σ S fun x S1 => ∃ k, truD S1 x = some k ∧ if k = true then wSs C a E σ S1 else wSs C b E σ S1) : wS C (.ite c a b) E σ S := by rw [wS]; exact q
theorem s_for {tg : Tg} {it : It} {b : Sms} (q : wI C it σ S fun G xs S1 => ForL C G tg b xs E σ S1) : wS C (.for tg it b) E σ S := by rw [wS]; exact q
theorem s_whl {c : Ex} {b : Sms} (q : WhlL C c b E σ S) : wS C (.whl c b) E σ S := by rw [wS]; exact q
theorem s_ret {e : Ex} (q : wE C e σ S E.rt) : wS C (.ret e) E σ S := by rw [wS]; exact q
theorem s_retN (q : E.rt .non S) : wS C .retN E σ S := by rw [wS]; exact q
theorem s_brk (q : E.bk σ S) : wS C .brk E σ S := by rw [wS]; exact q
theorem s_cnt (q : E.ct σ S) : wS C .cnt E σ S := by rw [wS]; exact q
theorem s_pas (q : E.nx σ S) : wS C .pas E σ S := by rw [wS]; exact q
/-- a cut behind a statement -/
theorem ss_cut (mC : MonoC C) {s : Sm} {ss : Sms} (M : Sg → St → Prop) (h1 : wS C s { nx := M, rt := E.rt, bk := E.bk, ct := E.ct } σ S) (h2 : ∀ σ' S', M σ' S' → wSs C ss E σ' S') : wSs C (.cons s ss) E σ S := by
  rw [wSs]
  refine wS_mono mC s { nx := M, rt := E.rt, bk := E.bk, ct := E.ct } _ _ _ ⟨?_, fun _ _ q => q, fun _ _ q => q, fun _ _ q => q⟩ h1
  exact fun σ S q => h2 _ _ q
/-- a test cut off from its arms -/
theorem ss_if (mC : MonoC C) {c : Ex} {a b ss : Sms} (M : Bool → St → Prop) (h1 : wT C c σ S M)
    (hT : ∀ S', M true S' → wSs C a { nx := wSs C ss E, rt := E.rt, bk := E.bk, ct := E.ct } σ S')
    (hF : ∀ S', M false S' → wSs C b { nx := wSs C ss E, rt := E.rt, bk := E.bk, ct := E.ct } σ S') : wSs C (.cons (.ite c a b) ss) E σ S := by
  refine ss_cons ?_
  rw [wS]
  refine wT_mono mC c σ S _ _ (fun k S' h => ?_) h1
  cases k with
  | true => exact hT S' h
  | false => exact hF S' h
theorem for_inv (mC : MonoC C) {G : St → Prop} {tg : Tg} {b : Sms} {xs : List D} (I : Nat → Sg → St → Prop) (h0 : I 0 σ S)
    (hG : ∀ i σ S, I i σ S → G S)
    (step : ∀ i x σ S, xs[i]? = some x → I i σ S → ∃ σ', gA tg x σ = some σ' ∧ wSs C b { nx := I (i + 1), ct := I (i + 1), bk := E.nx, rt := E.rt } σ' S)
    (fin : ∀ σ S, I xs.length σ S → E.nx σ S) : ForL C G tg b xs E σ S := by
  unfold ForL
  have key : ∀ (ys : List D) (i : Nat) (σ : Sg) (S : St), (∀ j, ys[j]? = xs[i + j]?) → i + ys.length = xs.length → I i σ S → forW G tg (fun E' σ' S' => wSs C b E' σ' S') ys E σ S := by
    intro ys
    induction ys with
    | nil =>
      intro i σ S hy hl hi
      refine ⟨hG _ _ _ hi, fin _ _ ?_⟩
      simp only [List.length_nil, Nat.add_zero] at hl
      rw [← hl]; exact hi
    | cons y ys ih =>
      intro i σ S hy hl hi
      have hx : xs[i]? = some y := by have := hy 0; rw [List.getElem?_cons_zero, Nat.add_zero] at this; exact this.symm
      obtain ⟨σ', hg, hb⟩ := step i y σ S hx hi
      refine ⟨hG _ _ _ hi, σ', hg, ?_⟩
      have go : ∀ σ2 S2, I (i + 1) σ2 S2 → forW G tg (fun E' σ' S' => wSs C b E' σ' S') ys E σ2 S2 := fun σ2 S2 h2 =>
        ih (i + 1) σ2 S2 (fun j => by have := hy (j + 1); rw [List.getElem?_cons_succ] at this; rw [this]; congr 1; omega) (by rw [List.length_cons] at hl; omega) h2
      refine wSs_mono mC b { nx := I (i + 1), ct := I (i + 1), bk := E.nx, rt := E.rt } _ _ _ ⟨go, fun _ _ q => q, fun _ _ q => q, go⟩ hb
  exact key xs 0 σ S (fun j => by rw [Nat.zero_add]) (by omega) h0
end

/-- a dict comprehension by an invariant -/
theorem dc_inv {C : Nat → List D → St → QD → Prop} (mC : MonoC C) {G : St → Prop} {tg : Tg} {kx vx : Ex} {xs : List D} {σ : Sg} {S : St} {Q : List (L2.Key × D) → St → Prop}
    (I : Nat → List (L2.Key × D) → St → Prop) (h0 : I 0 [] S) (hG : ∀ i acc S, I i acc S → G S)
    (step : ∀ i x acc S, xs[i]? = some x → I i acc S → ∃ σ', gA tg x σ = some σ' ∧ wE C kx σ' S fun y S1 => wE C vx σ' S1 fun z S2 => ∃ k, keyD y = some k ∧ I (i + 1) (putD acc k z) S2)
    (fin : ∀ acc S, I xs.length acc S → Q acc S) : DcL C G kx vx tg σ xs S Q := by
  unfold DcL
  have key : ∀ (ys : List D) (i : Nat) (acc : List (L2.Key × D)) (S : St), (∀ j, ys[j]? = xs[i + j]?) → i + ys.length = xs.length → I i acc S → dcW G tg (fun σ' S' Q' => wE C kx σ' S' Q') (fun σ' S' Q' => wE C vx σ' S' Q') σ ys acc S Q := by
    intro ys
    induction ys with
    | nil =>
      intro i acc S hy hl hi
      refine ⟨hG _ _ _ hi, fin _ _ ?_⟩
      simp only [List.length_nil, Nat.add_zero] at hl
      rw [← hl]; exact hi
    | cons y ys ih =>
      intro i acc S hy hl hi
      have hx : xs[i]? = some y := by have := hy 0; rw [List.getElem?_cons_zero, Nat.add_zero] at this; exact this.symm
      obtain ⟨σ', hg, hb⟩ := step i y acc S hx hi
      have go : ∀ acc2 S2, I (i + 1) acc2 S2 → dcW G tg (fun σ' S' Q' => wE C kx σ' S' Q') (fun σ' S' Q' => wE C vx σ' S' Q') σ ys acc2 S2 Q := fun acc2 S2 h2 =>
        ih (i + 1) acc2 S2 (fun j => by have := hy (j + 1); rw [List.getElem?_cons_succ] at this; rw [this]; congr 1; omega) (by rw [List.length_cons] at hl; omega) h2
      exact ⟨hG _ _ _ hi, σ', hg, wE_mono mC kx _ _ _ _ (fun y S1 h1 => wE_mono mC vx _ _ _ _ (fun z S2 ⟨k, h2, h3⟩ => ⟨k, h2, go _ _ h3⟩) h1) hb⟩
  exact key xs 0 [] S (fun j => by rw [Nat.zero_add]) (by omega) h0
/-- a comprehension by an invariant -/
theorem lc_inv {C : Nat → List D → St → QD → Prop} (mC : MonoC C) {G : St → Prop} {tg : Tg} {elt : Ex} {ifs : Exs} {xs : List D} {σ : Sg} {S : St} {Q : List D → St → Prop}
    (I : Nat → List D → St → Prop) (h0 : I 0 [] S) (hG : ∀ i acc S, I i acc S → G S)
    (step : ∀ i x acc S, xs[i]? = some x → I i acc S → ∃ σ', gA tg x σ = some σ' ∧ wC C ifs σ' S fun b S1 => if b = true then wE C elt σ' S1 (fun y S2 => I (i + 1) (acc ++ [y]) S2) else I (i + 1) acc S1)
    (fin : ∀ acc S, I xs.length acc S → Q acc S) : LcL C G elt tg ifs σ xs S Q := by
  unfold LcL
  have key : ∀ (ys : List D) (i : Nat) (acc : List D) (S : St), (∀ j, ys[j]? = xs[i + j]?) → i + ys.length = xs.length → I i acc S → lcW G tg (fun σ' S' Q' => wC C ifs σ' S' Q') (fun σ' S' Q' => wE C elt σ' S' Q') σ ys acc S Q := by
    intro ys
    induction ys with
    | nil =>
      intro i acc S hy hl hi
      refine ⟨hG _ _ _ hi, fin _ _ ?_⟩
      simp only [List.length_nil, Nat.add_zero] at hl
      rw [← hl]; exact hi
    | cons y ys ih =>
      intro i acc S hy hl hi
      have hx : xs[i]? = some y := by have := hy 0; rw [List.getElem?_cons_zero, Nat.add_zero] at this; exact this.symm
      obtain ⟨σ', hg, hb⟩ := step i y acc S hx hi
      have go : ∀ acc2 S2, I (i + 1) acc2 S2 → lcW G tg (fun σ' S' Q' => wC C ifs σ' S' Q') (fun σ' S' Q' => wE C elt σ' S' Q') σ ys acc2 S2 Q := fun acc2 S2 h2 =>
        ih (i + 1) acc2 S2 (fun j => by have := hy (j + 1); rw [List.getElem?_cons_succ] at this; rw [this]; congr 1; omega) (by rw [List.length_cons] at hl; omega) h2
      refine ⟨hG _ _ _ hi, σ', hg, wC_mono mC ifs _ _ _ _ (fun b S1 h1 => ?_) hb⟩
      cases b with
      | true => exact wE_mono mC elt _ _ _ _ (fun y S2 h2 => go _ _ h2) h1
      | false => exact go _ _ h1
  exact key xs 0 [] S (fun j => by rw [Nat.zero_add]) (by omega) h0
/-- a comprehension without a test -/
theorem lc_all {C : Nat → List D → St → QD → Prop} (mC : MonoC C) {G : St → Prop} {tg : Tg} {elt : Ex} {xs : List D} {σ : Sg} {S : St} {Q : List D → St → Prop}
    (I : Nat → List D → St → Prop) (h0 : I 0 [] S) (hG : ∀ i acc S, I i acc S → G S)
    (step : ∀ i x acc S, xs[i]? = some x → I i acc S → ∃ σ', gA tg x σ = some σ' ∧ wE C elt σ' S (fun y S2 => I (i + 1) (acc ++ [y]) S2))
    (fin : ∀ acc S, I xs.length acc S → Q acc S) : LcL C G elt tg .nil σ xs S Q :=
  lc_inv mC I h0 hG (fun i x acc S hx hi => by
    obtain ⟨σ', hg, h⟩ := step i x acc S hx hi
    exact ⟨σ', hg, wc_nil (by rw [if_pos rfl]; exact h)⟩) fin

/-! ### operations -/
section
variable {S : St} {Q : QD}
theorem b_add {i j : Int} (q : Q (.int (i + j)) S) : binW .add (.int i) (.int j) S Q := q
theorem b_addT {a b : List D} (h : a.length + b.length ≤ sizeLine) (q : Q (.tup (a ++ b)) S) : binW .add (.tup a) (.tup b) S Q := ⟨h, q⟩
theorem b_addL {a b : Nat} {xs ys : List D} (h1 : S[a]? = some (.lst xs)) (h2 : S[b]? = some (.lst ys)) (h : xs.length + ys.length ≤ sizeLine) (q : Q (.ref S.length) (S ++ [.lst (xs ++ ys)])) : binW .add (.ref a) (.ref b) S Q := ⟨xs, ys, h1, h2, h, q⟩
theorem b_sub {i j : Int} (q : Q (.int (i - j)) S) : binW .sub (.int i) (.int j) S Q := q
theorem b_mul {i j : Int} (h : L2.CMul i j) (q : Q (.int (i * j)) S) : binW .mul (.int i) (.int j) S Q := ⟨h, q⟩
theorem b_mulL {a : Nat} {k : Int} {xs : List D} (h1 : S[a]? = some (.lst xs)) (h2 : -(2 ^ 63) ≤ k ∧ k < 2 ^ 63) (h : xs.length * k.toNat ≤ sizeLine) (q : Q (.ref S.length) (S ++ [.lst (List.replicate k.toNat xs).flatten])) : binW .mul (.ref a) (.int k) S Q := ⟨xs, h1, h2.1, h2.2, h, q⟩
theorem b_mulR {i j : Int} (h : (decide (-(2 ^ 64) < j) && decide (j < 2 ^ 64)) = true) (q : Q (.int (i * j)) S) : binW .mul (.int i) (.int j) S Q := by
  rw [Bool.and_eq_true, decide_eq_true_iff, decide_eq_true_iff] at h
  exact ⟨Or.inr h, q⟩
theorem b_mulF {i j : Int} (h : (decide (-(2 ^ 64) < i) && decide (i < 2 ^ 64)) = true) (q : Q (.int (i * j)) S) : binW .mul (.int i) (.int j) S Q := by
  rw [Bool.and_eq_true, decide_eq_true_iff, decide_eq_true_iff] at h
  exact ⟨Or.inl h, q⟩
theorem b_fdiv {i j : Int} (h : j ≠ 0 ∧ j.natAbs < 1073741824) (q : Q (.int (i.fdiv j)) S) : binW .fdiv (.int i) (.int j) S Q := ⟨h, q⟩
theorem b_mod {i j : Int} (h : j ≠ 0) (q : Q (.int (i.fmod j)) S) : binW .mod (.int i) (.int j) S Q := ⟨h, q⟩
theorem b_pow {i j : Int} (h : L2.CPow i j) (q : Q (.int (i ^ j.toNat)) S) : binW .pow (.int i) (.int j) S Q := ⟨h, q⟩
theorem c_lt {i j : Int} {Q : Bool → St → Prop} (q : Q (decide (i < j)) S) : cmpW .lt (.int i) (.int j) S Q := q
theorem c_le {i j : Int} {Q : Bool → St → Prop} (q : Q (decide (i ≤ j)) S) : cmpW .le (.int i) (.int j) S Q := q
theorem c_gt {i j : Int} {Q : Bool → St → Prop} (q : Q (decide (j < i)) S) : cmpW .gt (.int i) (.int j) S Q := q
theorem c_ge {i j : Int} {Q : Bool → St → Prop} (q : Q (decide (j ≤ i)) S) : cmpW .ge (.int i) (.int j) S Q := q
theorem eqB_int (i j : Int) : eqB S (.int i) (.int j) = some (decide (i = j)) := by
  unfold eqB
  rw [show toPS S (.int i) = some (.int i) from rfl, show toPS S (.int j) = some (.int j) from rfl]
  show (if SeqAt.shaped (.int i) = true ∧ SeqAt.shaped (.int j) = true then some (PyData.eqv (.int i) (.int j)) else none) = _
  rw [if_pos ⟨rfl, rfl⟩]
  congr 1
theorem c_eqI {i j : Int} {Q : Bool → St → Prop} (q : Q (decide (i = j)) S) : cmpW .eq (.int i) (.int j) S Q := ⟨_, eqB_int i j, q⟩
theorem c_neI {i j : Int} {Q : Bool → St → Prop} (q : Q (!decide (i = j)) S) : cmpW .ne (.int i) (.int j) S Q := ⟨_, eqB_int i j, q⟩
theorem eqB_bl (i j : Bool) : eqB S (.bl i) (.bl j) = some (i == j) := by
  unfold eqB
  rw [show toPS S (.bl i) = some (.bool i) from rfl, show toPS S (.bl j) = some (.bool j) from rfl]
  show (if SeqAt.shaped (.bool i) = true ∧ SeqAt.shaped (.bool j) = true then some (PyData.eqv (.bool i) (.bool j)) else none) = _
  rw [if_pos ⟨rfl, rfl⟩]
  cases i <;> cases j <;> rfl
theorem c_eqB {i j : Bool} {Q : Bool → St → Prop} (q : Q (i == j) S) : cmpW .eq (.bl i) (.bl j) S Q := ⟨_, eqB_bl i j, q⟩
theorem c_neB {i j : Bool} {Q : Bool → St → Prop} (q : Q (!(i == j)) S) : cmpW .ne (.bl i) (.bl j) S Q := ⟨_, eqB_bl i j, q⟩
theorem c_eq {x y : D} {b : Bool} {Q : Bool → St → Prop} (h : eqB S x y = some b) (q : Q b S) : cmpW .eq x y S Q := ⟨_, h, q⟩
theorem c_ne {x y : D} {b : Bool} {Q : Bool → St → Prop} (h : eqB S x y = some b) (q : Q (!b) S) : cmpW .ne x y S Q := ⟨_, h, q⟩
theorem c_is {x : D} {Q : Bool → St → Prop} (q : Q (isNon x) S) : cmpW .is x .non S Q := ⟨rfl, q⟩
theorem c_isnot {x : D} {Q : Bool → St → Prop} (q : Q (!isNon x) S) : cmpW .isnot x .non S Q := ⟨rfl, q⟩
theorem ix_tup {xs : List D} {i : Int} {d : D} (h : L2.atI xs i = some d) (q : Q d S) : ixW (.tup xs) (.int i) S Q := ⟨d, h, q⟩
theorem ix_ref {n : Nat} {xs : List D} {i : Int} {d : D} (h1 : S[n]? = some (.lst xs)) (h : L2.atI xs i = some d) (q : Q d S) : ixW (.ref n) (.int i) S Q := ⟨xs, d, seqOf_lst h1, h, q⟩
theorem ix_seq {n : Nat} {xs : List D} {i : Int} {d : D} (h1 : seqOf S n = some xs) (h : L2.atI xs i = some d) (q : Q d S) : ixW (.ref n) (.int i) S Q := ⟨xs, d, h1, h, q⟩
theorem sl_tup {xs : List D} {l h : Option Int} (q : Q (.tup (cutD xs l h)) S) : slW (.tup xs) l h S Q := q
theorem sl_ref {n : Nat} {xs : List D} {l h : Option Int} (h1 : S[n]? = some (.lst xs)) (q : Q (.ref S.length) (S ++ [.lst (cutD xs l h)])) : slW (.ref n) l h S Q := ⟨xs, seqOf_lst h1, q⟩
theorem l_lenT {ds : List D} (q : Q (.int ds.length) S) : bltW .len [.tup ds] S Q := q
theorem l_lenR {n : Nat} {ds : List D} (h : S[n]? = some (.lst ds)) (q : Q (.int ds.length) S) : bltW .len [.ref n] S Q := ⟨ds, seqOf_lst h, q⟩
theorem l_abs {i : Int} (q : Q (.int (if i < 0 then -i else i)) S) : bltW .abs [.int i] S Q := q
theorem l_int {i : Int} (q : Q (.int i) S) : bltW .int [.int i] S Q := q
theorem l_intB {b : Bool} (q : Q (.int (if b then 1 else 0)) S) : bltW .int [.bl b] S Q := q
theorem l_max2 {i j : Int} (q : Q (.int (if j > i then j else i)) S) : bltW .max [.int i, .int j] S Q := q
theorem l_min2 {i j : Int} (q : Q (.int (if j < i then j else i)) S) : bltW .min [.int i, .int j] S Q := q
theorem l_max3 {i j k : Int} (q : Q (.int (max (max i j) k)) S) : bltW .max [.int i, .int j, .int k] S Q := q
theorem l_min3 {i j k : Int} (q : Q (.int (min (min i j) k)) S) : bltW .min [.int i, .int j, .int k] S Q := q
theorem l_max4 {i j k l : Int} (q : Q (.int (max (max (max i j) k) l)) S) : bltW .max [.int i, .int j, .int k, .int l] S Q := q
theorem l_min4 {i j k l : Int} (q : Q (.int (min (min (min i j) k) l)) S) : bltW .min [.int i, .int j, .int k, .int l] S Q := q
theorem l_tupT {ds : List D} (q : Q (.tup ds) S) : bltW .tuple [.tup ds] S Q := q
theorem l_tupR {n : Nat} {ds : List D} (h : S[n]? = some (.lst ds)) (q : Q (.tup ds) S) : bltW .tuple [.ref n] S Q := ⟨ds, seqOf_lst h, q⟩
theorem l_lstT {ds : List D} (q : Q (.ref S.length) (S ++ [.lst ds])) : bltW .list [.tup ds] S Q := q
theorem l_lstR {n : Nat} {ds : List D} (h : S[n]? = some (.lst ds)) (q : Q (.ref S.length) (S ++ [.lst ds])) : bltW .list [.ref n] S Q := ⟨ds, seqOf_lst h, q⟩
theorem lstD_lst {n : Nat} {ds : List D} (h : S[n]? = some (.lst ds)) : lstD S (.ref n) := ⟨n, ds, rfl, seqOf_lst h⟩
theorem m_append {n : Nat} {y : D} {ds : List D} (h : S[n]? = some (.lst ds)) (hl : ds.length < sizeLine) (q : Q .non (S.set n (.lst (ds ++ [y])))) : mthW .append (.ref n) [y] S Q := ⟨ds, h, hl, q⟩
theorem m_popI {n k : Nat} {i : Int} {y : D} {ds : List D} (h : S[n]? = some (.lst ds)) (h0 : -(2 ^ 63) ≤ i ∧ i < 2 ^ 63) (hk : seqIndex? i ds.length = some k) (hy : ds[k]? = some y) (q : Q y (S.set n (.lst (ds.eraseIdx k)))) : mthW .pop (.ref n) [.int i] S Q := ⟨ds, k, y, h, h0.1, h0.2, hk, hy, q⟩
theorem seqIndex_ok {i : Int} {n : Nat} (h0 : 0 ≤ i) (h : i < n) : seqIndex? i n = some i.toNat := by
  unfold seqIndex?
  simp only [show ¬ i < 0 by omega, if_false]
  simp [h0, h]
theorem dix_at {n : Nat} {kvs : List (L2.Key × D)} {k : L2.Key} {y d : D} {Q : QD} (h : S[n]? = some (.dic kvs)) (hk : keyD y = some k) (hv : valD kvs k = some d) (q : Q d S) : dixW (.ref n) y S Q := ⟨n, kvs, k, d, rfl, h, hk, hv, q⟩
theorem din_at {neg : Bool} {n : Nat} {kvs : List (L2.Key × D)} {k : L2.Key} {y : D} {Q : Bool → St → Prop} (h : S[n]? = some (.dic kvs)) (hk : keyD y = some k) (q : Q (if neg then !(valD kvs k).isSome else (valD kvs k).isSome) S) : dinW neg y (.ref n) S Q := ⟨n, kvs, k, rfl, h, hk, q⟩
theorem st_ix {n j : Nat} {k : Int} {v : D} {xs : List D} {Q : St → Prop} (h : S[n]? = some (.lst xs)) (hj : L2.ixN xs.length k = some j) (q : Q (S.set n (.lst (xs.set j v)))) : setIxW (.ref n) (.int k) v S Q := ⟨xs, j, h, hj, q⟩
theorem r_one {j : Int} {Q : Int → Int → Prop} (h : -(2 ^ 62) ≤ j ∧ j < 2 ^ 62) (q : Q 0 j) : rngW [.int j] Q := ⟨h.1, h.2, q⟩
theorem ex_int {i : Int} {P : Int → Prop} (h : P i) : ∃ k, D.int i = .int k ∧ P k := ⟨i, rfl, h⟩
theorem ex_truB {b : Bool} {P : Bool → Prop} (h : P b) : ∃ k, truD S (.bl b) = some k ∧ P k := ⟨b, rfl, h⟩
theorem ex_truI {i : Int} {P : Bool → Prop} (h : P (i != 0)) : ∃ k, truD S (.int i) = some k ∧ P k := ⟨_, rfl, h⟩
theorem ex_truT {xs : List D} {P : Bool → Prop} (h : P (!xs.isEmpty)) : ∃ k, truD S (.tup xs) = some k ∧ P k := ⟨_, rfl, h⟩
theorem ex_isi {t : Ty} {x : D} {b : Bool} {P : Bool → Prop} (h : isTy t x = some b) (q : P b) : ∃ y, isTy t x = some y ∧ P y := ⟨b, h, q⟩
theorem and_step {p : Prop} {n : Nat} (h : n ≤ sizeLine) (q : p) : n ≤ sizeLine ∧ p := ⟨h, q⟩
theorem if_dT {p : Prop} [Decidable p] {A B : Prop} (hp : p) (h : A) : if decide p = true then A else B := by rw [if_pos (decide_eq_true hp)]; exact h
theorem if_dF {p : Prop} [Decidable p] {A B : Prop} (hp : ¬ p) (h : B) : if decide p = true then A else B := by rw [if_neg (by simp [hp])]; exact h
theorem if_d {p : Prop} [Decidable p] {A B : Prop} (h1 : p → A) (h2 : ¬ p → B) : if decide p = true then A else B := by
  by_cases hp : p
  · exact if_dT hp (h1 hp)
  · exact if_dF hp (h2 hp)
theorem if_n {p : Prop} [Decidable p] {A B : Prop} (h1 : ¬ p → A) (h2 : p → B) : if (!decide p) = true then A else B := by
  by_cases hp : p
  · rw [if_neg (by simp [hp])]; exact h2 hp
  · rw [if_pos (by simp [hp])]; exact h1 hp
theorem if_b {b : Bool} {A B : Prop} (h1 : b = true → A) (h2 : b = false → B) : if b = true then A else B := by
  cases b with
  | true => rw [if_pos rfl]; exact h1 rfl
  | false => rw [if_neg (by decide)]; exact h2 rfl
theorem if_nb {b : Bool} {A B : Prop} (h1 : b = false → A) (h2 : b = true → B) : if (!b) = true then A else B := by
  cases b with
  | true => rw [if_neg (by decide)]; exact h2 rfl
  | false => rw [if_pos (by decide)]; exact h1 rfl
theorem if_bT {b : Bool} {A B : Prop} (hb : b = true) (h : A) : if b = true then A else B := by rw [if_pos hb]; exact h
theorem if_bF {b : Bool} {A B : Prop} (hb : b = false) (h : B) : if b = true then A else B := by subst hb; rw [if_neg (by decide)]; exact h
theorem if_nT {b : Bool} {A B : Prop} (hb : b = false) (h : A) : if (!b) = true then A else B := by subst hb; rw [if_pos (by decide)]; exact h
theorem if_nF {b : Bool} {A B : Prop} (hb : b = true) (h : B) : if (!b) = true then A else B := by subst hb; rw [if_neg (by decide)]; exact h
theorem if_ndT {p : Prop} [Decidable p] {A B : Prop} (hp : ¬ p) (h : A) : if (!decide p) = true then A else B := if_nT (decide_eq_false hp) h
theorem if_ndF {p : Prop} [Decidable p] {A B : Prop} (hp : p) (h : B) : if (!decide p) = true then A else B := if_nF (decide_eq_true hp) h
theorem if_tt {A B : Prop} (h : A) : if true = true then A else B := by rw [if_pos rfl]; exact h
theorem if_ff {A B : Prop} (h : B) : if false = true then A else B := by rw [if_neg (by decide)]; exact h
end
/-- a slice's items are the list's own -/
theorem mem_cut {xs : List D} {l h : Option Int} {d : D} (hd : d ∈ cutD xs l h) : d ∈ xs := by
  unfold cutD at hd
  exact List.mem_of_mem_drop (List.mem_of_mem_take hd)
theorem cut_len (xs : List D) (l h : Option Int) : (cutD xs l h).length ≤ xs.length := by
  unfold cutD
  rw [List.length_take, List.length_drop]; omega
theorem rgD_len (a b : Int) : (rgD a b).length = (b - a).toNat := by unfold rgD; rw [List.length_map, List.length_range]
theorem rgD_get {a b : Int} {i : Nat} {x : D} (h : (rgD a b)[i]? = some x) : i < (b - a).toNat ∧ x = .int (a + i) := by
  unfold rgD at h
  rw [List.getElem?_map] at h
  cases e : (List.range (b - a).toNat)[i]? with
  | none => rw [e] at h; cases h
  | some j =>
    rw [e] at h
    have hl : i < (List.range (b - a).toNat).length := by
      rcases Nat.lt_or_ge i (List.range (b - a).toNat).length with g | g
      · exact g
      · rw [List.getElem?_eq_none g] at e; cases e
    rw [List.length_range] at hl
    rw [List.getElem?_range hl] at e
    cases e
    exact ⟨hl, (Option.some.inj h).symm⟩
theorem call_of {T : List FDef} {f : Nat} {fd : FDef} {k : Nat} {ds : List D} {S : St} {Q : QD} (h : T[f]? = some fd) (hl : ds.length = fd.np)
    (q : wSs (callW T k) fd.body { nx := fun _ S' => Q .non S', rt := Q } (startD fd.nn ds) S) : callW T (k + 1) f ds S Q := ⟨fd, h, hl, q⟩
end Flx

end
section
set_option Elab.async false
set_option linter.all false
set_option autoImplicit false
set_option maxRecDepth 100000
/-! FlxData: plain data, compared; arcs. -/
namespace Flx
open PySem PySem.Spec PyProof.Rows
/-- plain data, k deep -/
def plD : Nat → D → Prop
  | _, .non => True
  | _, .bl _ => True
  | _, .int _ => True
  | _, .str s => SeqAt.shaped (.str s) = true
  | 0, .tup _ => False
  | k + 1, .tup xs => xs.length < 2 ^ 30 ∧ ∀ d ∈ xs, plD k d
  | _, .ref _ => False
theorem toPs_of {k : Nat} (ih : ∀ d, plD k d → ∃ p, toP d = some p ∧ p.canLay0 = true ∧ p.depth ≤ k) : ∀ ds : List D, (∀ d ∈ ds, plD k d) →
    ∃ ps, toPs ds = some ps ∧ PyData.canLayAll0 ps = true ∧ PyData.depthAll ps ≤ k ∧ ps.length = ds.length
  | [], _ => ⟨[], by rw [toPs], by rw [PyData.canLayAll0], by rw [PyData.depthAll]; exact Nat.zero_le _, rfl⟩
  | d :: ds, h => by
    obtain ⟨p, e1, c1, d1⟩ := ih d (h d (List.mem_cons_self ..))
    obtain ⟨ps, e2, c2, d2, l2⟩ := toPs_of ih ds (fun x hx => h x (List.mem_cons_of_mem _ hx))
    refine ⟨p :: ps, by rw [toPs, e1, e2]; rfl, ?_, ?_, ?_⟩
    · rw [PyData.canLayAll0, c1, c2]; rfl
    · rw [PyData.depthAll]; exact Nat.max_le.2 ⟨d1, d2⟩
    · rw [List.length_cons, List.length_cons, l2]
theorem toP_pl : ∀ (k : Nat) (d : D), plD k d → ∃ p, toP d = some p ∧ p.canLay0 = true ∧ p.depth ≤ k
  | k, .non, _ => ⟨.none, by rw [toP], by rw [PyData.canLay0], by rw [PyData.depth]; exact Nat.zero_le _⟩
  | k, .bl b, _ => ⟨.bool b, by rw [toP], by rw [PyData.canLay0], by rw [PyData.depth]; exact Nat.zero_le _⟩
  | k, .int b, _ => ⟨.int b, by rw [toP], by rw [PyData.canLay0], by rw [PyData.depth]; exact Nat.zero_le _⟩
  | k, .str b, h => ⟨.str b, by rw [toP], SeqAt.canLay_of_shaped (by cases k <;> exact h), by rw [PyData.depth]; exact Nat.zero_le _⟩
  | 0, .tup xs, h => h.elim
  | k + 1, .tup xs, h => by
    obtain ⟨ps, e2, c2, d2, l2⟩ := toPs_of (toP_pl k) xs h.2
    refine ⟨.tuple ps, by rw [toP, e2]; rfl, by rw [PyData.canLay0]; exact c2, by rw [PyData.depth]; omega⟩
  | k, .ref n, h => by cases k <;> exact h.elim
theorem toPs_pl {k : Nat} {ds : List D} (h : ∀ d ∈ ds, plD k d) : ∃ ps, toPs ds = some ps ∧ PyData.canLayAll0 ps = true ∧ PyData.depthAll ps ≤ k ∧ ps.length = ds.length := toPs_of (toP_pl k) ds h
theorem shaped_of {p : PyData} (h1 : p.canLay0 = true) (h2 : p.depth ≤ 64) : SeqAt.shaped p = true := by
  unfold SeqAt.shaped; rw [h1, decide_eq_true h2]; rfl
mutual
theorem toPR_of {S : St} : ∀ {d : D} {p : PyData}, toP d = some p → toPR S d = some p
  | .non, p, h => by simpa [toP, toPR] using h
  | .bl _, p, h => by simpa [toP, toPR] using h
  | .int _, p, h => by simpa [toP, toPR] using h
  | .str _, p, h => by simpa [toP, toPR] using h
  | .tup xs, p, h => by
    cases q : toPs xs with
    | none => simp [toP, q] at h
    | some ps =>
      have h' : PyData.tuple ps = p := by simpa [toP, q] using h
      rw [toPR, toPRs_of q, ← h']; rfl
  | .ref _, p, h => by simp [toP] at h
theorem toPRs_of {S : St} : ∀ {ds : List D} {ps : List PyData}, toPs ds = some ps → toPRs S ds = some ps
  | [], ps, h => by simpa [toPs, toPRs] using h
  | d :: ds, ps, h => by
    cases q : toP d with
    | none => simp [toPs, q] at h
    | some p =>
      cases q2 : toPs ds with
      | none => simp [toPs, q, q2] at h
      | some ps' =>
        have h' : p :: ps' = ps := by simpa [toPs, q, q2] using h
        rw [toPRs, toPR_of q, toPRs_of q2, ← h']; rfl
end
theorem toPS_of {S : St} {d : D} {p : PyData} (h : toP d = some p) : toPS S d = some p := by
  cases d <;> first | exact toPR_of h | simp [toP] at h
theorem eqB_some {S : St} {x y : D} {p q : PyData} (h1 : toPS S x = some p) (h2 : toPS S y = some q) (g1 : SeqAt.shaped p = true) (g2 : SeqAt.shaped q = true) : eqB S x y = some (PyData.eqv p q) := by
  unfold eqB; rw [h1, h2]
  show (if SeqAt.shaped p = true ∧ SeqAt.shaped q = true then some (PyData.eqv p q) else none) = _
  rw [if_pos ⟨g1, g2⟩]
theorem eqvAll_nil (ps : List PyData) : PyData.eqvAll ps [] = ps.isEmpty := by cases ps <;> simp [PyData.eqvAll]
theorem eqB_nilT {S : St} {xs : List D} (h : ∀ d ∈ xs, plD 60 d) : eqB S (.tup xs) (.tup []) = some xs.isEmpty := by
  obtain ⟨ps, e, c, d, l⟩ := toPs_pl h
  rw [eqB_some (p := .tuple ps) (q := .tuple []) (toPS_of (by rw [toP, e]; rfl)) (toPS_of (by rw [toP, toPs]; rfl))
    (shaped_of (by rw [PyData.canLay0]; exact c) (by rw [PyData.depth]; omega)) (by decide)]
  rw [PyData.eqv, eqvAll_nil]
  cases ps <;> cases xs <;> first | rfl | cases l
theorem toPS_lst {S : St} {a : Nat} {xs : List D} {ps : List PyData} (h : S[a]? = some (.lst xs)) (e : toPs xs = some ps) : toPS S (.ref a) = some (.list ps) := by
  show ((seqOf S a).bind fun xs => (toPRs S xs).map PyData.list) = _
  rw [seqOf_lst h]
  show (toPRs S xs).map _ = _
  rw [toPRs_of e]; rfl
theorem eqB_nilL {S : St} {a b : Nat} {xs : List D} (h1 : S[a]? = some (.lst xs)) (h2 : S[b]? = some (.lst [])) (h : ∀ d ∈ xs, plD 60 d) : eqB S (.ref a) (.ref b) = some xs.isEmpty := by
  obtain ⟨ps, e, c, d, l⟩ := toPs_pl h
  rw [eqB_some (p := .list ps) (q := .list []) (toPS_lst h1 e) (toPS_lst h2 (by rw [toPs]))
    (shaped_of (by rw [PyData.canLay0]; exact c) (by rw [PyData.depth]; omega)) (by decide)]
  rw [PyData.eqv, eqvAll_nil]
  cases ps <;> cases xs <;> first | rfl | cases l
/-- an arc among m nodes -/
def arcOk (m : Int) (d : D) : Prop := ∃ i j w : Int, d = .tup [.int i, .int j, .int w] ∧ -1 ≤ i ∧ i < m ∧ -1 ≤ j ∧ j < m
end Flx

end
section
set_option Elab.async false
set_option linter.all false
set_option autoImplicit false
/-! FlxNet: longest ways: Floyd and Warshall's table, in place and row by row. -/
namespace FNet
abbrev F := Nat → Nat → Option Int
/-- the greater one; none is below all -/
def omax : Option Int → Option Int → Option Int
  | none, y => y
  | x, none => x
  | some a, some b => some (if a < b then b else a)
def oadd : Option Int → Option Int → Option Int
  | some a, some b => some (a + b)
  | _, _ => none
def ole : Option Int → Option Int → Prop
  | none, _ => True
  | some _, none => False
  | some a, some b => a ≤ b
def upd (f : F) (i j : Nat) (v : Option Int) : F := fun i' j' => if i' = i ∧ j' = j then v else f i' j'
theorem upd_ne (f : F) {i j i' j' : Nat} (v : Option Int) (h : ¬ (i' = i ∧ j' = j)) : upd f i j v i' j' = f i' j' := by unfold upd; rw [if_neg h]
/-- one step in place -/
def stp (k i j : Nat) (f : F) : F := upd f i j (omax (f i j) (oadd (f i k) (f k j)))
def lj (k i : Nat) : Nat → F → F
  | 0, f => f
  | j + 1, f => stp k i j (lj k i j f)
def li (n k : Nat) : Nat → F → F
  | 0, f => f
  | i + 1, f => lj k i n (li n k i f)
def lk (n : Nat) : Nat → F → F
  | 0, f => f
  | k + 1, f => li n k n (lk n k f)
/-- all rows at once -/
def sim (k : Nat) (f : F) : F := fun i j => omax (f i j) (oadd (f i k) (f k j))
def sims : Nat → F → F
  | 0, f => f
  | k + 1, f => sim k (sims k f)
def fle (f g : F) : Prop := ∀ i j, ole (f i j) (g i j)
/-- alike among the first n -/
def agr (n : Nat) (f g : F) : Prop := ∀ i j, i < n → j < n → f i j = g i j
/-- the table without a positive round on the way -/
structure Good (n k : Nat) (f : F) : Prop where
  diag : ∀ i, i < n → ∃ a, f i i = some a ∧ 0 ≤ a
  low : ∀ i, i < k → f i i = some 0
  clo : ∀ m u v, m < k → u < n → v < n → ole (oadd (f u m) (f m v)) (f u v)
/-- the program's way: stop at the first positive middle -/
def prog (n : Nat) : Nat → F → Option F
  | 0, f => some f
  | k + 1, f => (prog n k f).bind fun g => if 0 < (g k k).getD 0 then none else some (sim k g)
/-- an arc more -/
def arc (f : F) (i j : Nat) (w : Int) : F := upd f i j (omax (f i j) (some w))
def arcs : List (Nat × Nat × Int) → F → F
  | [], f => f
  | (i, j, w) :: r, f => arcs r (arc f i j w)
/-- closed under going on -/
def closed (n : Nat) (H : F) : Prop := ∀ m u v, m < n → u < n → v < n → ole (oadd (H u m) (H m v)) (H u v)
def below (n : Nat) (f g : F) : Prop := ∀ u v, u < n → v < n → ole (f u v) (g u v)
/-- no round is positive -/
def calm (n : Nat) (G : F) : Prop := ∀ i, i < n → ¬ 0 < (G i i).getD 0
def dgood (n : Nat) (f : F) : Prop := ∀ i, i < n → ∃ a, f i i = some a ∧ 0 ≤ a
/-- a table with an arc more -/
def tight (i j : Nat) (w : Int) (G : F) : F := fun u v => omax (G u v) (oadd (oadd (G u i) (some w)) (G j v))
end FNet

end
section
set_option Elab.async false
set_option linter.all false
set_option autoImplicit false
set_option maxRecDepth 100000
/-! FlxRows: tables as lists of lists. -/
namespace Flx
open PySem PySem.Spec PyProof.Rows FNet
def oD : Option Int → D
  | none => .non
  | some i => .int i
def rowD (n : Nat) (g : Nat → Option Int) : List D := (List.range n).map fun j => oD (g j)
theorem rowD_len (n : Nat) (g : Nat → Option Int) : (rowD n g).length = n := by unfold rowD; rw [List.length_map, List.length_range]
theorem rowD_get {n j : Nat} {g : Nat → Option Int} (h : j < n) : (rowD n g)[j]? = some (oD (g j)) := by
  unfold rowD; rw [List.getElem?_map, List.getElem?_range h]; rfl
theorem rowD_set {n j : Nat} {g : Nat → Option Int} {v : Option Int} (h : j < n) : (rowD n g).set j (oD v) = rowD n (fun j' => if j' = j then v else g j') := by
  apply List.ext_getElem?
  intro i
  by_cases hi : i < n
  · rw [rowD_get hi]
    by_cases e : i = j
    · subst e
      rw [List.getElem?_set_self (by rw [rowD_len]; exact hi), if_pos rfl]
    · rw [List.getElem?_set_ne (Ne.symm e), rowD_get hi, if_neg e]
  · rw [List.getElem?_eq_none (by rw [List.length_set, rowD_len]; omega), List.getElem?_eq_none (by rw [rowD_len]; omega)]
theorem rowD_congr {n : Nat} {g g' : Nat → Option Int} (h : ∀ j, j < n → g j = g' j) : rowD n g = rowD n g' := by
  unfold rowD
  apply List.map_congr_left
  intro j hj
  rw [List.mem_range] at hj
  rw [h j hj]
def refsD (b n : Nat) : List D := (List.range n).map fun i => D.ref (b + 2 * i)
theorem refsD_len (b n : Nat) : (refsD b n).length = n := by unfold refsD; rw [List.length_map, List.length_range]
/-- a table: rows at b, b+2, ..; their list at r -/
structure Rws (S : St) (r b n : Nat) (f : F) : Prop where
  top : S[r]? = some (.lst (refsD b n))
  row : ∀ i, i < n → S[b + 2 * i]? = some (.lst (rowD n (f i)))
  sep : ∀ i, i < n → r ≠ b + 2 * i
theorem Rws.ext {S S' : St} {r b n : Nat} {f : F} (h : Rws S r b n f) (e : Ext S S') : Rws S' r b n f := ⟨e.get h.top, fun i hi => e.get (h.row i hi), h.sep⟩
theorem Rws.fr {S S' : St} {r b n : Nat} {f : F} (h : Rws S r b n f) (hr : 3 ≤ r) (hb : 3 ≤ b) (e : Fr S S') : Rws S' r b n f := ⟨e.get (by omega) h.top, fun i hi => e.get (by omega) (h.row i hi), h.sep⟩
theorem Rws.upd {S : St} {r b n : Nat} {f : F} (h : Rws S r b n f) {i j : Nat} {v : Option Int} (hi : i < n) (hj : j < n) : Rws (S.set (b + 2 * i) (.lst ((rowD n (f i)).set j (oD v)))) r b n (FNet.upd f i j v) := by
  refine ⟨get_set (h.sep i hi) h.top, fun i' hi' => ?_, h.sep⟩
  by_cases e : i' = i
  · subst e
    rw [get_set_self (h.row i' hi'), rowD_set hj]
    congr 2
    apply rowD_congr
    intro j' _
    unfold FNet.upd
    by_cases e : j' = j
    · rw [if_pos e, if_pos ⟨rfl, e⟩]
    · rw [if_neg e, if_neg (fun h => e h.2)]
  · rw [get_set (by omega) (h.row i' hi')]
    congr 2
    apply rowD_congr
    intro j' _
    unfold FNet.upd
    rw [if_neg (fun h => e h.1)]
theorem Rws.same {S : St} {r b n : Nat} {f g : F} (h : Rws S r b n f) (e : ∀ i j, i < n → j < n → f i j = g i j) : Rws S r b n g :=
  ⟨h.top, fun i hi => by rw [h.row i hi, rowD_congr (e i · hi)], h.sep⟩
def arcD (a : Int × Int × Int) : D := .tup [.int a.1, .int a.2.1, .int a.2.2]
def okA (m : Int) (a : Int × Int × Int) : Prop := (-1 ≤ a.1 ∧ a.1 < m) ∧ -1 ≤ a.2.1 ∧ a.2.1 < m
def natA (n : Nat) (a : Int × Int × Int) : Nat × Nat × Int := (pyI n a.1, pyI n a.2.1, a.2.2)
theorem get_of_map {α β : Type} {f : α → β} {xs : List α} {i : Nat} {y : β} (h : (xs.map f)[i]? = some y) : ∃ x, xs[i]? = some x ∧ y = f x := by
  rw [List.getElem?_map] at h
  cases e : xs[i]? with
  | none => rw [e] at h; cases h
  | some x => rw [e] at h; exact ⟨x, rfl, (Option.some.inj h).symm⟩
/-- at first: 0 at the diagonal and in the last row -/
def ini (m : Nat) : Nat → F
  | 0 => fun _ _ => none
  | i + 1 => FNet.upd (FNet.upd (ini m i) i i (some 0)) m i (some 0)
/-- a row, a list or a tuple -/
def RowIs (S : St) (d : D) (n : Nat) (g : Nat → Option Int) : Prop := itemsOf S d = some (rowD n g)
theorem RowIs.ext {S S' : St} {d : D} {n : Nat} {g : Nat → Option Int} (h : RowIs S d n g) (e : Ext S S') : RowIs S' d n g := itemsOf_ext e h
def tabD (n : Nat) (f : F) : D := .tup ((List.range n).map fun i => .tup (rowD n (f i)))
theorem oD_pl (k : Nat) (x : Option Int) : plD k (oD x) := by cases x <;> cases k <;> exact trivial
/-- the program's own start -/
def iniP (m i : Nat) : F := fun u v => if u = m ∧ v < i then some 0 else none
def dgP (i : Nat) (f : F) : F := fun u v => if u = v ∧ u < i then omax (f u v) (some 0) else f u v
/-- a table whose rows lie anywhere -/
structure Tab (S : St) (r n : Nat) (f : F) : Prop where
  get : ∃ ds, S[r]? = some (.lst ds) ∧ ds.length = n ∧ ∀ i (h : i < ds.length), RowIs S ds[i] n (f i)
theorem Tab.ext {S S' : St} {r n : Nat} {f : F} (h : Tab S r n f) (e : Ext S S') : Tab S' r n f := by
  obtain ⟨ds, h1, h2, h3⟩ := h.get
  exact ⟨ds, e.get h1, h2, fun i hi => (h3 i hi).ext e⟩
theorem Rws.tab {S : St} {r b n : Nat} {f : F} (h : Rws S r b n f) : Tab S r n f := ⟨refsD b n, h.top, refsD_len b n, fun i hi => by
  rw [refsD_len] at hi
  have : (refsD b n)[i]'(by rw [refsD_len]; exact hi) = .ref (b + 2 * i) := by unfold refsD; rw [List.getElem_map, List.getElem_range]
  unfold RowIs
  rw [this]
  exact seqOf_lst (h.row i hi)⟩
end Flx

end
section
set_option Elab.async false
set_option linter.all false
set_option autoImplicit false
set_option maxRecDepth 100000
/-! FlxGen: plain lemmas for the laws. -/
namespace Flx
open PySem PySem.Spec PyProof.Rows FNet
theorem fmod_rng (x m : Int) (hm : 0 < m) : 0 ≤ x.fmod m ∧ x.fmod m < m := ⟨Int.fmod_nonneg_of_pos x hm, Int.fmod_lt_of_pos x hm⟩
theorem eqB_self {S : St} {d : D} {p : PyData} (h : toPS S d = some p) (hs : SeqAt.shaped p = true) (he : PyData.eqv p p = true) : eqB S d d = some true := by
  unfold eqB; rw [h]
  show (if SeqAt.shaped p = true ∧ SeqAt.shaped p = true then some (PyData.eqv p p) else none) = _
  rw [if_pos ⟨hs, hs⟩, he]
/-- times from 0 to 98 -/
def smallT (ts : List Int) : Prop := ∀ x ∈ ts, 0 ≤ x ∧ x ≤ 98
/-- the times keep the arc -/
def keepsD (ts : List Int) (d : D) : Prop := ∃ i j w x y : Int, d = .tup [.int i, .int j, .int w] ∧ L2.atI ts i = some x ∧ L2.atI ts j = some y ∧ w ≤ y - x
/-- what a drawn network is -/
structure Net (m : Int) (t a : Nat) (c : Nat) (S : St) : Prop where
  m0 : 0 ≤ m
  m8 : m ≤ 8
  all : ∃ (ts : List Int) (xs : List D), S[t]? = some (.lst (ts.map D.int)) ∧ (ts.length : Int) = m + 1 ∧ smallT ts ∧ L2.atI ts (-1) = some 0 ∧ S[a]? = some (.lst xs) ∧ xs.length ≤ c ∧ (∀ d ∈ xs, arcOk m d) ∧ ∀ d ∈ xs, keepsD ts d
  t3 : 3 ≤ t
  a3 : 3 ≤ a
theorem upd_same (f : F) (i j : Nat) (v : Option Int) (h : f i j = v) (i' j' : Nat) : f i' j' = FNet.upd f i j v i' j' := by
  unfold FNet.upd
  split
  · rename_i e; rw [e.1, e.2]; exact h
  · rfl
/-- the law's own table, behind the arcs -/
def netF (m : Nat) (as : List (Int × Int × Int)) : F := arcs (as.map (natA (m + 1))) (ini m (m + 1))
/-- the tuples that keep -/
def Kept (gs : List Int) (as : List (Int × Int × Int)) : Prop := (∀ g ∈ gs, 0 ≤ g) ∧ ∀ a ∈ as, ∀ x y, L2.atI (gs ++ [0]) a.1 = some x → L2.atI (gs ++ [0]) a.2.1 = some y → x + a.2.2 ≤ y
theorem intsOf_map : ∀ is : List Int, intsOf (is.map D.int) = some is
  | [] => rfl
  | i :: is => by show (intsOf (is.map D.int)).map _ = _; rw [intsOf_map is]; rfl
/-- the law's own rows, or None -/
def RowsV (S : St) (m : Nat) (F : F) (v : D) : Prop :=
  (v = .non ∧ ∃ i, i < m + 1 ∧ 0 < (F i i).getD 0) ∨ (∃ r b, v = .ref r ∧ 3 ≤ r ∧ 3 ≤ b ∧ Rws S r b (m + 1) F ∧ ∀ i, i < m + 1 → ¬ 0 < (F i i).getD 0)
theorem RowsV.fr {S S' : St} {m : Nat} {F : F} {v : D} (h : RowsV S m F v) (e : Fr S S') : RowsV S' m F v := by
  rcases h with h | ⟨r, b, h1, h2, h3, h4, h5⟩
  · exact Or.inl h
  · exact Or.inr ⟨r, b, h1, h2, h3, h4.fr h2 h3 e, h5⟩
end Flx

end
section
set_option Elab.async false
set_option linter.all false
set_option autoImplicit false
set_option maxRecDepth 100000
/-! FlxMore: further loop rules. -/
namespace Flx
open PySem PySem.Spec PyProof.Rows
theorem take_next {α : Type} {xs : List α} {i : Nat} {x : α} (h : xs[i]? = some x) : xs.take (i + 1) = xs.take i ++ [x] := by
  rw [List.take_add_one, h]; rfl
/-- [h a for a in as if p a], the store may grow -/
theorem lc_filtE {C : Nat → List D → St → QD → Prop} (mC : MonoC C) {G : St → Prop} {tg : Tg} {elt : Ex} {ifs : Exs} {α : Type} {as : List α} {σ : Sg} {S : St} {Q : List D → St → Prop} (g h : α → D) (p : α → Bool)
    (hG : ∀ S', Ext S S' → G S') (each : ∀ a ∈ as, ∀ S1, Ext S S1 → ∃ σ', gA tg (g a) σ = some σ' ∧ wC C ifs σ' S1 (fun b S2 => b = p a ∧ Ext S1 S2) ∧ (p a = true → ∀ S2, Ext S S2 → wE C elt σ' S2 (fun y S3 => y = h a ∧ Ext S2 S3)))
    (q : ∀ S', Ext S S' → Q ((as.filter p).map h) S') : LcL C G elt tg ifs σ (as.map g) S Q := by
  refine lc_inv mC (fun i acc S' => Ext S S' ∧ acc = ((as.take i).filter p).map h) ⟨Ext.refl _, rfl⟩ (fun i acc S' h => hG _ h.1) ?_ ?_
  · rintro i x acc S1 hx ⟨e1, rfl⟩
    have hi : ∃ a, as[i]? = some a ∧ x = g a := by
      rw [List.getElem?_map] at hx
      cases e : as[i]? with
      | none => rw [e] at hx; cases hx
      | some a => rw [e] at hx; exact ⟨a, rfl, (Option.some.inj hx).symm⟩
    obtain ⟨a, ha, rfl⟩ := hi
    obtain ⟨σ', h1, h2, h3⟩ := each a (List.mem_of_getElem? ha) S1 e1
    refine ⟨σ', h1, wC_mono mC ifs _ _ _ _ (fun b S2 h => ?_) h2⟩
    obtain ⟨rfl, e2⟩ := h
    rw [take_next ha, List.filter_append, List.map_append]
    cases hp : p a with
    | true =>
      rw [if_pos rfl]
      refine wE_mono mC elt _ _ _ _ (fun y S3 h => ?_) (h3 hp S2 (e1.trans e2))
      obtain ⟨rfl, e3⟩ := h
      refine ⟨(e1.trans e2).trans e3, ?_⟩
      congr 1
      simp [hp]
    | false =>
      rw [if_neg (by decide)]
      refine ⟨e1.trans e2, ?_⟩
      simp [hp]
  · rintro acc S' ⟨e1, rfl⟩
    rw [List.length_map, List.take_of_length_le (Nat.le_refl _)]
    exact q _ e1
/-- [h a for a in as], the store may grow -/
theorem lc_mapE {C : Nat → List D → St → QD → Prop} (mC : MonoC C) {G : St → Prop} {tg : Tg} {elt : Ex} {α : Type} {as : List α} {σ : Sg} {S : St} {Q : List D → St → Prop} (g h : α → D)
    (hG : ∀ S', Ext S S' → G S') (each : ∀ a ∈ as, ∀ S1, Ext S S1 → ∃ σ', gA tg (g a) σ = some σ' ∧ wE C elt σ' S1 (fun y S3 => y = h a ∧ Ext S1 S3))
    (q : ∀ S', Ext S S' → Q (as.map h) S') : LcL C G elt tg .nil σ (as.map g) S Q := by
  refine lc_all mC (fun i acc S' => Ext S S' ∧ acc = (as.take i).map h) ⟨Ext.refl _, rfl⟩ (fun i acc S' h => hG _ h.1) ?_ ?_
  · rintro i x acc S1 hx ⟨e1, rfl⟩
    have hi : ∃ a, as[i]? = some a ∧ x = g a := by
      rw [List.getElem?_map] at hx
      cases e : as[i]? with
      | none => rw [e] at hx; cases hx
      | some a => rw [e] at hx; exact ⟨a, rfl, (Option.some.inj hx).symm⟩
    obtain ⟨a, ha, rfl⟩ := hi
    obtain ⟨σ', h1, h3⟩ := each a (List.mem_of_getElem? ha) S1 e1
    refine ⟨σ', h1, wE_mono mC elt _ _ _ _ (fun y S3 h => ?_) h3⟩
    obtain ⟨rfl, e3⟩ := h
    refine ⟨e1.trans e3, ?_⟩
    rw [take_next ha, List.map_append]; rfl
  · rintro acc S' ⟨e1, rfl⟩
    rw [List.length_map, List.take_of_length_le (Nat.le_refl _)]
    exact q _ e1
end Flx

end
section
set_option Elab.async false
set_option linter.all false
set_option autoImplicit false
set_option maxRecDepth 100000
/-! FlxPow: greatest weights of walks with so many arcs; a positive round is there within n arcs. -/
namespace FNet
/-- the greatest of g 0 .. g (n - 1) -/
def oM (g : Nat → Option Int) : Nat → Option Int
  | 0 => none
  | k + 1 => omax (oM g k) (g k)
def mul (n : Nat) (B W : F) : F := fun i j => oM (fun k => oadd (B i k) (W k j)) n
def idF : F := fun i j => if i = j then some 0 else none
def pw (n : Nat) (B : F) : Nat → F
  | 0 => idF
  | k + 1 => mul n B (pw n B k)
/-- walks: so many arcs, from, to, the weight -/
inductive Wk (n : Nat) (B : F) : Nat → Nat → Nat → Int → Prop
  | nil {u : Nat} : u < n → Wk n B 0 u u 0
  | cons {l u k v : Nat} {a w : Int} : u < n → B u k = some a → Wk n B l k v w → Wk n B (l + 1) u v (a + w)
theorem Wk.lt {n : Nat} {B : F} {l u v : Nat} {w : Int} (h : Wk n B l u v w) : u < n ∧ v < n := by
  induction h with
  | nil h => exact ⟨h, h⟩
  | cons h _ _ ih => exact ⟨h, ih.2⟩
theorem Wk.app {n : Nat} {B : F} {l l' u k v : Nat} {w w' : Int} (h : Wk n B l u k w) (h' : Wk n B l' k v w') : Wk n B (l + l') u v (w + w') := by
  induction h with
  | nil h => rw [Nat.zero_add, Int.zero_add]; exact h'
  | cons h e t ih =>
    have := Wk.cons h e (ih h')
    rw [Nat.add_right_comm, Int.add_assoc]
    exact this
/-- each entry of the table is a walk's weight -/
def Ach (n : Nat) (B f : F) : Prop := ∀ u v x, u < n → v < n → f u v = some x → ∃ l, Wk n B l u v x
end FNet
namespace Flx
open PySem PySem.Spec PyProof.Rows FNet
/-- a while by a measure -/
theorem whl_inv {C : Nat → List D → St → QD → Prop} (mC : MonoC C) {c : Ex} {b : Sms} {σ : Sg} {S : St} {E : En} (n : Nat) (I : Nat → Sg → St → Prop) (h0 : I n σ S)
    (step : ∀ k σ S, I k σ S → wT C c σ S fun t S1 => if t = true then ∃ k', k = k' + 1 ∧ wSs C b { nx := I k', ct := I k', bk := E.nx, rt := E.rt } σ S1 else E.nx σ S1) : WhlL C c b E σ S := by
  refine ⟨n + 1, ?_⟩
  have key : ∀ (k : Nat) (σ : Sg) (S : St), I k σ S → whlW (fun σ' S' Q' => wT C c σ' S' Q') (fun E' σ' S' => wSs C b E' σ' S') (k + 1) E σ S := by
    intro k
    induction k with
    | zero =>
      intro σ S h
      refine wT_mono mC c σ S _ _ (fun t S1 h1 => ?_) (step 0 σ S h)
      cases t with
      | true =>
        rw [if_pos rfl] at h1
        obtain ⟨k', e, _⟩ := h1
        exact absurd e (by omega)
      | false => exact h1
    | succ k ih =>
      intro σ S h
      refine wT_mono mC c σ S _ _ (fun t S1 h1 => ?_) (step (k + 1) σ S h)
      cases t with
      | true =>
        rw [if_pos rfl] at h1 ⊢
        obtain ⟨k', e, h1⟩ := h1
        have : k' = k := by omega
        subst this
        exact wSs_mono mC b { nx := I k', ct := I k', bk := E.nx, rt := E.rt } _ _ _ ⟨fun σ2 S2 h2 => ih σ2 S2 h2, fun _ _ q => q, fun _ _ q => q, fun σ2 S2 h2 => ih σ2 S2 h2⟩ h1
      | false => exact h1
  exact key n σ S h0
/-- a test cut off from its arms, nothing behind -/
theorem s_if {C : Nat → List D → St → QD → Prop} (mC : MonoC C) {c : Ex} {a b : Sms} {σ : Sg} {S : St} {E : En} (M : Bool → St → Prop) (h1 : wT C c σ S M)
    (hT : ∀ S', M true S' → wSs C a E σ S') (hF : ∀ S', M false S' → wSs C b E σ S') : wS C (.ite c a b) E σ S := by
  rw [wS]
  refine wT_mono mC c σ S _ _ (fun k S' h => ?_) h1
  cases k with
  | true => exact hT S' h
  | false => exact hF S' h
/-- the first c rows of a table under way, n long -/
structure Rwk (S : St) (r b c n : Nat) (f : F) : Prop where
  top : S[r]? = some (.lst (refsD b c))
  row : ∀ i, i < c → S[b + 2 * i]? = some (.lst (rowD n (f i)))
  sep : ∀ i, i < c → r ≠ b + 2 * i
theorem Rwk.same {S : St} {r b c n : Nat} {f g : F} (h : Rwk S r b c n f) (e : ∀ i j, i < c → j < n → f i j = g i j) : Rwk S r b c n g :=
  ⟨h.top, fun i hi => by rw [h.row i hi, rowD_congr (e i · hi)], h.sep⟩
theorem Rwk.upd {S : St} {r b c n : Nat} {f : F} (h : Rwk S r b c n f) {i j : Nat} {v : Option Int} (hi : i < c) (hj : j < n) : Rwk (S.set (b + 2 * i) (.lst ((rowD n (f i)).set j (oD v)))) r b c n (FNet.upd f i j v) := by
  refine ⟨get_set (h.sep i hi) h.top, fun i' hi' => ?_, h.sep⟩
  by_cases e : i' = i
  · subst e
    rw [get_set_self (h.row i' hi'), rowD_set hj]
    congr 2
    apply rowD_congr
    intro j' _
    unfold FNet.upd
    by_cases e : j' = j
    · rw [if_pos e, if_pos ⟨rfl, e⟩]
    · rw [if_neg e, if_neg (fun h => e h.2)]
  · rw [get_set (by omega) (h.row i' hi')]
    congr 2
    apply rowD_congr
    intro j' _
    unfold FNet.upd
    rw [if_neg (fun h => e h.1)]
/-- the first of -1, 0, .. below k - 1 -/
def firstN (P : Int → Bool) : Nat → Option Int
  | 0 => none
  | k + 1 => match firstN P k with
    | some x => some x
    | none => if P ((k : Int) - 1) = true then some ((k : Int) - 1) else none
theorem firstN_some {P : Int → Bool} {x : Int} : ∀ {k : Nat}, firstN P k = some x → P x = true ∧ -1 ≤ x ∧ x < (k : Int) - 1
  | 0, h => by cases h
  | k + 1, h => by
    unfold firstN at h
    cases e : firstN P k with
    | some y =>
      rw [e] at h
      cases h
      obtain ⟨h1, h2, h3⟩ := firstN_some e
      exact ⟨h1, h2, by omega⟩
    | none =>
      rw [e] at h
      dsimp only at h
      split at h
      · rename_i hp
        cases h
        exact ⟨hp, by omega, by omega⟩
      · cases h
/-- a positive node -/
def posB (n : Nat) (f : F) (s : Int) : Bool := decide (0 < (f (pyI n s) (pyI n s)).getD 0)
/-- a step on a round -/
def stepB (n : Nat) (g : Nat → Option Int) (R : F) (s tot v : Int) : Bool := match g (pyI n v), R (pyI n v) (pyI n s) with
  | some a, some b => decide (0 < tot + a + b)
  | _, _ => false
/-- the round, node by node: where, the weight so far -/
def rnd (n : Nat) (B : F) (K : Nat) (s : Int) : Nat → Int × Int
  | 0 => (s, 0)
  | i + 1 => let v := (firstN (stepB n (B (pyI n (rnd n B K s i).1)) (pw n B (K - 1 - i)) s (rnd n B K s i).2) n).getD 0
    (v, (rnd n B K s i).2 + (B (pyI n (rnd n B K s i).1) (pyI n v)).getD 0)
theorem least {P : Nat → Prop} : ∀ (n : Nat), P n → ∃ k, k ≤ n ∧ P k ∧ ∀ j, j < k → ¬ P j := by
  intro n
  induction n using Nat.strongRecOn with
  | ind n ih =>
    intro h
    by_cases g : ∃ j, j < n ∧ P j
    · obtain ⟨j, hj, hp⟩ := g
      obtain ⟨k, h1, h2, h3⟩ := ih j hj hp
      exact ⟨k, by omega, h2, h3⟩
    · exact ⟨n, Nat.le_refl _, h, fun j hj hp => g ⟨j, hj, hp⟩⟩
theorem RowIs.set {S : St} {d : D} {n : Nat} {g : Nat → Option Int} (h : RowIs S d n g) {w : Nat} (m : MO) (hd : d ≠ .ref w) : RowIs (S.set w m) d n g := by
  cases d with
  | ref q =>
    have hq : q ≠ w := fun e => hd (by rw [e])
    have h : seqOf S q = some (rowD n g) := h
    show seqOf (S.set w m) q = some (rowD n g)
    unfold seqOf at h ⊢
    rw [List.getElem?_set_ne (Ne.symm hq)]
    exact h
  | _ => exact h
/-- a table that does not lean on w -/
structure TabN (S : St) (w r n : Nat) (f : F) : Prop where
  ne : r ≠ w
  get : ∃ ds, S[r]? = some (.lst ds) ∧ ds.length = n ∧ (∀ d ∈ ds, d ≠ .ref w) ∧ ∀ i (h : i < ds.length), RowIs S ds[i] n (f i)
theorem TabN.tab {S : St} {w r n : Nat} {f : F} (h : TabN S w r n f) : Tab S r n f := by
  obtain ⟨ds, h1, h2, h3, h4⟩ := h.get
  exact ⟨ds, h1, h2, h4⟩
theorem TabN.ext {S S' : St} {w r n : Nat} {f : F} (h : TabN S w r n f) (e : Ext S S') : TabN S' w r n f := by
  obtain ⟨ds, h1, h2, h3, h4⟩ := h.get
  exact ⟨h.ne, ds, e.get h1, h2, h3, fun i hi => (h4 i hi).ext e⟩
theorem TabN.set {S : St} {w r n : Nat} {f : F} (h : TabN S w r n f) (m : MO) : TabN (S.set w m) w r n f := by
  obtain ⟨ds, h1, h2, h3, h4⟩ := h.get
  exact ⟨h.ne, ds, get_set h.ne h1, h2, h3, fun i hi => (h4 i hi).set m (h3 _ (List.getElem_mem hi))⟩
theorem TabN.same {S : St} {w r n : Nat} {f g : F} (h : TabN S w r n f) (e : agr n f g) : TabN S w r n g := by
  obtain ⟨ds, h1, h2, h3, h4⟩ := h.get
  refine ⟨h.ne, ds, h1, h2, h3, fun i hi => ?_⟩
  have := h4 i hi
  unfold RowIs at this ⊢
  rw [this, rowD_congr fun j hj => e i j (by omega) hj]
/-- a list of the powers 1 .. l -/
structure Pws (S : St) (w n : Nat) (B : F) (o l : Nat) (rs : List Nat) : Prop where
  top : S[w]? = some (.lst (rs.map D.ref))
  len : rs.length = l
  tab : ∀ i (h : i < rs.length), TabN S w rs[i] n (pw n B (i + o))
theorem Pws.ext {S S' : St} {w n o l : Nat} {B : F} {rs : List Nat} (h : Pws S w n B o l rs) (e : Ext S S') : Pws S' w n B o l rs := ⟨e.get h.top, h.len, fun i hi => (h.tab i hi).ext e⟩
/-- the first power with a positive node -/
structure IsK (n : Nat) (B : F) (K : Nat) (s : Int) : Prop where
  ge : 1 ≤ K
  le : K ≤ n
  at' : firstN (posB n (pw n B K)) n = some s
  no : ∀ l, 1 ≤ l → l < K → firstN (posB n (pw n B l)) n = none
theorem IsK.pos {n : Nat} {B : F} {K : Nat} {s : Int} (h : IsK n B K s) : (-1 ≤ s ∧ s < (n : Int) - 1) ∧ 0 < (pw n B K (pyI n s) (pyI n s)).getD 0 := by
  obtain ⟨h1, h2, h3⟩ := firstN_some h.at'
  exact ⟨⟨h2, h3⟩, of_decide_eq_true h1⟩
/-- the greatest arcs of a network -/
def bst (m : Nat) (as : List (Int × Int × Int)) : F := arcs (as.map (natA (m + 1))) (iniP m m)
end Flx

end
section
set_option Elab.async false
set_option linter.all false
set_option autoImplicit false
set_option maxRecDepth 100000
/-! FlxSch: schedules and tables; a difference told. -/
namespace Flx
open PySem PySem.Spec PyProof.Rows FNet
def val (v : List Int) (i : Int) : Int := if i < 0 then 0 else (v[i.toNat]?).getD 0
/-- a schedule -/
structure Sch (m : Nat) (as : List (Int × Int × Int)) (v : List Int) : Prop where
  len : v.length = m
  nn : ∀ x ∈ v, 0 ≤ x
  kept : ∀ a ∈ as, a.2.2 ≤ val v a.2.1 - val v a.1
def pot (m : Nat) (v : List Int) (u : Nat) : Int := if u < m then (v[u]?).getD 0 else 0
/-- from a node on -/
def frm (m : Nat) (G : F) (i : Nat) : List Int := (List.range m).map fun k => (G i k).getD 0 - (G i m).getD 0
/-- a difference told: both arcs -/
def pin (n : Nat) (i j : Int) (x : Int) (G : F) : Option F :=
  if 0 < (oadd (G (pyI n j) (pyI n i)) (some x)).getD 0 then none
  else if 0 < (oadd (tight (pyI n i) (pyI n j) x G (pyI n i) (pyI n j)) (some (-x))).getD 0 then none
  else some (tight (pyI n j) (pyI n i) (-x) (tight (pyI n i) (pyI n j) x G))
end Flx

end
section
set_option Elab.async false
set_option linter.all false
set_option autoImplicit false
set_option maxRecDepth 100000
/-! FlxWay: ways of the greatest weight with the fewest arcs; arcs sorted. -/
namespace FNet
end FNet
namespace Flx
open PySem PySem.Spec PyProof.Rows FNet
/-- the fewest arcs with the greatest weight -/
structure IsF (n : Nat) (B : F) (I J : Nat) (d : Int) (K : Nat) : Prop where
  lt : K < n
  at' : pw n B K I J = some d
  no : ∀ l, l < K → pw n B l I J ≠ some d
  ub : ∀ l x, pw n B l I J = some x → x ≤ d
/-- a step of the way -/
def stpB (n : Nat) (g : Nat → Option Int) (R : F) (J : Nat) (d v : Int) : Bool := match g (pyI n v), R (pyI n v) J with
  | some a, some b => decide (a + b = d)
  | _, _ => false
/-- the way: where, what is left -/
def wy (n : Nat) (B : F) (K J : Nat) (i d : Int) : Nat → Int × Int
  | 0 => (i, d)
  | t + 1 => let v := (firstN (stpB n (B (pyI n (wy n B K J i d t).1)) (pw n B (K - 1 - t)) J (wy n B K J i d t).2) n).getD 0
    (v, (wy n B K J i d t).2 - (B (pyI n (wy n B K J i d t).1) (pyI n v)).getD 0)
/-- the told way's t-th arc -/
def wyA (n : Nat) (B : F) (K J : Nat) (i d : Int) (t : Nat) : Int × Int × Int := ((wy n B K J i d t).1, (wy n B K J i d (t + 1)).1, (wy n B K J i d t).2 - (wy n B K J i d (t + 1)).2)

/-! ### arcs sorted -/
def leA (a b : Int × Int × Int) : Bool := decide (a.1 < b.1 ∨ (a.1 = b.1 ∧ (a.2.1 < b.2.1 ∨ (a.2.1 = b.2.1 ∧ a.2.2 ≤ b.2.2))))
def sortA (as : List (Int × Int × Int)) : List (Int × Int × Int) := as.mergeSort leA
def pA (a : Int × Int × Int) : PyData := .tuple [.int a.1, .int a.2.1, .int a.2.2]
end Flx

end
section
set_option Elab.async false
set_option linter.all false
set_option autoImplicit false
set_option maxRecDepth 100000
/-! FlxZer: the origin's own arcs; the arcs behind a table. -/
namespace Flx
open PySem PySem.Spec PyProof.Rows FNet
/-- the origin's own arcs -/
def zer (m : Nat) : List (Int × Int × Int) := (List.range m).map fun (k : Nat) => ((-1 : Int), (k : Int), (0 : Int))
/-- all arcs, the origin's too -/
def allA (m : Nat) (as : List (Int × Int × Int)) : List (Int × Int × Int) := as ++ zer m
/-- a row from arcs: the greatest arc and rest -/
def rowM (n : Nat) (R : Nat → Option Int) : List (Int × Int × Int) → Nat → Option Int
  | [] => fun _ => none
  | a :: r => fun u => if u = pyI n a.1 then omax (rowM n R r u) (oadd (some a.2.2) (R (pyI n a.2.1))) else rowM n R r u
end Flx

end
section
set_option Elab.async false
set_option linter.all false
set_option autoImplicit false
set_option maxRecDepth 100000
/-! FlxGrp: rigid groups of nodes; heads; the least core. -/
namespace Flx
open PySem PySem.Spec PyProof.Rows FNet
def nds (m : Nat) : List Int := (List.range (m + 1)).map fun (c : Nat) => (c : Int) - 1
/-- a table of longest ways -/
structure GdT (m : Nat) (G : F) : Prop where
  cl : closed (m + 1) G
  z : ∀ i, i < m + 1 → G i i = some 0
  org : ∀ j, j < m → ∃ x, 0 ≤ x ∧ G m j = some x
variable {m : Nat} {G : F}
def gg (m : Nat) (G : F) (i j : Int) : Option Int := G (pyI (m + 1) i) (pyI (m + 1) j)
def rig (m : Nat) (G : F) (i j : Int) : Bool := match gg m G i j, gg m G j i with
  | some a, some b => decide (a + b = 0)
  | _, _ => false
def ear (m : Nat) (G : F) (j : Int) : Int := (gg m G (-1) j).getD 0
/-! ### sorted by the earliest times -/
def leN (m : Nat) (G : F) (a b : Int) : Bool := decide (ear m G a < ear m G b ∨ (ear m G a = ear m G b ∧ a ≤ b))
def sortN (m : Nat) (G : F) (xs : List Int) : List Int := xs.mergeSort (leN m G)
/-- a node's group -/
def grp (m : Nat) (G : F) (i : Int) : List Int := sortN m G ((nds m).filter (rig m G i))
def hd (m : Nat) (G : F) (i : Int) : Int := ((grp m G i)[0]?).getD 0
/-- the heads, ascending -/
def hds (m : Nat) (G : F) : List Int := (nds m).filter fun i => decide (hd m G i = i)
/-! ### the core -/
/-- the ring of a group: the arcs from each to the next, the last one to the first -/
def ring (m : Nat) (G : F) (own : List Int) : List (Int × Int × Int) := if 1 < own.length then (List.range own.length).map fun (c : Nat) =>
  (((L2.atI own ((c : Int) - 1)).getD 0), ((own[c]?).getD 0), ((gg m G ((L2.atI own ((c : Int) - 1)).getD 0) ((own[c]?).getD 0)).getD 0)) else []
def expl (m : Nat) (G : F) (i j : Int) : Bool := (hds m G).any fun k => decide (k ≠ i) && (decide (k ≠ j) && match gg m G i k, gg m G k j, gg m G i j with
  | some a, some b, some c => decide (a + b = c)
  | _, _, _ => false)
def links (m : Nat) (G : F) : List (Int × Int × Int) := (hds m G).flatMap fun i => ((hds m G).filter fun j => decide (i ≠ j) && ((gg m G i j).isSome && !expl m G i j)).map fun j => (i, j, (gg m G i j).getD 0)
def coreAll (m : Nat) (G : F) : List (Int × Int × Int) := ((hds m G).flatMap fun i => ring m G (grp m G i)) ++ links m G
def kept (a : Int × Int × Int) : Bool := decide (a.1 ≠ -1) || decide (a.2.2 ≠ 0)
def core (m : Nat) (G : F) : List (Int × Int × Int) := (sortA (coreAll m G)).filter kept
/-! ### pairs of the earliest time and the node, sorted -/
def prD (m : Nat) (G : F) (j : Int) : D := .tup [.int (ear m G j), .int j]
def prP (m : Nat) (G : F) (j : Int) : PyData := .tuple [.int (ear m G j), .int j]
def grpD (m : Nat) (G : F) (i : Int) : D := .tup ((grp m G i).map D.int)
def ringA (m : Nat) (G : F) (own : List Int) (c : Nat) : Int × Int × Int := (((L2.atI own ((c : Int) - 1)).getD 0), ((own[c]?).getD 0), ((gg m G ((L2.atI own ((c : Int) - 1)).getD 0) ((own[c]?).getD 0)).getD 0))
def lkC (m : Nat) (G : F) (i j : Int) : Bool := decide (i ≠ j) && ((gg m G i j).isSome && !expl m G i j)
def lkA (m : Nat) (G : F) (i j : Int) : Int × Int × Int := (i, j, (gg m G i j).getD 0)
def lkF (m : Nat) (G : F) (i : Int) : List (Int × Int × Int) := ((hds m G).filter (lkC m G i)).map (lkA m G i)
def rgF (m : Nat) (G : F) (i : Int) : List (Int × Int × Int) := ring m G (grp m G i)
end Flx

end
section
set_option Elab.async false
set_option linter.all false
set_option autoImplicit false
set_option maxRecDepth 100000
/-! FlxTool: small lemmas for walks; frames found by themselves. -/
namespace Flx
open PySem PySem.Spec PyProof.Rows FNet
theorem bl_pl (k : Nat) (b : Bool) : plD k (.bl b) := by cases k <;> exact trivial
theorem int_pl (k : Nat) (i : Int) : plD k (.int i) := by cases k <;> exact trivial
theorem ints_pl (k : Nat) {v : List Int} (h : v.length < 2 ^ 30) : plD (k + 1) (.tup (v.map .int)) :=
  ⟨by rw [List.length_map]; exact h, fun d hd => by obtain ⟨x, -, rfl⟩ := List.mem_map.1 hd; exact int_pl _ _⟩
/-- which of two differing entries is the looser one: the first? -/
def isL : Option Int → Option Int → Bool
  | none, _ => true
  | some _, none => false
  | some x, some y => decide (x < y)
/-- what is drawn between -/
def pxF (m : Nat) (L U : F) (i j : Int) : Int :=
  match L (pyI (m + 1) i) (pyI (m + 1) j) with
  | some x => x
  | none => match L (pyI (m + 1) j) (pyI (m + 1) i) with
    | none => (U (pyI (m + 1) i) (pyI (m + 1) j)).getD 0 - 1
    | some y => min ((U (pyI (m + 1) i) (pyI (m + 1) j)).getD 0 - 1) (-y)
def pinD (m : Nat) (i j x : Int) (G : F) : D :=
  match pin (m + 1) i j x G with
  | none => .non
  | some H => .tup (rowD m (H m))
/-- what a parting at (i, j) tells -/
def prtD (m : Nat) (G1 G2 : F) (i j : Int) : D :=
  if isL (G1 (pyI (m + 1) i) (pyI (m + 1) j)) (G2 (pyI (m + 1) i) (pyI (m + 1) j)) = true then .tup [.int 0, pinD m i j (pxF m G1 G2 i j) G1]
  else .tup [.int 1, pinD m i j (pxF m G2 G1 i j) G2]
/-- the first pair at which two tables differ -/
structure Fst (m : Nat) (G1 G2 : F) (i j : Int) : Prop where
  i0 : -1 ≤ i
  i1 : i < m
  j0 : -1 ≤ j
  j1 : j < m
  ne : G1 (pyI (m + 1) i) (pyI (m + 1) j) ≠ G2 (pyI (m + 1) i) (pyI (m + 1) j)
  pre : ∀ i' j' : Int, -1 ≤ i' → i' < m → -1 ≤ j' → j' < m → (i' < i ∨ (i' = i ∧ j' < j)) → G1 (pyI (m + 1) i') (pyI (m + 1) j') = G2 (pyI (m + 1) i') (pyI (m + 1) j')
section
variable {m : Nat} {as bs : List (Int × Int × Int)}
end
/-! a table of rows, compared -/
def oP : Option Int → PyData
  | none => .none
  | some i => .int i
def rwP (n : Nat) (g : Nat → Option Int) : List PyData := (List.range n).map fun j => oP (g j)
theorem toP_oD (x : Option Int) : toP (oD x) = some (oP x) := by cases x <;> rfl
theorem toPs_map {α : Type} {f : α → D} {g : α → PyData} (h : ∀ x, toP (f x) = some (g x)) : ∀ xs : List α, toPs (xs.map f) = some (xs.map g)
  | [] => by rw [List.map_nil, toPs]; rfl
  | x :: xs => by rw [List.map_cons, toPs, h x, toPs_map h xs]; rfl
theorem toPRs_map {S : St} {α : Type} {f : α → D} {g : α → PyData} : ∀ xs : List α, (∀ x ∈ xs, toPR S (f x) = some (g x)) → toPRs S (xs.map f) = some (xs.map g)
  | [], h => by rw [List.map_nil, toPRs]; rfl
  | x :: xs, h => by rw [List.map_cons, toPRs, h x (List.mem_cons_self ..), toPRs_map xs fun y hy => h y (List.mem_cons_of_mem _ hy)]; rfl
theorem Rws.toPS {S : St} {r b n : Nat} {f : F} (h : Rws S r b n f) : Flx.toPS S (.ref r) = some (.list ((List.range n).map fun i => .list (rwP n (f i)))) := by
  show ((seqOf S r).bind fun xs => (toPRs S xs).map PyData.list) = _
  rw [seqOf_lst h.top]
  show (toPRs S ((List.range n).map _)).map PyData.list = _
  rw [toPRs_map (g := fun i => .list (rwP n (f i))) _ fun i hi => ?_]
  · rfl
  · rw [List.mem_range] at hi
    rw [toPR, seqOf_lst (h.row i hi)]
    show (toPs ((List.range n).map _)).map PyData.list = _
    rw [toPs_map (g := fun j => oP (f i j)) fun j => toP_oD _]
    rfl
theorem lay_all : ∀ ps : List PyData, (∀ p ∈ ps, p.canLay0 = true) → PyData.canLayAll0 ps = true
  | [], h => by rw [PyData.canLayAll0]
  | p :: ps, h => by rw [PyData.canLayAll0, h p (List.mem_cons_self ..), lay_all ps fun q hq => h q (List.mem_cons_of_mem _ hq)]; rfl
theorem depth_all {k : Nat} : ∀ ps : List PyData, (∀ p ∈ ps, p.depth ≤ k) → PyData.depthAll ps ≤ k
  | [], h => by rw [PyData.depthAll]; exact Nat.zero_le _
  | p :: ps, h => by rw [PyData.depthAll]; exact Nat.max_le.2 ⟨h p (List.mem_cons_self ..), depth_all ps fun q hq => h q (List.mem_cons_of_mem _ hq)⟩
theorem Rws.eqB {S : St} {r b n r' b' : Nat} {f g : F} (h : Rws S r b n f) (h' : Rws S r' b' n g) (e : agr n f g) : Flx.eqB S (.ref r) (.ref r') = some true := by
  have h2 := h'.toPS
  rw [show ((List.range n).map fun i => PyData.list (rwP n (g i))) = (List.range n).map fun i => PyData.list (rwP n (f i)) from by
    apply List.map_congr_left
    intro i hi
    rw [List.mem_range] at hi
    congr 1
    apply List.map_congr_left
    intro j hj
    rw [List.mem_range] at hj
    rw [e i j hi hj]] at h2
  have c0 : ∀ x : Option Int, (oP x).canLay0 = true ∧ (oP x).depth ≤ 0 := fun x => by cases x <;> exact ⟨by rw [oP, PyData.canLay0], by rw [oP, PyData.depth]; exact Nat.le_refl _⟩
  have c1 : (PyData.list ((List.range n).map fun i => PyData.list (rwP n (f i)))).canLay0 = true := by
    rw [PyData.canLay0]
    refine lay_all _ fun p hp => ?_
    obtain ⟨i, -, rfl⟩ := List.mem_map.1 hp
    rw [PyData.canLay0]
    refine lay_all _ fun p hp => ?_
    obtain ⟨j, -, rfl⟩ := List.mem_map.1 hp
    exact (c0 _).1
  have d1 : (PyData.list ((List.range n).map fun i => PyData.list (rwP n (f i)))).depth ≤ 64 := by
    rw [PyData.depth]
    have : PyData.depthAll ((List.range n).map fun i => PyData.list (rwP n (f i))) ≤ 1 := depth_all _ fun p hp => by
      obtain ⟨i, -, rfl⟩ := List.mem_map.1 hp
      rw [PyData.depth]
      have : PyData.depthAll (rwP n (f i)) ≤ 0 := depth_all _ fun p hp => by
        obtain ⟨j, -, rfl⟩ := List.mem_map.1 hp
        exact (c0 _).2
      omega
    omega
  have s := shaped_of c1 d1
  rw [eqB_some h.toPS h2 s s, SeqAt.eqv_refl _ c1]
end Flx

end
section
set_option Elab.async false
set_option linter.all false
set_option autoImplicit false
set_option maxRecDepth 100000
/-! FlxPrj: projects as data. -/
namespace Flx
open PySem PySem.Spec PyProof.Rows
/-! ### names -/
def nmOk (s : Str) : Prop := s.length ≤ 12 ∧ SeqAt.shaped (.str s) = true
theorem shaped_str {s : Str} : SeqAt.shaped (.str s) = true ↔ ∀ c ∈ s.cps.toList, c < 0x110000 := by
  have : SeqAt.shaped (.str s) = s.cps.all (· < 0x110000) := by
    unfold SeqAt.shaped
    rw [PyData.canLay0, PyData.depth]
    simp [PyData.strOk]
  rw [this, Array.all_eq_true_iff_forall_mem]
  simp
theorem shaped_one {c : Nat} (h : c < 0x110000) : SeqAt.shaped (.str ⟨#[c]⟩) = true := by
  rw [shaped_str]
  intro x hx
  have : x = c := by simpa using hx
  omega
/-! ### the parts of a project -/
structure Md where
  tk : Int
  dm : List Int
  ch : List (Int × Int)
  co : Int
  deriving Inhabited
structure Ac where
  nm : Str
  ms : List Md
  deriving Inhabited
structure Rs where
  nm : Str
  cap : Int
  cl : List (Int × Int × Int)
  deriving Inhabited
structure Iv where
  nm : Str
  st : Int
  lo : Option Int
  hi : Option Int
  deriving Inhabited
abbrev Ev := Int × Int
abbrev Lg := Ev × Ev × Int
structure Pr where
  dl : Int
  rs : List Rs
  vs : List Iv
  as : List Ac
  ls : List Lg
  deriving Inhabited
abbrev pairD (c : Int × Int) : D := .tup [.int c.1, .int c.2]
abbrev tripD (c : Int × Int × Int) : D := .tup [.int c.1, .int c.2.1, .int c.2.2]
abbrev mdD (m : Md) : D := .tup [.int m.tk, .tup (m.dm.map .int), .tup (m.ch.map pairD), .int m.co]
abbrev acD (a : Ac) : D := .tup [.str a.nm, .tup (a.ms.map mdD)]
abbrev rsD (r : Rs) : D := .tup [.str r.nm, .int r.cap, .tup (r.cl.map tripD)]
abbrev ivD (v : Iv) : D := .tup [.str v.nm, .int v.st, oD v.lo, oD v.hi]
abbrev lgD (l : Lg) : D := .tup [pairD l.1, pairD l.2.1, .int l.2.2]
abbrev pjD (p : Pr) : D := .tup [.int p.dl, .tup (p.rs.map rsD), .tup (p.vs.map ivD), .tup (p.as.map acD), .tup (p.ls.map lgD)]
/-! ### what is wanted of them -/
structure Md.Ok (nr nv : Nat) (m : Md) : Prop where
  tk0 : 0 ≤ m.tk
  tk1 : m.tk ≤ 30
  dl : m.dm.length = nr
  dm : ∀ x ∈ m.dm, 0 ≤ x ∧ x ≤ 9
  cl : m.ch.length = nv
  ch : ∀ c ∈ m.ch, (c.1 = 0 ∨ c.1 = 1) ∧ -9 ≤ c.2 ∧ c.2 ≤ 9
  co0 : 0 ≤ m.co
  co1 : m.co ≤ 99
structure Ac.Ok (nr nv : Nat) (a : Ac) : Prop where
  nm : nmOk a.nm
  l0 : 1 ≤ a.ms.length
  l1 : a.ms.length ≤ 3
  ms : ∀ m ∈ a.ms, m.Ok nr nv
structure Rs.Ok (r : Rs) : Prop where
  nm : nmOk r.nm
  c0 : 0 ≤ r.cap
  c1 : r.cap ≤ 9
  cl : r.cl.length ≤ 3
  cs : ∀ c ∈ r.cl, 0 ≤ c.1 ∧ c.1 < c.2.1 ∧ c.2.1 ≤ 30 ∧ 1 ≤ c.2.2 ∧ c.2.2 ≤ 9
def inO (lo hi : Int) (x : Option Int) : Prop := ∀ i, x = some i → lo ≤ i ∧ i ≤ hi
structure Iv.Ok (v : Iv) : Prop where
  nm : nmOk v.nm
  s0 : -20 ≤ v.st
  s1 : v.st ≤ 20
  lo : inO (-20) 20 v.lo
  hi : inO (-20) 20 v.hi
/-- an event among n activities -/
def evK (n : Nat) (e : Ev) : Prop := (e.1 = -1 ∧ 0 ≤ e.2 ∧ e.2 ≤ 30) ∨ (0 ≤ e.1 ∧ e.1 < n ∧ (e.2 = 0 ∨ e.2 = 1))
structure LgOk (n : Nat) (l : Lg) : Prop where
  e1 : evK n l.1
  e2 : evK n l.2.1
  w0 : -60 ≤ l.2.2
  w1 : l.2.2 ≤ 60
structure Pr.Ok (p : Pr) : Prop where
  d0 : 0 ≤ p.dl
  d1 : p.dl ≤ 30
  rl : p.rs.length ≤ 3
  rs : ∀ r ∈ p.rs, r.Ok
  vl : p.vs.length ≤ 2
  vs : ∀ v ∈ p.vs, v.Ok
  al : p.as.length ≤ 6
  as : ∀ a ∈ p.as, a.Ok p.rs.length p.vs.length
  ll : p.ls.length ≤ 24
  ls : ∀ l ∈ p.ls, LgOk p.as.length l
/-! ### the modes that a choice takes -/
def md (p : Pr) (ms : List Int) (i : Nat) : Md := ((p.as[i]?.getD default).ms[((ms[i]?).getD 0).toNat]?).getD default
/-- a choice of modes -/
structure Ch (p : Pr) (ms : List Int) : Prop where
  ml : ms.length = p.as.length
  ok : ∀ (i : Nat) (a : Ac), p.as[i]? = some a → ∃ m : Int, ms[i]? = some m ∧ 0 ≤ m ∧ m < a.ms.length
/-- an assignment -/
structure As (p : Pr) (ms bs : List Int) : Prop extends Ch p ms where
  bl : bs.length = p.as.length
  b0 : ∀ (i : Nat) b, bs[i]? = some b → 0 ≤ b
  b1 : ∀ (i : Nat) b, bs[i]? = some b → b + (md p ms i).tk ≤ p.dl
theorem Ch.get {p : Pr} {ms : List Int} (h : Ch p ms) {i : Nat} (hi : i < ms.length) : ∃ (a : Ac) (m : Int), p.as[i]? = some a ∧ ms[i]? = some m ∧ 0 ≤ m ∧ m < a.ms.length ∧ a.ms[m.toNat]? = some (md p ms i) := by
  obtain ⟨a, ha⟩ : ∃ a, p.as[i]? = some a := ⟨_, List.getElem?_eq_getElem (by rw [← h.ml]; exact hi)⟩
  obtain ⟨m, h1, h2, h3⟩ := h.ok i _ ha
  refine ⟨_, m, ha, h1, h2, h3, ?_⟩
  unfold md
  rw [ha, h1]
  show _ = some ((a.ms[m.toNat]?).getD default)
  rw [List.getElem?_eq_getElem (by omega)]
  rfl
theorem Ch.md_ok {p : Pr} {ms : List Int} (h : Ch p ms) (ok : p.Ok) {i : Nat} (hi : i < ms.length) : (md p ms i).Ok p.rs.length p.vs.length := by
  obtain ⟨a, m, h1, h2, h3, h4, h5⟩ := h.get hi
  exact (ok.as a (List.mem_of_getElem? h1)).ms _ (List.mem_of_getElem? h5)
/-- the durations that a choice takes -/
def tks (p : Pr) (ms : List Int) : List Int := (List.range ms.length).map fun i => (md p ms i).tk
theorem tks_len (p : Pr) (ms : List Int) : (tks p ms).length = ms.length := by unfold tks; rw [List.length_map, List.length_range]
theorem tks_get {p : Pr} {ms : List Int} {i : Nat} (h : i < ms.length) : (tks p ms)[i]? = some (md p ms i).tk := by
  unfold tks; rw [List.getElem?_map, List.getElem?_range h]; rfl
/-! ### times and costs -/
def edF (tk bs : List Int) (i : Nat) : Int := (bs[i]?).getD 0 + (tk[i]?).getD 0
def mkF (tk bs : List Int) : Int := ((List.range tk.length).map (edF tk bs)).foldl max 0
theorem foldl_max_le {a c : Int} (h : a ≤ c) : ∀ {xs : List Int}, (∀ x ∈ xs, x ≤ c) → xs.foldl max a ≤ c
  | [], _ => h
  | x :: xs, hx => foldl_max_le (xs := xs) (by have := hx x (List.mem_cons_self ..); omega) fun y hy => hx y (List.mem_cons_of_mem _ hy)
theorem foldl_max_ge (a : Int) : ∀ (xs : List Int), a ≤ xs.foldl max a
  | [] => Int.le_refl _
  | x :: xs => by have := foldl_max_ge (max a x) xs; rw [List.foldl_cons]; omega
theorem mkF_ge (tk bs : List Int) : 0 ≤ mkF tk bs := foldl_max_ge _ _
theorem As.mk_le {p : Pr} {ms bs : List Int} (h : As p ms bs) (ok : p.Ok) : mkF (tks p ms) bs ≤ p.dl := by
  refine foldl_max_le ok.d0 fun x hx => ?_
  obtain ⟨i, hi, rfl⟩ := List.mem_map.1 hx
  rw [List.mem_range, tks_len] at hi
  have hb : bs[i]? = some (bs[i]'(by rw [h.bl, ← h.ml]; exact hi)) := List.getElem?_eq_getElem _
  have := h.b1 i _ hb
  unfold edF
  rw [hb, tks_get hi]
  exact this
theorem As.get {p : Pr} {ms bs : List Int} (h : As p ms bs) {i : Nat} (hi : i < ms.length) : ∃ b, bs[i]? = some b ∧ 0 ≤ b ∧ b + (md p ms i).tk ≤ p.dl := by
  have hb : bs[i]? = some (bs[i]'(by rw [h.bl, ← h.ml]; exact hi)) := List.getElem?_eq_getElem _
  exact ⟨_, hb, h.b0 i _ hb, h.b1 i _ hb⟩
/-! ### a mode changed -/
def setMd (p : Pr) (i : Nat) (m : Nat) (d : Md) : Pr := { p with as := p.as.set i { (p.as[i]?.getD default) with ms := (p.as[i]?.getD default).ms.set m d } }
/-- a part of a tuple of tuples, changed -/
def deepD : D → List Int → D → D
  | .tup xs, i :: r, t => .tup (xs.set i.toNat (deepD ((xs[i.toNat]?).getD .non) r t))
  | _, [], t => t
  | d, _ :: _, _ => d
def deepV : D → List Int → Prop
  | .tup xs, i :: r => 0 ≤ i ∧ i < xs.length ∧ xs.length < 1000 ∧ deepV ((xs[i.toNat]?).getD .non) r
  | _, [] => True
  | _, _ :: _ => False
/-! ### looks -/
section
variable {S : St} {Q : QD}
theorem ix_mapT {α : Type} {f : α → D} {xs : List α} {i : Int} {x : α} (h0 : 0 ≤ i) (h : xs[i.toNat]? = some x) (q : Q (f x) S) : ixW (.tup (xs.map f)) (.int i) S Q :=
  ix_tup (atI_map (atI_int h0 h)) q
theorem ix_mapN {α : Type} {f : α → D} {xs : List α} {i : Nat} {x : α} (h : xs[i]? = some x) (q : Q (f x) S) : ixW (.tup (xs.map f)) (.int (i : Int)) S Q :=
  ix_tup (atI_map (atI_nat h)) q
theorem ix_map0 {α : Type} {f : α → D} {xs : List α} {i : Nat} {x : α} (h : xs[i]? = some x) (q : Q (f x) S) : ixW (.tup (xs.map f)) (.int (0 + (i : Int))) S Q := by
  rw [Int.zero_add]; exact ix_mapN h q
theorem ix_mapR {α : Type} {f : α → D} {n : Nat} {xs : List α} {i : Int} {x : α} (hn : S[n]? = some (.lst (xs.map f))) (h0 : 0 ≤ i) (h : xs[i.toNat]? = some x) (q : Q (f x) S) : ixW (.ref n) (.int i) S Q :=
  ix_ref hn (atI_map (atI_int h0 h)) q
theorem ix_mapR0 {α : Type} {f : α → D} {n : Nat} {xs : List α} {i : Nat} {x : α} (hn : S[n]? = some (.lst (xs.map f))) (h : xs[i]? = some x) (q : Q (f x) S) : ixW (.ref n) (.int (0 + (i : Int))) S Q := by
  rw [Int.zero_add]; exact ix_ref hn (atI_map (atI_nat h)) q
theorem b_addS {a b : Str} (h : a.length + b.length ≤ sizeLine) (q : Q (.str (a ++ b)) S) : binW .add (.str a) (.str b) S Q := ⟨h, q⟩
theorem b_mulI {i j : Int} (h : (-(2 ^ 64) < i ∧ i < 2 ^ 64) ∨ (-(2 ^ 64) < j ∧ j < 2 ^ 64)) (q : Q (.int (i * j)) S) : binW .mul (.int i) (.int j) S Q := ⟨h, q⟩
theorem ix_str {z : Str} {i : Int} {c : Nat} (hz : z.length ≤ sizeLine) (h : L2.atI z.cps.toList i = some c) (q : Q (.str ⟨#[c]⟩) S) : ixW (.str z) (.int i) S Q := ⟨c, hz, h, q⟩
theorem l_sumR {n : Nat} {is : List Int} (h : S[n]? = some (.lst (is.map D.int))) (q : Q (.int is.sum) S) : bltW .sum [.ref n] S Q := ⟨_, _, seqOf_lst h, intsOf_map _, q⟩
theorem l_maxR {n : Nat} {is : List Int} (h : S[n]? = some (.lst (is.map D.int))) (h0 : 0 < is.length) (q : Q (.int (maxOf is)) S) : bltW .max [.ref n] S Q := ⟨_, _, seqOf_lst h, intsOf_map _, h0, q⟩
theorem l_strI {i : Int} (h : i.natAbs < 2 ^ 1000) (q : Q (.str (toString i)) S) : bltW .str [.int i] S Q := by
  refine ⟨?_, q⟩
  by_cases h0 : i.natAbs = 0
  · rw [h0]; decide
  · exact Nat.lt_of_lt_of_le ((Nat.log2_lt h0).2 h) (by decide)
end
/-- ints between -/
def AllI (lo hi : Int) : List D → Prop
  | [] => True
  | .int i :: r => (lo ≤ i ∧ i ≤ hi) ∧ AllI lo hi r
  | _ :: _ => False
theorem AllI.nil {lo hi : Int} : AllI lo hi [] := trivial
theorem AllI.cons {lo hi i : Int} {r : List D} (h0 : lo ≤ i) (h1 : i ≤ hi) (h : AllI lo hi r) : AllI lo hi (.int i :: r) := ⟨⟨h0, h1⟩, h⟩
theorem AllI.mem {lo hi : Int} : ∀ {xs : List D}, AllI lo hi xs → ∀ d ∈ xs, ∃ i, d = .int i ∧ lo ≤ i ∧ i ≤ hi
  | [], _, d, h => by cases h
  | .int i :: r, h, d, hd => by
    rcases List.mem_cons.1 hd with rfl | hd
    · exact ⟨i, rfl, h.1.1, h.1.2⟩
    · exact AllI.mem h.2 d hd
  | .non :: _, h, _, _ => h.elim
  | .bl _ :: _, h, _, _ => h.elim
  | .str _ :: _, h, _, _ => h.elim
  | .tup _ :: _, h, _, _ => h.elim
  | .ref _ :: _, h, _, _ => h.elim
theorem cut_to (xs : List D) {c : Int} (h : 0 ≤ c) : cutD xs none (some c) = xs.take c.toNat := by
  unfold cutD
  show (xs.drop 0).take (HT.sIx xs.length xs.length (some c) - 0) = _
  rw [List.drop_zero, show HT.sIx xs.length xs.length (some c) - 0 = min c.toNat xs.length by
    show (if c < 0 then (c + xs.length).toNat else min c.toNat xs.length) - 0 = _
    rw [if_neg (by omega)]; rfl]
  rw [← List.take_take, List.take_of_length_le (Nat.le_refl _)]
/-- other names -/
def candF (j : Nat) : Str := ("q" : Str) ++ ((toString (j : Int) : String) : Str)
/-- ints, any -/
def AllZ : List D → Prop
  | [] => True
  | .int i :: r => AllZ r
  | _ :: _ => False
theorem AllZ.nil : AllZ [] := trivial
theorem AllZ.cons {i : Int} {r : List D} (h : AllZ r) : AllZ (.int i :: r) := h
theorem AllZ.mem : ∀ {xs : List D}, AllZ xs → ∀ d ∈ xs, ∃ i, d = .int i
  | [], _, d, h => by cases h
  | .int i :: r, h, d, hd => by
    rcases List.mem_cons.1 hd with rfl | hd
    · exact ⟨i, rfl⟩
    · exact AllZ.mem (xs := r) h d hd
  | .non :: _, h, _, _ => h.elim
  | .bl _ :: _, h, _, _ => h.elim
  | .str _ :: _, h, _, _ => h.elim
  | .tup _ :: _, h, _, _ => h.elim
  | .ref _ :: _, h, _, _ => h.elim
/-- a pure comprehension, by places -/
theorem lc_fun {C : Nat → List D → St → QD → Prop} (mC : MonoC C) {G : St → Prop} {tg : Tg} {elt : Ex} {xs : List D} {σ : Sg} {S : St} {Q : List D → St → Prop} (f : Nat → D) (hG : ∀ S', Ext S S' → G S')
    (each : ∀ (i : Nat) (x : D) (S' : St), xs[i]? = some x → Ext S S' → ∃ σ', gA tg x σ = some σ' ∧ wE C elt σ' S' (fun y S2 => y = f i ∧ Ext S' S2))
    (q : ∀ S', Ext S S' → Q ((List.range xs.length).map f) S') : LcL C G elt tg .nil σ xs S Q := by
  refine lc_all mC (fun i acc S' => acc = (List.range i).map f ∧ Ext S S') ⟨rfl, Ext.refl _⟩ (fun i acc S' h => hG _ h.2) ?_ ?_
  · rintro i x acc S' hx ⟨rfl, e⟩
    obtain ⟨σ', h1, h2⟩ := each i x S' hx e
    refine ⟨σ', h1, wE_mono mC elt _ _ _ _ (fun y S2 h => ?_) h2⟩
    rw [List.range_succ, List.map_append]
    exact ⟨by rw [h.1]; rfl, e.trans h.2⟩
  · rintro acc S' ⟨rfl, e⟩
    exact q S' e
/-- a comprehension whose turns draw -/
theorem lc_gen {C : Nat → List D → St → QD → Prop} (mC : MonoC C) {G : St → Prop} {tg : Tg} {elt : Ex} {xs : List D} {σ : Sg} {S : St} {Q : List D → St → Prop} {α : Type} (f : α → D) (P : Nat → α → Prop) (tp : Tp S)
    (hG : ∀ S', Fr S S' → G S')
    (each : ∀ (i : Nat) (x : D) (S' : St), xs[i]? = some x → Fr S S' → Tp S' → ∃ σ', gA tg x σ = some σ' ∧ wE C elt σ' S' (fun y S2 => ∃ a, y = f a ∧ P i a ∧ Fr S' S2 ∧ Tp S2))
    (q : ∀ (as : List α) (S' : St), as.length = xs.length → (∀ i a, as[i]? = some a → P i a) → Fr S S' → Tp S' → Q (as.map f) S') : LcL C G elt tg .nil σ xs S Q := by
  refine lc_all mC (fun i acc S' => ∃ as : List α, acc = as.map f ∧ as.length = i ∧ (∀ j a, as[j]? = some a → P j a) ∧ Fr S S' ∧ Tp S') ⟨[], rfl, rfl, (fun j a h => by simp at h), Fr.refl _, tp⟩ (fun i acc S' h => by obtain ⟨_, _, _, _, fr, _⟩ := h; exact hG _ fr) ?_ ?_
  · rintro i x acc S' hx ⟨as, rfl, hl, hP, fr, tp'⟩
    obtain ⟨σ', h1, h2⟩ := each i x S' hx fr tp'
    refine ⟨σ', h1, wE_mono mC elt _ _ _ _ (fun y S2 h => ?_) h2⟩
    obtain ⟨a, rfl, h3, h4, h5⟩ := h
    refine ⟨as ++ [a], by rw [List.map_append]; rfl, by rw [List.length_append, hl]; rfl, fun j b hb => ?_, fr.trans h4, h5⟩
    by_cases hj : j < as.length
    · rw [List.getElem?_append_left hj] at hb; exact hP j b hb
    · rw [List.getElem?_append_right (by omega)] at hb
      have : j - as.length = 0 := by
        rcases Nat.eq_zero_or_pos (j - as.length) with h | h
        · exact h
        · rw [List.getElem?_eq_none (by rw [List.length_singleton]; omega)] at hb; cases hb
      rw [this] at hb
      cases hb
      have : j = i := by omega
      subst this
      exact h3
  · rintro acc S' ⟨as, rfl, hl, hP, fr, tp'⟩
    exact q as S' hl hP fr tp'
theorem all_of {α : Type} {P : Nat → α → Prop} {R : α → Prop} {as : List α} (h : ∀ i a, as[i]? = some a → P i a) (g : ∀ i a, P i a → R a) : ∀ a ∈ as, R a := fun a ha => by
  obtain ⟨i, hi⟩ := List.getElem?_of_mem ha
  exact g i a (h i a hi)
end Flx

end
section
set_option Elab.async false
set_option linter.all false
set_option autoImplicit false
set_option maxRecDepth 100000
/-! FlxRun: spreads, marks, runs, lasts. -/
namespace Flx
open PySem PySem.Spec PyProof.Rows
abbrev Sp := List (List (Int × Int))
abbrev rowP (r : List (Int × Int)) : D := .tup (r.map pairD)
abbrev spD (sp : Sp) : D := .tup (sp.map rowP)
abbrev mkD (m : List Int) : D := .tup (m.map .int)
abbrev rowsI (ls : List (List Int)) : D := .tup (ls.map mkD)
abbrev runD (now : Int) (mk : List (List Int)) : D := .tup [.int now, .tup (mk.map mkD)]
/-! shapes -/
structure Pr.Sh (p : Pr) : Prop where
  al : p.as.length ≤ 6
  as : ∀ a ∈ p.as, SeqAt.shaped (.str a.nm) = true ∧ 1 ≤ a.ms.length ∧ a.ms.length ≤ 3 ∧ ∀ m ∈ a.ms, m.dm.length ≤ 3 ∧ m.ch.length ≤ 3
  rl : p.rs.length ≤ 3
  rs : ∀ r ∈ p.rs, SeqAt.shaped (.str r.nm) = true ∧ r.cl.length ≤ 3
  vl : p.vs.length ≤ 3
  vs : ∀ v ∈ p.vs, SeqAt.shaped (.str v.nm) = true
  ll : p.ls.length ≤ 24
theorem str_pl (k : Nat) {s : Str} (h : SeqAt.shaped (.str s) = true) : plD k (.str s) := by cases k <;> exact h
theorem pair_pl (k : Nat) (c : Int × Int) : plD (k + 1) (pairD c) :=
  ⟨by simp only [List.length_cons, List.length_nil]; decide, fun d hd => by simp only [List.mem_cons, List.not_mem_nil, or_false] at hd; rcases hd with rfl | rfl <;> exact int_pl _ _⟩
theorem trip_pl (k : Nat) (c : Int × Int × Int) : plD (k + 1) (tripD c) :=
  ⟨by simp only [List.length_cons, List.length_nil]; decide, fun d hd => by simp only [List.mem_cons, List.not_mem_nil, or_false] at hd; rcases hd with rfl | rfl | rfl <;> exact int_pl _ _⟩
theorem map_pl {α : Type} (k : Nat) {f : α → D} {xs : List α} (hl : xs.length < 2 ^ 30) (h : ∀ x ∈ xs, plD k (f x)) : plD (k + 1) (.tup (xs.map f)) :=
  ⟨by rw [List.length_map]; exact hl, fun d hd => by obtain ⟨x, hx, rfl⟩ := List.mem_map.1 hd; exact h x hx⟩
theorem md_pl (k : Nat) {m : Md} (h1 : m.dm.length < 2 ^ 30) (h2 : m.ch.length < 2 ^ 30) : plD (k + 3) (mdD m) := by
  refine ⟨by simp only [List.length_cons, List.length_nil]; decide, fun d hd => ?_⟩
  simp only [List.mem_cons, List.not_mem_nil, or_false] at hd
  rcases hd with rfl | rfl | rfl | rfl
  · exact int_pl _ _
  · exact ints_pl (k + 1) h1
  · exact map_pl (k + 1) h2 fun c _ => pair_pl _ c
  · exact int_pl _ _
theorem Pr.Sh.pl {p : Pr} (h : p.Sh) (k : Nat) : plD (k + 8) (pjD p) := by
  refine ⟨by simp only [List.length_cons, List.length_nil]; decide, fun d hd => ?_⟩
  simp only [List.mem_cons, List.not_mem_nil, or_false] at hd
  rcases hd with rfl | rfl | rfl | rfl | rfl
  · exact int_pl _ _
  · refine map_pl (k + 6) (by have := h.rl; omega) fun r hr => ⟨by simp only [List.length_cons, List.length_nil]; decide, fun d hd => ?_⟩
    simp only [List.mem_cons, List.not_mem_nil, or_false] at hd
    rcases hd with rfl | rfl | rfl
    · exact str_pl _ (h.rs r hr).1
    · exact int_pl _ _
    · exact map_pl (k + 4) (by have := (h.rs r hr).2; omega) fun c _ => trip_pl _ c
  · refine map_pl (k + 6) (by have := h.vl; omega) fun v hv => ⟨by simp only [List.length_cons, List.length_nil]; decide, fun d hd => ?_⟩
    simp only [List.mem_cons, List.not_mem_nil, or_false] at hd
    rcases hd with rfl | rfl | rfl | rfl
    · exact str_pl _ (h.vs v hv)
    · exact int_pl _ _
    · exact oD_pl _ _
    · exact oD_pl _ _
  · refine map_pl (k + 6) (by have := h.al; omega) fun a ha => ⟨by simp only [List.length_cons, List.length_nil]; decide, fun d hd => ?_⟩
    obtain ⟨h1, h2, h3, h4⟩ := h.as a ha
    simp only [List.mem_cons, List.not_mem_nil, or_false] at hd
    rcases hd with rfl | rfl
    · exact str_pl _ h1
    · exact map_pl (k + 4) (by omega) fun m hm => by have := h4 m hm; exact md_pl (m := m) (k + 1) (by omega) (by omega)
  · refine map_pl (k + 6) (by have := h.ll; omega) fun l _ => ⟨by simp only [List.length_cons, List.length_nil]; decide, fun d hd => ?_⟩
    simp only [List.mem_cons, List.not_mem_nil, or_false] at hd
    rcases hd with rfl | rfl | rfl
    · exact pair_pl _ _
    · exact pair_pl _ _
    · exact int_pl _ _
/-- a mark: none, under way, ended -/
def MkOk (m : List Int) : Prop := m = [] ∨ (∃ a s, m = [a, s] ∧ 0 ≤ a ∧ 0 ≤ s) ∨ ∃ a s e, m = [a, s, e] ∧ 0 ≤ a ∧ 0 ≤ s
def MkIn (n : Nat) (m : List Int) : Prop := m = [] ∨ (∃ a s, m = [a, s] ∧ 0 ≤ a ∧ a < n ∧ 0 ≤ s) ∨ ∃ a s e, m = [a, s, e] ∧ 0 ≤ a ∧ a < n ∧ 0 ≤ s
theorem MkIn.ok {n : Nat} {m : List Int} (h : MkIn n m) : MkOk m := by
  rcases h with h | ⟨a, s, h1, h2, h3, h4⟩ | ⟨a, s, e, h1, h2, h3, h4⟩
  · exact Or.inl h
  · exact Or.inr (Or.inl ⟨a, s, h1, h2, h4⟩)
  · exact Or.inr (Or.inr ⟨a, s, e, h1, h2, h4⟩)
theorem MkOk.len {m : List Int} (h : MkOk m) : m.length ≤ 3 := by
  rcases h with rfl | ⟨a, s, rfl, _⟩ | ⟨a, s, e, rfl, _⟩ <;> simp
/-- the same shape -/
structure SameSh {α β : Type} (xs : List (List α)) (ys : List (List β)) : Prop where
  len : xs.length = ys.length
  row : ∀ (i : Nat) x y, xs[i]? = some x → ys[i]? = some y → x.length = y.length
/-! what is told -/
def fitF (t lo hi : Int) : Bool := if t = 0 then decide (lo = 0) && decide (hi = 0) else decide (1 ≤ lo) && decide (lo ≤ t) && decide (t ≤ hi)
def SprOk (p : Pr) (sp : Sp) : Prop := ∀ (i : Nat) a row, p.as[i]? = some a → sp[i]? = some row → row.length = a.ms.length ∧ ∀ (m : Nat) md pr, a.ms[m]? = some md → row[m]? = some pr → fitF md.tk pr.1 pr.2 = true
def pmF (now : Int) (row : List (Int × Int)) : List Int → Bool
  | [a, s] => decide (a < row.length) && decide (s ≤ now) && decide (now < s + ((row[a.toNat]?).getD default).2)
  | [a, s, e] => decide (a < row.length) && decide (s ≤ now) && (decide (e ≤ now) && (decide (((row[a.toNat]?).getD default).1 ≤ e - s) && decide (e - s ≤ ((row[a.toNat]?).getD default).2)))
  | _ => true
def PosOk (p : Pr) (sp : Sp) (now : Int) (mk : List (List Int)) : Prop := -1 ≤ now ∧ now ≤ p.dl ∧ ∀ (i : Nat) row m, sp[i]? = some row → mk[i]? = some m → pmF now row m = true
def LieOk (sp : Sp) (ls : List (List Int)) : Prop := ∀ (i : Nat) row nums, sp[i]? = some row → ls[i]? = some nums → ∀ (m : Nat) (pr : Int × Int) x, row[m]? = some pr → nums[m]? = some x → pr.1 ≤ x ∧ x ≤ pr.2
def stF (now : Int) (nums : List Int) : List Int → Prop
  | [a, s] => now < s + (nums[a.toNat]?).getD 0
  | [a, s, e] => e - s = (nums[a.toNat]?).getD 0
  | _ => True
def StOk (sp : Sp) (now : Int) (mk ls : List (List Int)) : Prop := LieOk sp ls ∧ ∀ (i : Nat) m nums, mk[i]? = some m → ls[i]? = some nums → stF now nums m
def cerF (p : Pr) : Sp := p.as.map fun a => a.ms.map fun m => (m.tk, m.tk)
def withA (a : Ac) (nums : List Int) : Ac := { a with ms := List.zipWith (fun m x => { m with tk := x }) a.ms nums }
def withP (p : Pr) (ls : List (List Int)) : Pr := { p with as := List.zipWith withA p.as ls }
/-- lasts as many as modes -/
structure ShL (p : Pr) (ls : List (List Int)) : Prop where
  len : ls.length = p.as.length
  row : ∀ (i : Nat) a nums, p.as[i]? = some a → ls[i]? = some nums → nums.length = a.ms.length
structure ShS (p : Pr) (sp : Sp) : Prop where
  len : sp.length = p.as.length
  row : ∀ (i : Nat) a row, p.as[i]? = some a → sp[i]? = some row → row.length = a.ms.length
section
variable {S : St} {Q : QD}
theorem blsOf_map : ∀ bs : List Bool, blsOf (bs.map D.bl) = some bs
  | [] => rfl
  | b :: bs => by rw [List.map_cons, blsOf, blsOf_map bs]; rfl
theorem l_allR {n : Nat} {bs : List Bool} (h : S[n]? = some (.lst (bs.map D.bl))) (q : Q (.bl (bs.all id)) S) : bltW .all [.ref n] S Q := ⟨_, _, seqOf_lst h, blsOf_map _, q⟩
/-- `()`, compared -/
theorem c_neU {α : Type} {f : α → D} {xs : List α} {Q : Bool → St → Prop} (h : ∀ x ∈ xs, plD 60 (f x)) (q : Q (!xs.isEmpty) S) : cmpW .ne (.tup (xs.map f)) (.tup []) S Q := by
  refine c_ne (eqB_nilT fun d hd => ?_) ?_
  · obtain ⟨x, hx, rfl⟩ := List.mem_map.1 hd; exact h x hx
  · rw [List.isEmpty_map]; exact q
theorem c_eqU {α : Type} {f : α → D} {xs : List α} {Q : Bool → St → Prop} (h : ∀ x ∈ xs, plD 60 (f x)) (q : Q xs.isEmpty S) : cmpW .eq (.tup (xs.map f)) (.tup []) S Q := by
  refine c_eq (eqB_nilT fun d hd => ?_) ?_
  · obtain ⟨x, hx, rfl⟩ := List.mem_map.1 hd; exact h x hx
  · rw [List.isEmpty_map]; exact q
end
end Flx

end
section
set_option Elab.async false
set_option linter.all false
set_option autoImplicit false
set_option maxRecDepth 100000
/-! FlxUsg: dicts with int keys; profiles; what is used and what stands. -/
namespace Flx
open PySem PySem.Spec PyProof.Rows
/-! ### dicts with int keys -/
section
variable {α : Type} {f : α → D}
def kvI (f : α → D) (m : List (Int × α)) : List (L2.Key × D) := m.map fun x => (Sum.inl x.1, f x.2)
def aGet (m : List (Int × α)) (t : Int) : Option α := (m.find? fun x => decide (x.1 = t)).map (·.2)
def aPut (m : List (Int × α)) (t : Int) (v : α) : List (Int × α) := if (m.any fun x => decide (x.1 = t)) = true then m.map (fun x => if x.1 = t then (x.1, v) else x) else m ++ [(t, v)]
theorem aGet_cons {p : Int × α} {m : List (Int × α)} {t : Int} : aGet (p :: m) t = if p.1 = t then some p.2 else aGet m t := by
  unfold aGet
  rw [List.find?_cons]
  by_cases h : p.1 = t <;> simp [h]
theorem valD_kvI (m : List (Int × α)) (t : Int) : valD (kvI f m) (.inl t) = (aGet m t).map f := by
  induction m with
  | nil => rfl
  | cons p m ih =>
    rw [aGet_cons]
    have e : valD (kvI f (p :: m)) (.inl t) = if p.1 = t then some (f p.2) else valD (kvI f m) (.inl t) := by
      unfold valD kvI
      rw [List.map_cons, List.find?_cons]
      by_cases h : p.1 = t <;> simp [h]
    rw [e, ih]
    by_cases h : p.1 = t <;> simp [h]
theorem any_kvI (m : List (Int × α)) (t : Int) : ((kvI f m).any fun kv => decide (kv.1 = .inl t)) = m.any fun x => decide (x.1 = t) := by
  unfold kvI
  rw [List.any_map]
  congr 1
  funext x
  simp
theorem putD_kvI (m : List (Int × α)) (t : Int) (v : α) : putD (kvI f m) (.inl t) (f v) = kvI f (aPut m t v) := by
  unfold putD aPut
  rw [any_kvI]
  split
  · unfold kvI
    rw [List.map_map, List.map_map]
    refine List.map_congr_left fun x _ => ?_
    by_cases h : x.1 = t <;> simp [h]
  · unfold kvI
    rw [List.map_append]; rfl
theorem any_key {m : List (Int × α)} {t : Int} : (m.any fun x => decide (x.1 = t)) = true ↔ t ∈ m.map (·.1) := by
  rw [List.any_eq_true, List.mem_map]
  constructor
  · rintro ⟨x, h1, h2⟩; exact ⟨x, h1, of_decide_eq_true h2⟩
  · rintro ⟨x, h1, h2⟩; exact ⟨x, h1, decide_eq_true h2⟩
theorem aGet_none {m : List (Int × α)} {t : Int} (h : t ∉ m.map (·.1)) : aGet m t = none := by
  induction m with
  | nil => rfl
  | cons p m ih =>
    rw [List.map_cons, List.mem_cons] at h
    rw [aGet_cons, if_neg (fun e => h (Or.inl e.symm)), ih (fun e => h (Or.inr e))]
theorem aGet_mem {m : List (Int × α)} {t : Int} (h : t ∈ m.map (·.1)) : ∃ v, aGet m t = some v := by
  induction m with
  | nil => cases h
  | cons p m ih =>
    rw [aGet_cons]
    by_cases e : p.1 = t
    · exact ⟨p.2, by rw [if_pos e]⟩
    · rw [if_neg e]
      rw [List.map_cons, List.mem_cons] at h
      exact ih (h.resolve_left (Ne.symm e))
end
/-! ### jumps and profiles -/
/-- the jumps at t -/
def jA (js : List (Int × Int)) (t : Int) : Int := (js.map fun j => if j.1 = t then j.2 else 0).sum
/-- the value at t -/
def jV (v : Int) (js : List (Int × Int)) (t : Int) : Int := v + (js.map fun j => if j.1 ≤ t then j.2 else 0).sum
/-- the profile of V over 0, 1, .. n - 1 -/
def pF (V : Int → Int) : Nat → List (Int × Int)
  | 0 => []
  | n + 1 => if n = 0 ∨ V n ≠ V ((n : Int) - 1) then pF V n ++ [((n : Int), V n)] else pF V n
/-- what is done with the sorted keys -/
structure PB (ys : List Int) (i e : Nat) : Prop where
  lo : ∀ t ∈ ys.take i, t < e
  hi : ∀ t ∈ ys.drop i, (e : Int) ≤ t
  z : i = 0 → e = 0
  p : 0 < i → 0 < e
/-- the t-th of some values -/
def valF (vs : List Int) (t : Int) : Int := (vs[t.toNat]?).getD 0
/-- the value at t of a profile -/
def atF (ps : List (Int × Int)) (t d : Int) : Int := (((ps.filter fun x => decide (x.1 ≤ t)).map (·.2)).getLast?).getD d
/-! ### what is used -/
abbrev Rw := Int × Int × Int
def usedF (ws : List Rw) (t : Int) : Int := (ws.map fun w => if w.1 ≤ t ∧ t < w.2.1 then w.2.2 else 0).sum
def jmpF (ws : List Rw) : List (Int × Int) := ws.flatMap fun w => [(w.1, w.2.2), (w.2.1, -w.2.2)]
def workF (ws : List Rw) : Int := (ws.map fun w => w.2.2 * (w.2.1 - w.1)).sum
/-! ### what stands -/
theorem sum_filter {α : Type} (p : α → Bool) (g : α → Int) : ∀ xs : List α, ((xs.filter p).map g).sum = (xs.map fun x => if p x = true then g x else 0).sum
  | [] => rfl
  | x :: xs => by
    by_cases h : p x = true
    · rw [List.filter_cons_of_pos h, List.map_cons, List.map_cons, List.sum_cons, List.sum_cons, sum_filter p g xs, if_pos h]
    · rw [List.filter_cons_of_neg h, List.map_cons, List.sum_cons, sum_filter p g xs, if_neg h, Int.zero_add]
/-! ### of a project -/
def bgF (bs : List Int) (i : Nat) : Int := (bs[i]?).getD 0
def dmF (m : Md) (r : Nat) : Int := (m.dm[r]?).getD 0
def chF (m : Md) (v : Nat) : Int × Int := (m.ch[v]?).getD (0, 0)
def clF (p : Pr) (r : Nat) : List Rw := ((p.rs[r]?).getD default).cl
def stF0 (p : Pr) (v : Nat) : Int := ((p.vs[v]?).getD default).st
def taskF (p : Pr) (ms bs : List Int) (r i : Nat) : Rw := (bgF bs i, bgF bs i + (md p ms i).tk, dmF (md p ms i) r)
def loadF (p : Pr) (ms bs : List Int) (r : Nat) : List Rw := (List.range ms.length).map (taskF p ms bs r) ++ clF p r
def staysF (p : Pr) (ms bs : List Int) (r : Nat) : List Rw := ((List.range ms.length).map (taskF p ms bs r)).filter (fun w => decide (0 < w.2.2)) ++ clF p r
def flowF (p : Pr) (ms bs : List Int) (v : Nat) : List (Int × Int) := (List.range ms.length).map fun i => (bgF bs i + (chF (md p ms i) v).1 * (md p ms i).tk, (chF (md p ms i) v).2)
end Flx

end
section
set_option Elab.async false
set_option linter.all false
set_option autoImplicit false
set_option maxRecDepth 100000
/-! FlxVio: conditions of a project, and what an assignment lacks of them. -/
namespace Flx
open PySem PySem.Spec PyProof.Rows
abbrev evD (e : Int × Int) : D := .tup [.int e.1, .int e.2]
/-- an event among m activities -/
def evOk (m : Nat) (e : Int × Int) : Prop := e.1 = -1 ∨ (0 ≤ e.1 ∧ e.1 < m ∧ (e.2 = 0 ∨ e.2 = 1))
def shf (tk : List Int) (e : Int × Int) : Int := if e.1 < 0 then e.2 else (tk[e.1.toNat]?).getD 0 * e.2
theorem evOk_at {tk : List Int} {e : Int × Int} (h : evOk tk.length e) (h0 : ¬ e.1 < 0) : ∃ x, tk[e.1.toNat]? = some x ∧ L2.atI (tk.map D.int) e.1 = some (.int x) := by
  rcases h with h | ⟨h1, h2, h3⟩
  · omega
  · have hl : e.1.toNat < tk.length := by omega
    exact ⟨_, List.getElem?_eq_getElem hl, atI_map (atI_int h1 (List.getElem?_eq_getElem hl))⟩
/-- the first time below n at which P is -/
def fs (P : Int → Bool) (n : Nat) : Option Int := ((List.range n).map fun i : Nat => (i : Int)).find? P
/-! ### lags -/
def whenF (tk bs : List Int) (e : Ev) : Int := shf tk e + if e.1 < 0 then 0 else (bs[e.1.toNat]?).getD 0
def lacksF (tk bs : List Int) (l : Lg) : Int := l.2.2 - whenF tk bs l.2.1 + whenF tk bs l.1
theorem evK.ok {n : Nat} {e : Ev} (h : evK n e) : evOk n e := by
  rcases h with h | h
  · exact Or.inl h.1
  · exact Or.inr h
/-! ### conditions -/
inductive Cn where
  | lag (k : Nat) | cap (r : Nat) | lo (v : Nat) | hi (v : Nat)
def cnD : Cn → D
  | .lag k => .tup [.str "lag", .int (k : Int)]
  | .cap k => .tup [.str "capacity", .int (k : Int)]
  | .lo k => .tup [.str "least", .int (k : Int)]
  | .hi k => .tup [.str "most", .int (k : Int)]
def vioD (x : Cn × Int) : D := .tup [cnD x.1, .int x.2]
def lgF (p : Pr) (k : Nat) : Lg := (p.ls[k]?).getD ((0, 0), (0, 0), 0)
def capF (p : Pr) (r : Nat) : Int := ((p.rs[r]?).getD default).cap
def ivF (p : Pr) (v : Nat) : Iv := (p.vs[v]?).getD default
def ivC (p : Pr) (v : Nat) : List Cn := (if (ivF p v).lo.isSome then [Cn.lo v] else []) ++ if (ivF p v).hi.isSome then [Cn.hi v] else []
def condsF (p : Pr) : List Cn := (List.range p.ls.length).map .lag ++ (List.range p.rs.length).map .cap ++ (List.range p.vs.length).flatMap (ivC p)
def numF (p : Pr) (ms bs : List Int) : Cn → Option Int
  | .lag k => if 0 < lacksF (tks p ms) bs (lgF p k) then some (lacksF (tks p ms) bs (lgF p k)) else none
  | .cap r => fs (fun t => decide (capF p r < usedF (loadF p ms bs r) t)) 32
  | .lo v => (ivF p v).lo.bind fun c => fs (fun t => decide (jV (stF0 p v) (flowF p ms bs v) t < c)) 32
  | .hi v => (ivF p v).hi.bind fun c => fs (fun t => decide (c < jV (stF0 p v) (flowF p ms bs v) t)) 32
def vioF (p : Pr) (ms bs : List Int) (cs : List Cn) : List (Cn × Int) := cs.filterMap fun c => (numF p ms bs c).map fun n => (c, n)
/-- a condition of the project -/
def cnOk (p : Pr) : Cn → Prop
  | .lag k => k < p.ls.length
  | .cap r => r < p.rs.length
  | .lo v => v < p.vs.length ∧ ∃ c, (ivF p v).lo = some c
  | .hi v => v < p.vs.length ∧ ∃ c, (ivF p v).hi = some c
/-! ### parts of a project, changed -/
theorem As.like {p p' : Pr} {ms bs : List Int} (h : As p ms bs) (e1 : p'.as = p.as) (e2 : p'.dl = p.dl) : As p' ms bs := by
  have hm : ∀ i, md p' ms i = md p ms i := fun i => by unfold md; rw [e1]
  exact ⟨⟨by rw [e1]; exact h.ml, by rw [e1]; exact h.ok⟩, by rw [e1]; exact h.bl, h.b0, fun i b hb => by rw [hm, e2]; exact h.b1 i b hb⟩
theorem tks_like {p p' : Pr} {ms : List Int} (e1 : p'.as = p.as) : tks p' ms = tks p ms := by unfold tks md; rw [e1]
/-- p' is p with other bounds -/
structure Tn (p p' : Pr) : Prop where
  ok : p'.Ok
  as : p'.as = p.as
  dl : p'.dl = p.dl
  rl : p'.rs.length = p.rs.length
  vl : p'.vs.length = p.vs.length
  ll : p'.ls.length = p.ls.length
theorem Tn.refl {p : Pr} (ok : p.Ok) : Tn p p := ⟨ok, rfl, rfl, rfl, rfl, rfl⟩
theorem Tn.trans {p p' p2 : Pr} (h : Tn p p') (g : Tn p' p2) : Tn p p2 := ⟨g.ok, g.as.trans h.as, g.dl.trans h.dl, g.rl.trans h.rl, g.vl.trans h.vl, g.ll.trans h.ll⟩
/-! ### words compared, lists against the empty one -/
section
variable {S : St}
theorem c_eqS {a b : Str} {r : Bool} {Q : Bool → St → Prop} (h : (SeqAt.shaped (.str a) && SeqAt.shaped (.str b) && (PyData.eqv (.str a) (.str b) == r)) = true) (q : Q r S) : cmpW .eq (.str a) (.str b) S Q := by
  rw [Bool.and_eq_true, Bool.and_eq_true, beq_iff_eq] at h
  refine c_eq (eqB_some rfl rfl h.1.1 h.1.2) ?_
  rw [h.2]; exact q
end
end Flx

end
section
set_option Elab.async false
set_option linter.all false
set_option autoImplicit false
set_option maxRecDepth 100000
/-! FlxEnc: plain data compared, as plain data; encodings that equality sees through. -/
namespace Flx
open PySem PySem.Spec PyProof.Rows
mutual
def eqD : D → D → Bool
  | .non, .non => true
  | .bl a, .bl b => a == b
  | .bl a, .int j => (if a then 1 else 0) == j
  | .int i, .bl b => i == (if b then 1 else 0)
  | .int i, .int j => i == j
  | .str x, .str y => x == y
  | .tup xs, .tup ys => eqDs xs ys
  | _, _ => false
def eqDs : List D → List D → Bool
  | [], [] => true
  | x :: xs, y :: ys => eqD x y && eqDs xs ys
  | _, _ => false
end
mutual
theorem eqv_eqD : ∀ {x y : D} {p q : PyData}, toP x = some p → toP y = some q → PyData.eqv p q = eqD x y
  | .tup xs, y, p, q, h1, h2 => by
    cases e1 : toPs xs with
    | none => simp [toP, e1] at h1
    | some ps =>
      have h1' : PyData.tuple ps = p := by simpa [toP, e1] using h1
      subst h1'
      cases y with
      | tup ys =>
        cases e2 : toPs ys with
        | none => simp [toP, e2] at h2
        | some qs =>
          have h2' : PyData.tuple qs = q := by simpa [toP, e2] using h2
          subst h2'
          rw [PyData.eqv, eqD, eqvAll_eqDs e1 e2]
      | ref n => simp [toP] at h2
      | _ =>
        simp only [toP, Option.some.injEq] at h2
        subst h2
        simp [PyData.eqv, eqD]
  | .ref n, y, p, q, h1, h2 => by simp [toP] at h1
  | .non, y, p, q, h1, h2 => by
    simp only [toP, Option.some.injEq] at h1
    subst h1
    cases y with
    | tup ys =>
      cases e2 : toPs ys with
      | none => simp [toP, e2] at h2
      | some qs => have h2' : PyData.tuple qs = q := by simpa [toP, e2] using h2
                   subst h2'; simp [PyData.eqv, eqD]
    | ref n => simp [toP] at h2
    | _ => simp only [toP, Option.some.injEq] at h2; subst h2; simp [PyData.eqv, eqD]
  | .bl b, y, p, q, h1, h2 => by
    simp only [toP, Option.some.injEq] at h1
    subst h1
    cases y with
    | tup ys =>
      cases e2 : toPs ys with
      | none => simp [toP, e2] at h2
      | some qs => have h2' : PyData.tuple qs = q := by simpa [toP, e2] using h2
                   subst h2'; simp [PyData.eqv, eqD]
    | ref n => simp [toP] at h2
    | _ => simp only [toP, Option.some.injEq] at h2; subst h2; simp [PyData.eqv, eqD]
  | .int b, y, p, q, h1, h2 => by
    simp only [toP, Option.some.injEq] at h1
    subst h1
    cases y with
    | tup ys =>
      cases e2 : toPs ys with
      | none => simp [toP, e2] at h2
      | some qs => have h2' : PyData.tuple qs = q := by simpa [toP, e2] using h2
                   subst h2'; simp [PyData.eqv, eqD]
    | ref n => simp [toP] at h2
    | _ => simp only [toP, Option.some.injEq] at h2; subst h2; simp [PyData.eqv, eqD]
  | .str b, y, p, q, h1, h2 => by
    simp only [toP, Option.some.injEq] at h1
    subst h1
    cases y with
    | tup ys =>
      cases e2 : toPs ys with
      | none => simp [toP, e2] at h2
      | some qs => have h2' : PyData.tuple qs = q := by simpa [toP, e2] using h2
                   subst h2'; simp [PyData.eqv, eqD]
    | ref n => simp [toP] at h2
    | _ => simp only [toP, Option.some.injEq] at h2; subst h2; simp [PyData.eqv, eqD]
theorem eqvAll_eqDs : ∀ {xs ys : List D} {ps qs : List PyData}, toPs xs = some ps → toPs ys = some qs → PyData.eqvAll ps qs = eqDs xs ys
  | [], ys, ps, qs, h1, h2 => by
    have e : ps = [] := by simpa [toPs] using h1.symm
    subst e
    cases ys with
    | nil => have e : qs = [] := by simpa [toPs] using h2.symm
             subst e; rfl
    | cons y ys =>
      cases q1 : toP y with
      | none => simp [toPs, q1] at h2
      | some q =>
        cases q2 : toPs ys with
        | none => simp [toPs, q1, q2] at h2
        | some qs' => have e : q :: qs' = qs := by simpa [toPs, q1, q2] using h2
                      subst e; simp [PyData.eqvAll, eqDs]
  | x :: xs, ys, ps, qs, h1, h2 => by
    cases p1 : toP x with
    | none => simp [toPs, p1] at h1
    | some p =>
      cases p2 : toPs xs with
      | none => simp [toPs, p1, p2] at h1
      | some ps' =>
        have e : p :: ps' = ps := by simpa [toPs, p1, p2] using h1
        subst e
        cases ys with
        | nil => have e : qs = [] := by simpa [toPs] using h2.symm
                 subst e; simp [PyData.eqvAll, eqDs]
        | cons y ys =>
          cases q1 : toP y with
          | none => simp [toPs, q1] at h2
          | some q =>
            cases q2 : toPs ys with
            | none => simp [toPs, q1, q2] at h2
            | some qs' =>
              have e : q :: qs' = qs := by simpa [toPs, q1, q2] using h2
              subst e
              rw [PyData.eqvAll, eqDs, eqv_eqD p1 q1, eqvAll_eqDs p2 q2]
end
section
variable {S : St} {x y : D}
theorem eqB_pl (hx : plD 60 x) (hy : plD 60 y) : eqB S x y = some (eqD x y) := by
  obtain ⟨p, p1, p2, p3⟩ := toP_pl 60 x hx
  obtain ⟨q, q1, q2, q3⟩ := toP_pl 60 y hy
  rw [eqB_some (toPS_of p1) (toPS_of q1) (shaped_of p2 (by omega)) (shaped_of q2 (by omega)), eqv_eqD p1 q1]
theorem any_eqv {p : PyData} : ∀ {ds : List D} {ps : List PyData}, toPs ds = some ps → toP x = some p → (ps.any fun z => PyData.eqv z p) = ds.any fun z => eqD z x
  | [], ps, h, _ => by
    have e : ps = [] := by simpa [toPs] using h.symm
    subst e; rfl
  | d :: ds, ps, h, hp => by
    cases p1 : toP d with
    | none => simp [toPs, p1] at h
    | some p =>
      cases p2 : toPs ds with
      | none => simp [toPs, p1, p2] at h
      | some ps' =>
        have e : p :: ps' = ps := by simpa [toPs, p1, p2] using h
        subst e
        rw [List.any_cons, List.any_cons, eqv_eqD p1 hp, any_eqv p2 hp]
theorem c_inP {ds : List D} {Q : Bool → St → Prop} (h : itemsOf S y = some ds) (hx : plD 60 x) (hd : ∀ d ∈ ds, plD 60 d) (q : Q (ds.any fun z => eqD z x) S) : cmpW .isin x y S Q := by
  obtain ⟨p, p1, p2, p3⟩ := toP_pl 60 x hx
  obtain ⟨ps, q1, q2, q3, q4⟩ := toPs_pl hd
  refine Or.inr ⟨ds, p, ps, h, toPR_of p1, toPRs_of q1, q2, shaped_of p2 (by omega), ?_⟩
  rw [any_eqv q1 p1]; exact q
theorem c_notinP {ds : List D} {Q : Bool → St → Prop} (h : itemsOf S y = some ds) (hx : plD 60 x) (hd : ∀ d ∈ ds, plD 60 d) (q : Q (!ds.any fun z => eqD z x) S) : cmpW .notin x y S Q := by
  obtain ⟨p, p1, p2, p3⟩ := toP_pl 60 x hx
  obtain ⟨ps, q1, q2, q3, q4⟩ := toPs_pl hd
  refine Or.inr ⟨ds, p, ps, h, toPR_of p1, toPRs_of q1, q2, shaped_of p2 (by omega), ?_⟩
  rw [any_eqv q1 p1]; exact q
end
/-- an encoding that equality sees through -/
def Fa {α : Type} [DecidableEq α] (f : α → D) : Prop := ∀ x y, eqD (f x) (f y) = decide (x = y)
section
variable {α β γ : Type} [DecidableEq α] [DecidableEq β] [DecidableEq γ]
theorem eq_dec (a b : α) [BEq α] [LawfulBEq α] : (a == b) = decide (a = b) := by
  rw [Bool.eq_iff_iff]; simp
theorem fa_int : Fa D.int := fun x y => by rw [eqD]; exact eq_dec x y
theorem fa_two {f : α → D} {g : β → D} (hf : Fa f) (hg : Fa g) : Fa (fun p : α × β => D.tup [f p.1, g p.2]) := by
  rintro ⟨a, b⟩ ⟨c, d⟩
  show eqD (.tup [f a, g b]) (.tup [f c, g d]) = _
  rw [eqD, eqDs, eqDs, eqDs, hf, hg, Bool.and_true, ← Bool.decide_and]
  exact decide_eq_decide.2 (by rw [Prod.mk.injEq])
theorem fa_three {f : α → D} {g : β → D} {h : γ → D} (hf : Fa f) (hg : Fa g) (hh : Fa h) : Fa (fun p : α × β × γ => D.tup [f p.1, g p.2.1, h p.2.2]) := by
  rintro ⟨a, b, c⟩ ⟨a', b', c'⟩
  show eqD (.tup [f a, g b, h c]) (.tup [f a', g b', h c']) = _
  rw [eqD, eqDs, eqDs, eqDs, eqDs, hf, hg, hh, Bool.and_true, ← Bool.decide_and, ← Bool.decide_and]
  exact decide_eq_decide.2 (by rw [Prod.mk.injEq, Prod.mk.injEq])
theorem fa_pair : Fa pairD := fa_two fa_int fa_int
theorem fa_lg : Fa lgD := fa_three fa_pair fa_pair fa_int
theorem any_fa {f : α → D} (h : Fa f) (xs : List α) (x : α) [Decidable (x ∈ xs)] : ((xs.map f).any fun z => eqD z (f x)) = decide (x ∈ xs) := by
  rw [List.any_map, Bool.eq_iff_iff, List.any_eq_true, decide_eq_true_iff]
  constructor
  · rintro ⟨y, hy, e⟩
    have e : eqD (f y) (f x) = true := e
    rw [h y x] at e
    rw [← of_decide_eq_true e]; exact hy
  · intro hx
    exact ⟨x, hx, by show eqD (f x) (f x) = true; rw [h]; simp⟩
variable {S : St} {y : D} {Q : Bool → St → Prop}
theorem c_inF {f : α → D} {xs : List α} {x : α} [Decidable (x ∈ xs)] (h : Fa f) (hs : itemsOf S y = some (xs.map f)) (hx : plD 60 (f x)) (hp : ∀ x ∈ xs, plD 60 (f x)) (q : Q (decide (x ∈ xs)) S) : cmpW .isin (f x) y S Q :=
  c_inP hs hx (fun d hd => by obtain ⟨z, hz, rfl⟩ := List.mem_map.1 hd; exact hp z hz) (by rw [any_fa h]; exact q)
theorem c_notinF {f : α → D} {xs : List α} {x : α} [Decidable (x ∈ xs)] (h : Fa f) (hs : itemsOf S y = some (xs.map f)) (hx : plD 60 (f x)) (hp : ∀ x ∈ xs, plD 60 (f x)) (q : Q (!decide (x ∈ xs)) S) : cmpW .notin (f x) y S Q :=
  c_notinP hs hx (fun d hd => by obtain ⟨z, hz, rfl⟩ := List.mem_map.1 hd; exact hp z hz) (by rw [any_fa h]; exact q)
end
theorem lg_pl (k : Nat) (l : Lg) : plD (k + 2) (lgD l) := ⟨by simp, fun d hd => by
  simp only [List.mem_cons, List.not_mem_nil, or_false] at hd
  rcases hd with rfl | rfl | rfl
  · exact pair_pl k _
  · exact pair_pl k _
  · exact int_pl _ _⟩
/-! ### transfers -/
structure Tf where
  cn : Cn
  so : Option Ev
  si : Ev
  un : Int
abbrev oeD : Option Ev → D
  | none => .non
  | some e => pairD e
abbrev tfD (t : Tf) : D := .tup [cnD t.cn, oeD t.so, pairD t.si, .int t.un]
/-- the lags of transfers -/
def trS (acc : List Lg) (t : Tf) : List Lg :=
  match t.so with
  | none => acc
  | some e => if e.1 ≠ t.si.1 ∧ (e, t.si, (0 : Int)) ∉ acc then acc ++ [(e, t.si, 0)] else acc
def trL (ts : List Tf) : List Lg := ts.foldl trS []
theorem trS_len (acc : List Lg) (t : Tf) : (trS acc t).length ≤ acc.length + 1 := by
  unfold trS
  split
  · omega
  · split
    · rw [List.length_append]; simp
    · omega
theorem foldl_trS_len (ts : List Tf) : ∀ acc : List Lg, (ts.foldl trS acc).length ≤ acc.length + ts.length := by
  induction ts with
  | nil => intro acc; exact Nat.le_refl _
  | cons t ts ih => intro acc; rw [List.foldl_cons, List.length_cons]; have := ih (trS acc t); have := trS_len acc t; omega
theorem trL_len (ts : List Tf) : (trL ts).length ≤ ts.length := by have := foldl_trS_len ts []; simpa [trL] using this
theorem foldl_take_succ {α β : Type} (f : β → α → β) (b : β) {xs : List α} {i : Nat} {x : α} (h : xs[i]? = some x) : (xs.take (i + 1)).foldl f b = f ((xs.take i).foldl f b) x := by
  rw [take_next h, List.foldl_append]; rfl
/-- events of transfers among n activities -/
structure TfOk (n : Nat) (t : Tf) : Prop where
  so : ∀ e, t.so = some e → evK n e
  si : evK n t.si
def LgK (n : Nat) (l : Lg) : Prop := evK n l.1 ∧ evK n l.2.1
theorem LgOk.k {n : Nat} {l : Lg} (h : LgOk n l) : LgK n l := ⟨h.e1, h.e2⟩
theorem foldl_trS_ok {n : Nat} (ts : List Tf) (h : ∀ t ∈ ts, TfOk n t) : ∀ acc : List Lg, (∀ l ∈ acc, LgK n l) → ∀ l ∈ ts.foldl trS acc, LgK n l := by
  induction ts with
  | nil => intro acc ha; exact ha
  | cons t ts ih =>
    intro acc ha
    rw [List.foldl_cons]
    refine ih (fun t ht => h t (List.mem_cons_of_mem _ ht)) _ ?_
    unfold trS
    split
    · exact ha
    · rename_i e he
      split
      · intro l hl
        rcases List.mem_append.1 hl with hl | hl
        · exact ha l hl
        · rw [List.mem_singleton.1 hl]
          exact ⟨(h t (List.mem_cons_self ..)).so e he, (h t (List.mem_cons_self ..)).si⟩
      · exact ha
theorem trL_ok {n : Nat} {ts : List Tf} (h : ∀ t ∈ ts, TfOk n t) : ∀ l ∈ trL ts, LgK n l := foldl_trS_ok ts h [] (fun l hl => by cases hl)
abbrev plnD (ms : List Int) (ls : List Lg) (ts : List Tf) : D := .tup [.tup (ms.map .int), .tup (ls.map lgD), .tup (ts.map tfD)]
section
variable {S : St} {Q : QD}
theorem l_max2m {i j : Int} (q : Q (.int (max i j)) S) : bltW .max [.int i, .int j] S Q := by
  refine l_max2 ?_
  have e : (if j > i then j else i) = max i j := by split <;> omega
  rw [e]; exact q
theorem l_min2m {i j : Int} (q : Q (.int (min i j)) S) : bltW .min [.int i, .int j] S Q := by
  refine l_min2 ?_
  have e : (if j < i then j else i) = min i j := by split <;> omega
  rw [e]; exact q
theorem l_absm {i : Int} (q : Q (.int (i.natAbs : Int)) S) : bltW .abs [.int i] S Q := by
  refine l_abs ?_
  have e : (if i < 0 then -i else i) = (i.natAbs : Int) := by split <;> omega
  rw [e]; exact q
end
/-- a comprehension that may draw and may leave out: what is got -/
theorem lc_some {C : Nat → List D → St → QD → Prop} (mC : MonoC C) {G : St → Prop} {tg : Tg} {elt : Ex} {ifs : Exs} {xs : List D} {σ : Sg} {S : St} {Q : List D → St → Prop} {α : Type} (f : α → D) (P : α → Prop) (tp : Tp S)
    (hG : ∀ S', Fr S S' → G S')
    (each : ∀ (i : Nat) (x : D) (S' : St), xs[i]? = some x → Fr S S' → Tp S' → ∃ σ', gA tg x σ = some σ' ∧ wC C ifs σ' S' (fun b S1 => Fr S' S1 ∧ Tp S1 ∧ (b = true → wE C elt σ' S1 (fun y S2 => ∃ a, y = f a ∧ P a ∧ Fr S1 S2 ∧ Tp S2))))
    (q : ∀ (as : List α) (S' : St), as.length ≤ xs.length → (∀ a ∈ as, P a) → Fr S S' → Tp S' → Q (as.map f) S') : LcL C G elt tg ifs σ xs S Q := by
  refine lc_inv mC (fun i acc S' => ∃ as : List α, acc = as.map f ∧ as.length ≤ i ∧ (∀ a ∈ as, P a) ∧ Fr S S' ∧ Tp S') ⟨[], rfl, Nat.le_refl _, (fun a h => by cases h), Fr.refl _, tp⟩ (fun i acc S' h => by obtain ⟨_, _, _, _, fr, _⟩ := h; exact hG _ fr) ?_ ?_
  · rintro i x acc S' hx ⟨as, rfl, hl, hP, fr, tp'⟩
    obtain ⟨σ', h1, h2⟩ := each i x S' hx fr tp'
    refine ⟨σ', h1, wC_mono mC ifs _ _ _ _ (fun b S1 h => ?_) h2⟩
    obtain ⟨fr1, tp1, h⟩ := h
    cases b with
    | true =>
      rw [if_pos rfl]
      refine wE_mono mC elt _ _ _ _ (fun y S2 h => ?_) (h rfl)
      obtain ⟨a, rfl, h3, h4, h5⟩ := h
      refine ⟨as ++ [a], by rw [List.map_append]; rfl, by rw [List.length_append]; simp only [List.length_singleton]; omega, fun b hb => ?_, (fr.trans fr1).trans h4, h5⟩
      rcases List.mem_append.1 hb with hb | hb
      · exact hP b hb
      · rw [List.mem_singleton.1 hb]; exact h3
    | false =>
      rw [if_neg Bool.false_ne_true]
      exact ⟨as, rfl, by omega, hP, fr.trans fr1, tp1⟩
  · rintro acc S' ⟨as, rfl, hl, hP, fr, tp'⟩
    exact q as S' hl hP fr tp'
/-! ### flows -/
abbrev Fi := Int × Ev × Int
abbrev fiD (x : Fi) : D := .tup [.int x.1, pairD x.2.1, .int x.2.2]
def FiOk (n : Nat) (x : Fi) : Prop := evK n x.2.1
/-- a condition, a pool, what comes and what goes, in lists -/
def FlOk (n lo : Nat) (S : St) (d : D) : Prop :=
  ∃ (c : Cn) (pool : Int) (r1 r2 : Nat) (so si : List Fi), d = .tup [cnD c, .int pool, .ref r1, .ref r2] ∧ lo ≤ r1 ∧ lo ≤ r2 ∧ S[r1]? = some (.lst (so.map fiD)) ∧ S[r2]? = some (.lst (si.map fiD)) ∧ so.length ≤ 20 ∧ si.length ≤ 20 ∧ (∀ x ∈ so, FiOk n x) ∧ ∀ x ∈ si, FiOk n x
theorem FlOk.fr {n lo : Nat} {S S' : St} {d : D} (h : FlOk n lo S d) (hl : 3 ≤ lo) (fr : Fr S S') : FlOk n lo S' d := by
  obtain ⟨c, pool, r1, r2, so, si, e, h1, h2, h3, h4, h5⟩ := h
  exact ⟨c, pool, r1, r2, so, si, e, h1, h2, fr.get (by omega) h3, fr.get (by omega) h4, h5⟩
theorem FlOk.set {n lo r : Nat} {S : St} {d : D} {o : MO} (h : FlOk n lo S d) (hr : r < lo) : FlOk n lo (S.set r o) d := by
  obtain ⟨c, pool, r1, r2, so, si, e, h1, h2, h3, h4, h5⟩ := h
  exact ⟨c, pool, r1, r2, so, si, e, h1, h2, get_set (by omega) h3, get_set (by omega) h4, h5⟩
theorem FlOk.mk {n lo : Nat} {S : St} {c : Cn} {pool : Int} {r1 r2 : Nat} {so si : List Fi} (h1 : lo ≤ r1) (h2 : lo ≤ r2) (h3 : S[r1]? = some (.lst (so.map fiD))) (h4 : S[r2]? = some (.lst (si.map fiD))) (h5 : so.length ≤ 20) (h6 : si.length ≤ 20) (h7 : ∀ x ∈ so, FiOk n x) (h8 : ∀ x ∈ si, FiOk n x) :
    FlOk n lo S (.tup [cnD c, .int pool, .ref r1, .ref r2]) := ⟨c, pool, r1, r2, so, si, rfl, h1, h2, h3, h4, h5, h6, h7, h8⟩
/-- the same, the lists below hi -/
def FlB (n lo hi : Nat) (S : St) (d : D) : Prop :=
  ∃ (c : Cn) (pool : Int) (r1 r2 : Nat) (so si : List Fi), d = .tup [cnD c, .int pool, .ref r1, .ref r2] ∧ (lo ≤ r1 ∧ r1 < hi) ∧ (lo ≤ r2 ∧ r2 < hi) ∧ S[r1]? = some (.lst (so.map fiD)) ∧ S[r2]? = some (.lst (si.map fiD)) ∧ so.length ≤ 20 ∧ si.length ≤ 20 ∧ (∀ x ∈ so, FiOk n x) ∧ ∀ x ∈ si, FiOk n x
theorem FlOk.b {n lo : Nat} {S : St} {d : D} (h : FlOk n lo S d) : FlB n lo S.length S d := by
  obtain ⟨c, pool, r1, r2, so, si, e, h1, h2, h3, h4, h5⟩ := h
  exact ⟨c, pool, r1, r2, so, si, e, ⟨h1, lt_of_get h3⟩, ⟨h2, lt_of_get h4⟩, h3, h4, h5⟩
theorem FlB.fr {n lo hi : Nat} {S S' : St} {d : D} (h : FlB n lo hi S d) (hl : 3 ≤ lo) (fr : Fr S S') : FlB n lo hi S' d := by
  obtain ⟨c, pool, r1, r2, so, si, e, h1, h2, h3, h4, h5⟩ := h
  exact ⟨c, pool, r1, r2, so, si, e, h1, h2, fr.get (by omega) h3, fr.get (by omega) h4, h5⟩
theorem FlB.set {n lo hi r : Nat} {S : St} {d : D} {o : MO} (h : FlB n lo hi S d) (hr : r < lo ∨ hi ≤ r) : FlB n lo hi (S.set r o) d := by
  obtain ⟨c, pool, r1, r2, so, si, e, h1, h2, h3, h4, h5⟩ := h
  exact ⟨c, pool, r1, r2, so, si, e, h1, h2, get_set (by omega) h3, get_set (by omega) h4, h5⟩
theorem sortD_g {S : St} {α : Type} {f : α → D} {g : α → PyData} (h : ∀ x, toP (f x) = some (g x)) (xs : List α) : sortD S (xs.map f) = (xs.mergeSort (PySem.W.dataLe false g)).map f := by
  unfold sortD
  refine (PySem.W.sort_maps f fun a _ b _ => ?_).symm
  rw [PySem.W.dataLe_eq, PySem.W.dataLe_eq]
  dsimp only
  rw [toPR_of (h a), toPR_of (h b)]
  rfl
theorem b_sortG {n : Nat} {S : St} {α : Type} {f : α → D} {xs : List α} {Q : QD} (g : α → PyData) (h : S[n]? = some (.lst (xs.map f))) (hg : ∀ x, toP (f x) = some (g x)) (ha : ∀ x y, PySem.W.alike (g x) (g y) = true) (ht : ∀ x, ∃ y r, g x = .tuple (y :: r)) (hd : ∀ x, (g x).depth ≤ 60)
    (q : Q (.ref S.length) (S ++ [.lst ((xs.mergeSort (PySem.W.dataLe false g)).map f)])) : bltW .sorted [.ref n] S Q := by
  refine ⟨xs.map f, xs.map g, seqOf_lst h, toPRs_of (toPs_map hg xs), PySem.W.AllAlike.of ha, PySem.W.Sortable.tuples ht, fun p hp => ?_, ?_⟩
  · obtain ⟨a, -, rfl⟩ := List.mem_map.1 hp
    exact hd a
  · rw [sortD_g hg]; exact q
def fiP (x : Fi) : PyData := .tuple [.int x.1, .tuple [.int x.2.1.1, .int x.2.1.2], .int x.2.2]
theorem b_sortF {n : Nat} {S : St} {xs : List Fi} {Q : QD} (h : S[n]? = some (.lst (xs.map fiD))) (q : ∀ ys : List Fi, ys.Perm xs → Q (.ref S.length) (S ++ [.lst (ys.map fiD)])) : bltW .sorted [.ref n] S Q :=
  b_sortG fiP h (fun _ => rfl) (fun a b => by unfold fiP; simp [PySem.W.alike, PySem.W.alikeAll]) (fun _ => ⟨_, _, rfl⟩) (fun x => by unfold fiP; simp [PyData.depth, PyData.depthAll]) (q _ (List.mergeSort_perm ..))
theorem nmR : ∀ j : Fin 4, (("r" : Str).length + ((toString ((j.val : Nat) : Int) : String) : Str).length ≤ 12) ∧ nmOk (("r" : Str) ++ ((toString ((j.val : Nat) : Int) : String) : Str)) := by
  have : ∀ j : Fin 4, (("r" : Str).length + ((toString ((j.val : Nat) : Int) : String) : Str).length ≤ 12) ∧ (("r" : Str) ++ ((toString ((j.val : Nat) : Int) : String) : Str)).length ≤ 12 ∧ SeqAt.shaped (.str (("r" : Str) ++ ((toString ((j.val : Nat) : Int) : String) : Str))) = true := by decide +kernel
  exact this
theorem nmV : ∀ j : Fin 4, (("v" : Str).length + ((toString ((j.val : Nat) : Int) : String) : Str).length ≤ 12) ∧ nmOk (("v" : Str) ++ ((toString ((j.val : Nat) : Int) : String) : Str)) := by
  have : ∀ j : Fin 4, (("v" : Str).length + ((toString ((j.val : Nat) : Int) : String) : Str).length ≤ 12) ∧ (("v" : Str) ++ ((toString ((j.val : Nat) : Int) : String) : Str)).length ≤ 12 ∧ SeqAt.shaped (.str (("v" : Str) ++ ((toString ((j.val : Nat) : Int) : String) : Str))) = true := by decide +kernel
  exact this
theorem mk_at {tk bs : List Int} {i : Nat} (h : i < tk.length) : edF tk bs i ≤ mkF tk bs := by
  have key : ∀ (xs : List Int) (a : Int), ∀ x ∈ xs, x ≤ xs.foldl max a := by
    intro xs
    induction xs with
    | nil => exact fun a x hx => by cases hx
    | cons y ys ih =>
      intro a x hx
      rw [List.foldl_cons]
      rcases List.mem_cons.1 hx with rfl | hx
      · have := foldl_max_ge (max a x) ys; omega
      · exact ih _ x hx
  exact key _ 0 _ (List.mem_map.2 ⟨i, List.mem_range.2 h, rfl⟩)
theorem As.of_mk {p p' : Pr} {ms bs : List Int} (h : As p ms bs) (e : p'.as = p.as) (hm : mkF (tks p ms) bs ≤ p'.dl) : As p' ms bs := by
  have et : ∀ i, md p' ms i = md p ms i := fun i => by unfold md; rw [e]
  refine ⟨⟨by rw [e]; exact h.ml, fun i a ha => h.ok i a (by rw [← e]; exact ha)⟩, by rw [e]; exact h.bl, h.b0, fun i b hb => ?_⟩
  have hi : i < ms.length := by have := (List.getElem?_eq_some_iff.1 hb).1; rw [h.ml, ← h.bl]; exact this
  have := mk_at (tk := tks p ms) (bs := bs) (i := i) (by rw [tks_len]; exact hi)
  unfold edF at this
  rw [hb, tks_get hi] at this
  rw [et]
  simp only [Option.getD_some] at this
  omega
theorem of_mems {α : Type} {f : α → D} {xs : List α} : ∀ {ys : List D}, (∀ d ∈ ys, d ∈ xs.map f) → ∃ zs : List α, ys = zs.map f ∧ ∀ z ∈ zs, z ∈ xs
  | [], _ => ⟨[], rfl, fun _ h => by cases h⟩
  | y :: ys, h => by
    obtain ⟨zs, rfl, h2⟩ := of_mems (ys := ys) fun d hd => h d (List.mem_cons_of_mem _ hd)
    obtain ⟨x, hx, rfl⟩ := List.mem_map.1 (h y (List.mem_cons_self ..))
    exact ⟨x :: zs, rfl, fun z hz => by rcases List.mem_cons.1 hz with rfl | hz; exact hx; exact h2 z hz⟩
theorem all_snoc {α : Type} {P : α → Prop} {xs : List α} {x : α} (h : ∀ y ∈ xs, P y) (hx : P x) : ∀ y ∈ xs ++ [x], P y := fun y hy => by
  rcases List.mem_append.1 hy with hy | hy
  · exact h y hy
  · rw [List.mem_singleton.1 hy]; exact hx
theorem enum_map {α : Type} [Inhabited α] (f : α → D) (xs : List α) : ((List.range (xs.map f).length).zipWith (fun i d => D.tup [.int (i : Nat), d]) (xs.map f)) = (List.range xs.length).map fun i => D.tup [.int (i : Nat), f ((xs[i]?).getD default)] := by
  refine List.ext_getElem? fun i => ?_
  rw [List.getElem?_zipWith, List.length_map, List.getElem?_map, List.getElem?_map]
  by_cases h : i < xs.length
  · rw [List.getElem?_range h]; simp [List.getElem?_eq_getElem h]
  · rw [List.getElem?_eq_none (by rw [List.length_range]; omega), List.getElem?_eq_none (by omega)]; rfl
theorem aGet_in {α : Type} {m : List (Int × α)} {t : Int} {v : α} (h : aGet m t = some v) : (t, v) ∈ m := by
  unfold aGet at h
  cases e : m.find? fun x => decide (x.1 = t) with
  | none => rw [e] at h; cases h
  | some p =>
    rw [e] at h
    have h' : p.2 = v := Option.some.inj h
    have h1 := List.mem_of_find?_eq_some e
    have h2 := List.find?_some e
    have h3 : p.1 = t := by simpa using h2
    obtain ⟨a, b⟩ := p
    dsimp only at h' h3
    subst h' h3
    exact h1
theorem aPut_new {α : Type} {m : List (Int × α)} {t : Int} {v : α} (h : t ∉ m.map (·.1)) : aPut m t v = m ++ [(t, v)] := by
  unfold aPut
  rw [if_neg]
  rw [any_key]; exact h
end Flx

end
set_option Elab.async false
set_option linter.all false
set_option maxRecDepth 100000
set_option autoImplicit false
/-! the defs of the law and of what it calls, printed by gen.py -/
namespace Law
open Flx
abbrev i_time_in : Nat := 0
abbrev i_mode_at : Nat := 1
abbrev i_transfer_lags : Nat := 2
abbrev i_lags_of : Nat := 3
abbrev i_is_wait : Nat := 4
abbrev i_is_due : Nat := 5
abbrev i_is_plain : Nat := 6
abbrev i_time_counting : Nat := 7
abbrev i_has_waited : Nat := 8
abbrev i_eager_starts : Nat := 9
abbrev i__law_tape : Nat := 10
abbrev i__law_draw : Nat := 11
abbrev i__law_pick : Nat := 12
abbrev i__law_shuffled : Nat := 13
abbrev i__law_same : Nat := 14
abbrev i__law_w_takes : Nat := 15
abbrev i__law_w_ends : Nat := 16
abbrev i__law_w_when : Nat := 17
abbrev i__law_w_load : Nat := 18
abbrev i__law_w_used : Nat := 19
abbrev i__law_w_flow : Nat := 20
abbrev i__law_w_stock : Nat := 21
abbrev i__law_hand_lags : Nat := 22
abbrev i__law_game_mode : Nat := 23
abbrev i__law_game_closures : Nat := 24
abbrev i__law_game_flows : Nat := 25
abbrev i__law_game_scheme : Nat := 26
abbrev i__law_d_loose : Nat := 27
abbrev i__law_k43_lag : Nat := 28
abbrev i__law_k43_world : Nat := 29
abbrev i__law_k43_lags : Nat := 30
abbrev i__law_k43_is : Nat := 31
abbrev i__law_k43_plain : Nat := 32
abbrev i__law_k43_over : Nat := 33
abbrev i__law_k43_eager : Nat := 34
abbrev i__law_k43_moment : Nat := 35
abbrev i__law_k43_changed : Nat := 36
abbrev i_law : Nat := 37
def topS (i : Nat) : PySem.Stmt := PySem.Challenge.pw_flexplan_k43_plain_plans_and_eager_start.main.body.getD i (.Pass ⟨0, 0, 0, 0⟩)
/-- time_in -/
def b_time_in : Sms := (.cons (.setT (.cons (.nm 3) (.cons (.nm 4) .nil)) (.var 1)) (.cons (.ite (.cmp .eq (.var 3) (.neg (.cint 1))) (.cons (.ret (.var 4)) .nil) .nil) (.cons (.set 2 (.ix (.var 0) (.var 3))) (.cons (.ite (.cmp .le (.blt .len (.cons (.var 2) .nil)) (.bin .add (.var 4) (.cint 1))) (.cons (.ret .cnon) .nil) .nil) (.cons (.ret (.ix (.var 2) (.bin .add (.var 4) (.cint 1)))) .nil)))))
def f_time_in : FDef := { name := "time_in", np := 2, nn := 5, body := b_time_in }
def p_time_in : PDef := { st := topS 1, ns := ["marks", "event", "mark", "activity", "edge"] }
/-- mode_at -/
def b_mode_at : Sms := (.cons (.ret (.ix (.ix (.ix (.ix (.var 0) (.cint 3)) (.var 2)) (.cint 1)) (.ix (.var 1) (.var 2)))) .nil)
def f_mode_at : FDef := { name := "mode_at", np := 3, nn := 3, body := b_mode_at }
def p_mode_at : PDef := { st := topS 3, ns := ["project", "modes", "activity"] }
/-- transfer_lags -/
def b_transfer_lags : Sms := (.cons (.set 1 (.lst .nil)) (.cons (.for (.tp (.cons (.nm 2) (.cons (.nm 3) (.cons (.nm 4) (.cons (.nm 5) .nil))))) (.seq (.var 0)) (.cons (.ite (.and (.cmp .isnot (.var 3) .cnon) (.cmp .ne (.ix (.var 3) (.cint 0)) (.ix (.var 4) (.cint 0)))) (.cons (.set 6 (.tup (.cons (.var 3) (.cons (.var 4) (.cons (.cint 0) .nil))))) (.cons (.ite (.cmp .notin (.var 6) (.var 1)) (.cons (.ex (.mth .append (.var 1) (.cons (.var 6) .nil))) .nil) .nil) .nil)) .nil) .nil)) (.cons (.ret (.blt .tuple (.cons (.var 1) .nil))) .nil)))
def f_transfer_lags : FDef := { name := "transfer_lags", np := 1, nn := 7, body := b_transfer_lags }
def p_transfer_lags : PDef := { st := topS 5, ns := ["transfers", "found", "condition", "source", "sink", "units", "lag"] }
/-- lags_of -/
def b_lags_of : Sms := (.cons (.ret (.bin .add (.ix (.var 0) (.cint 4)) (.call i_transfer_lags (.cons (.ix (.var 1) (.cint 2)) .nil)))) .nil)
def f_lags_of : FDef := { name := "lags_of", np := 2, nn := 2, body := b_lags_of }
def p_lags_of : PDef := { st := topS 7, ns := ["project", "plan"] }
/-- is_wait -/
def b_is_wait : Sms := (.cons (.setT (.cons (.nm 1) (.cons (.nm 2) (.cons (.nm 3) .nil))) (.var 0)) (.cons (.ret (.and (.cmp .ge (.ix (.var 2) (.cint 0)) (.cint 0)) (.and (.cmp .eq (.ix (.var 2) (.cint 1)) (.cint 0)) (.or (.cmp .ge (.var 3) (.cint 0)) (.cmp .eq (.ix (.var 1) (.cint 0)) (.neg (.cint 1))))))) .nil))
def f_is_wait : FDef := { name := "is_wait", np := 1, nn := 4, body := b_is_wait }
def p_is_wait : PDef := { st := topS 8, ns := ["lag", "first", "second", "least"] }
/-- is_due -/
def b_is_due : Sms := (.cons (.ret (.cmp .eq (.ix (.ix (.var 0) (.cint 1)) (.cint 0)) (.neg (.cint 1)))) .nil)
def f_is_due : FDef := { name := "is_due", np := 1, nn := 1, body := b_is_due }
def p_is_due : PDef := { st := topS 9, ns := ["lag"] }
/-- is_plain -/
def b_is_plain : Sms := (.cons (.ret (.blt .all (.cons (.lc (.or (.call i_is_wait (.cons (.var 2) .nil)) (.call i_is_due (.cons (.var 2) .nil))) (.nm 2) (.seq (.call i_lags_of (.cons (.var 0) (.cons (.var 1) .nil)))) .nil [2]) .nil))) .nil)
def f_is_plain : FDef := { name := "is_plain", np := 2, nn := 3, body := b_is_plain }
def p_is_plain : PDef := { st := topS 10, ns := ["project", "plan", "lag"] }
/-- time_counting -/
def b_time_counting : Sms := (.cons (.setT (.cons (.nm 5) (.cons (.nm 6) .nil)) (.var 1)) (.cons (.setT (.cons (.nm 7) (.cons (.nm 8) .nil)) (.var 4)) (.cons (.ite (.and (.cmp .isin (.var 7) (.var 3)) (.or (.cmp .eq (.var 8) (.cint 0)) (.cmp .eq (.ix (.call i_mode_at (.cons (.var 0) (.cons (.ix (.var 2) (.cint 0)) (.cons (.var 7) .nil)))) (.cint 0)) (.cint 0)))) (.cons (.ret (.var 5)) .nil) .nil) (.cons (.ret (.call i_time_in (.cons (.var 6) (.cons (.var 4) .nil)))) .nil))))
def f_time_counting : FDef := { name := "time_counting", np := 5, nn := 9, body := b_time_counting }
def p_time_counting : PDef := { st := topS 11, ns := ["project", "moment", "plan", "ready", "event", "now", "marks", "activity", "edge"] }
/-- has_waited -/
def b_has_waited : Sms := (.cons (.for (.tp (.cons (.nm 5) (.cons (.nm 6) (.cons (.nm 7) .nil)))) (.seq (.var 4)) (.cons (.set 8 (.call i_time_counting (.cons (.var 0) (.cons (.var 1) (.cons (.var 2) (.cons (.var 3) (.cons (.var 5) .nil))))))) (.cons (.ite (.or (.cmp .is (.var 8) .cnon) (.cmp .lt (.bin .sub (.ix (.var 1) (.cint 0)) (.var 8)) (.var 7))) (.cons (.ret (.cbl false)) .nil) .nil) .nil))) (.cons (.ret (.cbl true)) .nil))
def f_has_waited : FDef := { name := "has_waited", np := 5, nn := 9, body := b_has_waited }
def p_has_waited : PDef := { st := topS 12, ns := ["project", "moment", "plan", "ready", "waits", "first", "_", "least", "time"] }
/-- eager_starts -/
def b_eager_starts : Sms := (.cons (.set 3 (.lc (.var 7) (.tp (.cons (.nm 7) (.cons (.nm 9) .nil))) (.enm (.ix (.var 1) (.cint 1))) (.cons (.cmp .eq (.var 9) (.tup .nil)) .nil) [7, 9])) (.cons (.set 4 (.dcm (.var 7) (.lst .nil) (.nm 7) (.seq (.var 3)) [7])) (.cons (.for (.nm 5) (.seq (.call i_lags_of (.cons (.var 0) (.cons (.var 2) .nil)))) (.cons (.setT (.cons (.nm 7) (.cons (.nm 8) .nil)) (.ix (.var 5) (.cint 1))) (.cons (.ite (.and (.cmp .eq (.var 8) (.cint 0)) (.and (.din false (.var 7) (.var 4)) (.call i_is_wait (.cons (.var 5) .nil)))) (.cons (.ex (.mth .append (.dix (.var 4) (.var 7)) (.cons (.var 5) .nil))) .nil) .nil) .nil))) (.cons (.set 6 .cnon) (.cons (.whl (.cmp .ne (.var 6) (.blt .len (.cons (.var 3) .nil))) (.cons (.set 6 (.blt .len (.cons (.var 3) .nil))) (.cons (.set 3 (.lc (.var 7) (.nm 7) (.seq (.var 3)) (.cons (.call i_has_waited (.cons (.var 0) (.cons (.var 1) (.cons (.var 2) (.cons (.var 3) (.cons (.dix (.var 4) (.var 7)) .nil)))))) .nil) [7])) .nil))) (.cons (.ret (.blt .tuple (.cons (.lc (.tup (.cons (.var 7) (.cons (.ix (.ix (.var 2) (.cint 0)) (.var 7)) .nil))) (.nm 7) (.seq (.var 3)) .nil [7]) .nil))) .nil))))))
def f_eager_starts : FDef := { name := "eager_starts", np := 3, nn := 10, body := b_eager_starts }
def p_eager_starts : PDef := { st := topS 13, ns := ["project", "moment", "plan", "ready", "waits", "lag", "many", "activity", "edge", "mark"] }
/-- _law_tape -/
def b__law_tape : Sms := (.cons (.set 1 (.cint 7)) (.cons (.for (.nm 2) (.seq (.var 0)) (.cons (.set 1 (.bin .mod (.blt .int (.cons (.bin .add (.bin .mul (.var 1) (.cint 31)) (.blt .abs (.cons (.blt .int (.cons (.var 2) .nil)) .nil))) .nil)) (.cint 2147483647))) .nil)) (.cons (.ret (.lst (.cons (.blt .list (.cons (.var 0) .nil)) (.cons (.cint 0) (.cons (.cint 0) (.cons (.var 1) .nil)))))) .nil)))
def f__law_tape : FDef := { name := "_law_tape", np := 1, nn := 3, body := b__law_tape }
def p__law_tape : PDef := { st := topS 15, ns := ["script", "mixed", "cell"] }
/-- _law_draw -/
def b__law_draw : Sms := (.cons (.ite (.cmp .eq (.ix (.var 0) (.cint 2)) (.cint 0)) (.cons (.set 3 (.ix (.var 0) (.cint 1))) (.cons (.set 2 (.cint 0)) (.cons (.ite (.cmp .lt (.var 3) (.blt .len (.cons (.ix (.var 0) (.cint 0)) .nil))) (.cons (.set 2 (.blt .abs (.cons (.blt .int (.cons (.ix (.ix (.var 0) (.cint 0)) (.var 3)) .nil)) .nil))) .nil) (.cons (.setIx (.var 0) (.cint 3) (.bin .mod (.blt .int (.cons (.bin .add (.bin .add (.bin .mul (.ix (.var 0) (.cint 3)) (.cint 48271)) (.var 3)) (.cint 1)) .nil)) (.cint 2147483647))) (.cons (.set 2 (.ix (.var 0) (.cint 3))) .nil))) (.cons (.setIx (.var 0) (.cint 1) (.bin .add (.var 3) (.cint 1))) (.cons (.ite (.cmp .lt (.var 2) (.bin .pow (.cint 10) (.cint 18))) (.cons (.set 2 (.bin .mod (.blt .int (.cons (.bin .add (.bin .add (.bin .mul (.var 2) (.cint 48271)) (.bin .mul (.var 3) (.cint 69621))) (.cint 5)) .nil)) (.cint 2147483647))) (.cons (.set 2 (.bin .mod (.blt .int (.cons (.bin .mul (.var 2) (.cint 69621)) .nil)) (.cint 2147483629))) (.cons (.ret (.bin .mod (.blt .int (.cons (.var 2) .nil)) (.blt .max (.cons (.var 1) (.cons (.cint 1) .nil))))) .nil))) .nil) (.cons (.setIx (.var 0) (.cint 2) (.var 2)) .nil)))))) .nil) (.cons (.set 2 (.ix (.var 0) (.cint 2))) (.cons (.setIx (.var 0) (.cint 2) (.bin .fdiv (.var 2) (.blt .max (.cons (.var 1) (.cons (.cint 2) .nil))))) (.cons (.ret (.bin .mod (.blt .int (.cons (.var 2) .nil)) (.blt .max (.cons (.var 1) (.cons (.cint 1) .nil))))) .nil))))
def f__law_draw : FDef := { name := "_law_draw", np := 2, nn := 4, body := b__law_draw }
def p__law_draw : PDef := { st := topS 16, ns := ["tape", "many", "number", "place"] }
/-- _law_pick -/
def b__law_pick : Sms := (.cons (.ret (.ix (.var 1) (.call i__law_draw (.cons (.var 0) (.cons (.blt .len (.cons (.var 1) .nil)) .nil))))) .nil)
def f__law_pick : FDef := { name := "_law_pick", np := 2, nn := 2, body := b__law_pick }
def p__law_pick : PDef := { st := topS 17, ns := ["tape", "menu"] }
/-- _law_shuffled -/
def b__law_shuffled : Sms := (.cons (.set 2 (.blt .list (.cons (.var 1) .nil))) (.cons (.set 3 (.lst .nil)) (.cons (.for (.nm 4) (.rng (.cons (.blt .len (.cons (.var 1) .nil)) .nil)) (.cons (.ex (.mth .append (.var 3) (.cons (.mth .pop (.var 2) (.cons (.call i__law_draw (.cons (.var 0) (.cons (.blt .len (.cons (.var 2) .nil)) .nil))) .nil)) .nil))) .nil)) (.cons (.ret (.var 3)) .nil))))
def f__law_shuffled : FDef := { name := "_law_shuffled", np := 2, nn := 5, body := b__law_shuffled }
def p__law_shuffled : PDef := { st := topS 18, ns := ["tape", "menu", "left", "turned", "k"] }
/-- _law_same -/
def b__law_same : Sms := (.cons (.ite (.isi (.var 1) .tuple) (.cons (.ite (.or (.not (.isi (.var 0) .tuple)) (.cmp .ne (.blt .len (.cons (.var 0) .nil)) (.blt .len (.cons (.var 1) .nil)))) (.cons (.ret (.cbl false)) .nil) .nil) (.cons (.for (.nm 2) (.rng (.cons (.blt .len (.cons (.var 1) .nil)) .nil)) (.cons (.ite (.not (.call i__law_same (.cons (.ix (.var 0) (.var 2)) (.cons (.ix (.var 1) (.var 2)) .nil)))) (.cons (.ret (.cbl false)) .nil) .nil) .nil)) (.cons (.ret (.cbl true)) .nil))) .nil) (.cons (.ite (.or (.cmp .is (.var 1) .cnon) (.cmp .is (.var 0) .cnon)) (.cons (.ret (.and (.cmp .is (.var 1) .cnon) (.cmp .is (.var 0) .cnon))) .nil) .nil) (.cons (.ite (.isi (.var 1) .str) (.cons (.ret (.and (.isi (.var 0) .str) (.cmp .eq (.var 0) (.var 1)))) .nil) .nil) (.cons (.ite (.or (.cmp .ne (.isi (.var 0) .bool) (.isi (.var 1) .bool)) (.not (.isi (.var 0) .int))) (.cons (.ret (.cbl false)) .nil) .nil) (.cons (.ret (.cmp .eq (.var 0) (.var 1))) .nil)))))
def f__law_same : FDef := { name := "_law_same", np := 2, nn := 3, body := b__law_same }
def p__law_same : PDef := { st := topS 19, ns := ["told", "wanted", "k"] }
/-- _law_w_takes -/
def b__law_w_takes : Sms := (.cons (.ret (.blt .tuple (.cons (.lc (.ix (.ix (.ix (.ix (.ix (.var 0) (.cint 3)) (.var 2)) (.cint 1)) (.ix (.var 1) (.var 2))) (.cint 0)) (.nm 2) (.rng (.cons (.blt .len (.cons (.var 1) .nil)) .nil)) .nil [2]) .nil))) .nil)
def f__law_w_takes : FDef := { name := "_law_w_takes", np := 2, nn := 3, body := b__law_w_takes }
def p__law_w_takes : PDef := { st := topS 20, ns := ["project", "modes", "i"] }
/-- _law_w_ends -/
def b__law_w_ends : Sms := (.cons (.ret (.blt .max (.cons (.bin .add (.lst (.cons (.cint 0) .nil)) (.lc (.bin .add (.ix (.var 1) (.var 2)) (.ix (.var 0) (.var 2))) (.nm 2) (.rng (.cons (.blt .len (.cons (.var 0) .nil)) .nil)) .nil [2])) .nil))) .nil)
def f__law_w_ends : FDef := { name := "_law_w_ends", np := 2, nn := 3, body := b__law_w_ends }
def p__law_w_ends : PDef := { st := topS 21, ns := ["takes", "begins", "i"] }
/-- _law_w_when -/
def b__law_w_when : Sms := (.cons (.ite (.cmp .lt (.ix (.var 2) (.cint 0)) (.cint 0)) (.cons (.ret (.ix (.var 2) (.cint 1))) .nil) .nil) (.cons (.ret (.bin .add (.ix (.var 1) (.ix (.var 2) (.cint 0))) (.bin .mul (.ix (.var 0) (.ix (.var 2) (.cint 0))) (.ix (.var 2) (.cint 1))))) .nil))
def f__law_w_when : FDef := { name := "_law_w_when", np := 3, nn := 3, body := b__law_w_when }
def p__law_w_when : PDef := { st := topS 22, ns := ["takes", "begins", "event"] }
/-- _law_w_load -/
def b__law_w_load : Sms := (.cons (.set 5 (.lc (.tup (.cons (.ix (.var 3) (.var 6)) (.cons (.bin .add (.ix (.var 3) (.var 6)) (.ix (.var 2) (.var 6))) (.cons (.ix (.ix (.ix (.ix (.ix (.ix (.var 0) (.cint 3)) (.var 6)) (.cint 1)) (.ix (.var 1) (.var 6))) (.cint 1)) (.var 4)) .nil)))) (.nm 6) (.rng (.cons (.blt .len (.cons (.var 1) .nil)) .nil)) .nil [6])) (.cons (.ret (.bin .add (.var 5) (.blt .list (.cons (.ix (.ix (.ix (.var 0) (.cint 1)) (.var 4)) (.cint 2)) .nil)))) .nil))
def f__law_w_load : FDef := { name := "_law_w_load", np := 5, nn := 7, body := b__law_w_load }
def p__law_w_load : PDef := { st := topS 23, ns := ["project", "modes", "takes", "begins", "r", "rows", "i"] }
/-- _law_w_used -/
def b__law_w_used : Sms := (.cons (.ret (.blt .sum (.cons (.lc (.ix (.var 2) (.cint 2)) (.nm 2) (.seq (.var 0)) (.cons (.cmp2 .le .lt (.ix (.var 2) (.cint 0)) (.var 1) (.ix (.var 2) (.cint 1))) .nil) [2]) .nil))) .nil)
def f__law_w_used : FDef := { name := "_law_w_used", np := 2, nn := 3, body := b__law_w_used }
def p__law_w_used : PDef := { st := topS 24, ns := ["rows", "at", "row"] }
/-- _law_w_flow -/
def b__law_w_flow : Sms := (.cons (.set 5 (.lc (.ix (.ix (.ix (.ix (.ix (.ix (.var 0) (.cint 3)) (.var 6)) (.cint 1)) (.ix (.var 1) (.var 6))) (.cint 2)) (.var 4)) (.nm 6) (.rng (.cons (.blt .len (.cons (.var 1) .nil)) .nil)) .nil [6])) (.cons (.ret (.lc (.tup (.cons (.bin .add (.ix (.var 3) (.var 6)) (.bin .mul (.ix (.var 2) (.var 6)) (.ix (.ix (.var 5) (.var 6)) (.cint 0)))) (.cons (.ix (.ix (.var 5) (.var 6)) (.cint 1)) .nil))) (.nm 6) (.rng (.cons (.blt .len (.cons (.var 1) .nil)) .nil)) .nil [6])) .nil))
def f__law_w_flow : FDef := { name := "_law_w_flow", np := 5, nn := 7, body := b__law_w_flow }
def p__law_w_flow : PDef := { st := topS 25, ns := ["project", "modes", "takes", "begins", "v", "changes", "i"] }
/-- _law_w_stock -/
def b__law_w_stock : Sms := (.cons (.ret (.bin .add (.ix (.ix (.ix (.var 0) (.cint 2)) (.var 1)) (.cint 1)) (.blt .sum (.cons (.lc (.ix (.var 4) (.cint 1)) (.nm 4) (.seq (.var 2)) (.cons (.cmp .le (.ix (.var 4) (.cint 0)) (.var 3)) .nil) [4]) .nil)))) .nil)
def f__law_w_stock : FDef := { name := "_law_w_stock", np := 4, nn := 5, body := b__law_w_stock }
def p__law_w_stock : PDef := { st := topS 26, ns := ["project", "v", "rows", "at", "row"] }
/-- _law_hand_lags -/
def b__law_hand_lags : Sms := (.cons (.set 1 (.lst .nil)) (.cons (.for (.tp (.cons (.nm 2) (.cons (.nm 3) (.cons (.nm 4) (.cons (.nm 5) .nil))))) (.seq (.var 0)) (.cons (.ite (.and (.cmp .isnot (.var 3) .cnon) (.and (.cmp .ne (.ix (.var 3) (.cint 0)) (.ix (.var 4) (.cint 0))) (.cmp .notin (.tup (.cons (.var 3) (.cons (.var 4) (.cons (.cint 0) .nil)))) (.var 1)))) (.cons (.ex (.mth .append (.var 1) (.cons (.tup (.cons (.var 3) (.cons (.var 4) (.cons (.cint 0) .nil)))) .nil))) .nil) .nil) .nil)) (.cons (.ret (.blt .tuple (.cons (.var 1) .nil))) .nil)))
def f__law_hand_lags : FDef := { name := "_law_hand_lags", np := 1, nn := 6, body := b__law_hand_lags }
def p__law_hand_lags : PDef := { st := topS 27, ns := ["handed", "told", "condition", "source", "sink", "units"] }
/-- _law_game_mode -/
def b__law_game_mode : Sms := (.cons (.set 4 (.cmp .eq (.call i__law_draw (.cons (.var 0) (.cons (.cint 12) .nil))) (.cint 0))) (.cons (.set 5 (.lc (.bin .mul (.call i__law_pick (.cons (.var 0) (.cons (.ite (.not (.var 4)) (.lst (.cons (.cint 0) (.cons (.cint 1) (.cons (.cint 1) (.cons (.cint 1) (.cons (.cint 2) (.cons (.cint 3) .nil))))))) (.lst (.cons (.bin .add (.cint 1) (.call i__law_draw (.cons (.var 0) (.cons (.cint 9) .nil)))) .nil))) .nil))) (.blt .min (.cons (.var 1) (.cons (.cint 1) .nil)))) (.nm 8) (.rng (.cons (.var 2) .nil)) .nil [8])) (.cons (.set 6 (.lc (.call i__law_pick (.cons (.var 0) (.cons (.ite (.not (.var 4)) (.lst (.cons (.cint 0) (.cons (.cint 0) (.cons (.cint 1) (.cons (.neg (.cint 1)) (.cons (.cint 2) (.cons (.neg (.cint 2)) (.cons (.neg (.cint 3)) .nil)))))))) (.lst (.cons (.bin .sub (.call i__law_draw (.cons (.var 0) (.cons (.cint 19) .nil))) (.cint 9)) .nil))) .nil))) (.nm 9) (.rng (.cons (.var 3) .nil)) .nil [9])) (.cons (.set 7 (.lc (.tup (.cons (.bin .mul (.call i__law_draw (.cons (.var 0) (.cons (.cint 2) .nil))) (.blt .min (.cons (.blt .abs (.cons (.var 10) .nil)) (.cons (.cint 1) .nil)))) (.cons (.var 10) .nil))) (.nm 10) (.seq (.var 6)) .nil [10])) (.cons (.ret (.tup (.cons (.var 1) (.cons (.blt .tuple (.cons (.var 5) .nil)) (.cons (.blt .tuple (.cons (.var 7) .nil)) (.cons (.call i__law_draw (.cons (.var 0) (.cons (.cint 100) .nil))) .nil)))))) .nil)))))
def f__law_game_mode : FDef := { name := "_law_game_mode", np := 4, nn := 11, body := b__law_game_mode }
def p__law_game_mode : PDef := { st := topS 28, ns := ["tape", "took", "many", "goods", "wild", "units", "amounts", "changes", "r", "v", "amount"] }
/-- _law_game_closures -/
def b__law_game_closures : Sms := (.cons (.set 3 (.lst .nil)) (.cons (.for (.nm 4) (.rng (.cons (.call i__law_pick (.cons (.var 0) (.cons (.lst (.cons (.cint 0) (.cons (.cint 0) (.cons (.cint 0) (.cons (.cint 0) (.cons (.cint 1) (.cons (.cint 1) (.cons (.cint 2) (.cons (.cint 3) .nil))))))))) .nil))) .nil)) (.cons (.set 5 (.blt .min (.cons (.blt .max (.cons (.cint 0) (.cons (.bin .add (.var 1) (.call i__law_draw (.cons (.var 0) (.cons (.bin .add (.var 2) (.cint 1)) .nil)))) .nil))) (.cons (.cint 29) .nil)))) (.cons (.ex (.mth .append (.var 3) (.cons (.tup (.cons (.var 5) (.cons (.blt .min (.cons (.cint 30) (.cons (.bin .add (.bin .add (.var 5) (.cint 1)) (.call i__law_draw (.cons (.var 0) (.cons (.cint 3) .nil)))) .nil))) (.cons (.bin .add (.cint 1) (.call i__law_draw (.cons (.var 0) (.cons (.cint 2) .nil)))) .nil)))) .nil))) .nil))) (.cons (.ret (.blt .tuple (.cons (.var 3) .nil))) .nil)))
def f__law_game_closures : FDef := { name := "_law_game_closures", np := 3, nn := 6, body := b__law_game_closures }
def p__law_game_closures : PDef := { st := topS 29, ns := ["tape", "now", "rest", "closures", "k", "begin"] }
/-- _law_game_flows -/
def b__law_game_flows : Sms := (.cons (.set 4 (.blt .len (.cons (.var 1) .nil))) (.cons (.set 5 (.lst .nil)) (.cons (.for (.nm 6) (.rng (.cons (.blt .len (.cons (.ix (.var 0) (.cint 1)) .nil)) .nil)) (.cons (.set 8 (.lc (.ix (.ix (.ix (.ix (.ix (.ix (.var 0) (.cint 3)) (.var 16)) (.cint 1)) (.ix (.var 1) (.var 16))) (.cint 1)) (.var 6)) (.nm 16) (.rng (.cons (.var 4) .nil)) .nil [16])) (.cons (.set 9 (.lc (.tup (.cons (.bin .add (.ix (.var 3) (.var 16)) (.ix (.var 2) (.var 16))) (.cons (.tup (.cons (.var 16) (.cons (.cint 1) .nil))) (.cons (.ix (.var 8) (.var 16)) .nil)))) (.nm 16) (.rng (.cons (.var 4) .nil)) (.cons (.cmp .gt (.ix (.var 8) (.var 16)) (.cint 0)) .nil) [16])) (.cons (.set 10 (.lc (.tup (.cons (.ix (.var 3) (.var 16)) (.cons (.tup (.cons (.var 16) (.cons (.cint 0) .nil))) (.cons (.ix (.var 8) (.var 16)) .nil)))) (.nm 16) (.rng (.cons (.var 4) .nil)) (.cons (.cmp .gt (.ix (.var 8) (.var 16)) (.cint 0)) .nil) [16])) (.cons (.set 9 (.bin .add (.var 9) (.lc (.tup (.cons (.ix (.var 18) (.cint 1)) (.cons (.tup (.cons (.neg (.cint 1)) (.cons (.ix (.var 18) (.cint 1)) .nil))) (.cons (.ix (.var 18) (.cint 2)) .nil)))) (.nm 18) (.seq (.ix (.ix (.ix (.var 0) (.cint 1)) (.var 6)) (.cint 2))) .nil [18]))) (.cons (.ex (.mth .append (.var 5) (.cons (.tup (.cons (.tup (.cons (.cstr "capacity") (.cons (.var 6) .nil))) (.cons (.ix (.ix (.ix (.var 0) (.cint 1)) (.var 6)) (.cint 1)) (.cons (.var 9) (.cons (.bin .add (.var 10) (.lc (.tup (.cons (.ix (.var 18) (.cint 0)) (.cons (.tup (.cons (.neg (.cint 1)) (.cons (.ix (.var 18) (.cint 0)) .nil))) (.cons (.ix (.var 18) (.cint 2)) .nil)))) (.nm 18) (.seq (.ix (.ix (.ix (.var 0) (.cint 1)) (.var 6)) (.cint 2))) .nil [18])) .nil))))) .nil))) .nil)))))) (.cons (.for (.nm 7) (.rng (.cons (.blt .len (.cons (.ix (.var 0) (.cint 2)) .nil)) .nil)) (.cons (.set 11 (.lc (.ix (.ix (.ix (.ix (.ix (.ix (.var 0) (.cint 3)) (.var 16)) (.cint 1)) (.ix (.var 1) (.var 16))) (.cint 2)) (.var 7)) (.nm 16) (.rng (.cons (.var 4) .nil)) .nil [16])) (.cons (.set 12 (.lc (.tup (.cons (.bin .add (.ix (.var 3) (.var 16)) (.bin .mul (.ix (.var 2) (.var 16)) (.ix (.ix (.var 11) (.var 16)) (.cint 0)))) (.cons (.tup (.cons (.var 16) (.cons (.ix (.ix (.var 11) (.var 16)) (.cint 0)) .nil))) (.cons (.ix (.ix (.var 11) (.var 16)) (.cint 1)) .nil)))) (.nm 16) (.rng (.cons (.var 4) .nil)) .nil [16])) (.cons (.for (.tp (.cons (.nm 13) (.cons (.nm 14) .nil))) (.seq (.lst (.cons (.tup (.cons (.cstr "least") (.cons (.cint 1) .nil))) (.cons (.tup (.cons (.cstr "most") (.cons (.neg (.cint 1)) .nil))) .nil)))) (.cons (.set 15 (.ix (.ix (.ix (.var 0) (.cint 2)) (.var 7)) (.bin .add (.cint 2) (.blt .int (.cons (.cmp .eq (.var 13) (.cstr "most")) .nil))))) (.cons (.ite (.cmp .isnot (.var 15) .cnon) (.cons (.set 17 (.bin .mul (.var 14) (.bin .sub (.ix (.ix (.ix (.var 0) (.cint 2)) (.var 7)) (.cint 1)) (.var 15)))) (.cons (.set 9 (.lc (.tup (.cons (.var 19) (.cons (.var 20) (.cons (.bin .mul (.var 14) (.var 21)) .nil)))) (.tp (.cons (.nm 19) (.cons (.nm 20) (.cons (.nm 21) .nil)))) (.seq (.var 12)) (.cons (.cmp .gt (.bin .mul (.var 14) (.var 21)) (.cint 0)) .nil) [19, 20, 21])) (.cons (.set 10 (.lc (.tup (.cons (.var 19) (.cons (.var 20) (.cons (.bin .mul (.neg (.var 14)) (.var 21)) .nil)))) (.tp (.cons (.nm 19) (.cons (.nm 20) (.cons (.nm 21) .nil)))) (.seq (.var 12)) (.cons (.cmp .lt (.bin .mul (.var 14) (.var 21)) (.cint 0)) .nil) [19, 20, 21])) (.cons (.ex (.mth .append (.var 5) (.cons (.tup (.cons (.tup (.cons (.var 13) (.cons (.var 7) .nil))) (.cons (.blt .max (.cons (.var 17) (.cons (.cint 0) .nil))) (.cons (.var 9) (.cons (.bin .add (.bin .mul (.lst (.cons (.tup (.cons (.cint 0) (.cons (.tup (.cons (.neg (.cint 1)) (.cons (.cint 0) .nil))) (.cons (.neg (.var 17)) .nil)))) .nil)) (.blt .int (.cons (.cmp .lt (.var 17) (.cint 0)) .nil))) (.var 10)) .nil))))) .nil))) .nil)))) .nil) .nil))) .nil)))) (.cons (.ret (.var 5)) .nil)))))
def f__law_game_flows : FDef := { name := "_law_game_flows", np := 4, nn := 22, body := b__law_game_flows }
def p__law_game_flows : PDef := { st := topS 30, ns := ["project", "modes", "takes", "begins", "count", "told", "r", "v", "units", "sources", "sinks", "changes", "flow", "word", "side", "bound", "i", "pool", "row", "at", "event", "amount"] }
/-- _law_game_scheme -/
def b__law_game_scheme : Sms := (.cons (.ite (.cmp .eq (.var 2) (.lst .nil)) (.cons (.ret .cnon) .nil) .nil) (.cons (.setT (.cons (.nm 7) (.cons (.nm 8) .nil)) (.call i__law_pick (.cons (.var 0) (.cons (.var 2) .nil)))) (.cons (.set 3 (.call i__law_w_takes (.cons (.var 1) (.cons (.var 7) .nil)))) (.cons (.set 4 (.lst .nil)) (.cons (.for (.tp (.cons (.nm 9) (.cons (.nm 10) (.cons (.nm 11) (.cons (.nm 12) .nil))))) (.seq (.call i__law_game_flows (.cons (.var 1) (.cons (.var 7) (.cons (.var 3) (.cons (.var 8) .nil)))))) (.cons (.set 13 (.call i__law_shuffled (.cons (.var 0) (.cons (.bin .add (.lst (.cons (.tup (.cons (.neg (.cint 1)) (.cons .cnon (.cons (.var 10) .nil)))) .nil)) (.var 11)) .nil)))) (.cons (.set 14 (.lc (.ix (.var 21) (.cint 2)) (.nm 21) (.seq (.var 13)) .nil [21])) (.cons (.for (.tp (.cons (.nm 17) (.cons (.nm 18) (.cons (.nm 19) .nil)))) (.seq (.blt .sorted (.cons (.var 12) .nil))) (.cons (.for (.nm 20) (.rng (.cons (.blt .len (.cons (.var 13) .nil)) .nil)) (.cons (.set 22 (.bin .mul (.blt .min (.cons (.var 19) (.cons (.ix (.var 14) (.var 20)) .nil))) (.blt .int (.cons (.cmp .le (.ix (.ix (.var 13) (.var 20)) (.cint 0)) (.var 17)) .nil)))) (.cons (.ite (.cmp .gt (.var 22) (.cint 0)) (.cons (.ex (.mth .append (.var 4) (.cons (.tup (.cons (.var 9) (.cons (.ix (.ix (.var 13) (.var 20)) (.cint 1)) (.cons (.var 18) (.cons (.var 22) .nil))))) .nil))) (.cons (.setIx (.var 14) (.var 20) (.bin .sub (.ix (.var 14) (.var 20)) (.var 22))) (.cons (.set 19 (.bin .sub (.var 19) (.var 22))) .nil))) .nil) .nil))) .nil)) .nil)))) (.cons (.set 5 (.lst .nil)) (.cons (.for (.nm 6) (.seq (.var 4)) (.cons (.ite (.and (.cmp .isnot (.ix (.var 6) (.cint 1)) .cnon) (.and (.cmp .ne (.ix (.ix (.var 6) (.cint 1)) (.cint 0)) (.ix (.ix (.var 6) (.cint 2)) (.cint 0))) (.cmp .notin (.tup (.cons (.ix (.var 6) (.cint 1)) (.cons (.ix (.var 6) (.cint 2)) (.cons (.cint 0) .nil)))) (.var 5)))) (.cons (.ex (.mth .append (.var 5) (.cons (.tup (.cons (.ix (.var 6) (.cint 1)) (.cons (.ix (.var 6) (.cint 2)) (.cons (.cint 0) .nil)))) .nil))) .nil) .nil) .nil)) (.cons (.ite (.and (.cmp .gt (.blt .len (.cons (.var 7) .nil)) (.cint 1)) (.cmp .eq (.call i__law_draw (.cons (.var 0) (.cons (.cint 3) .nil))) (.cint 0))) (.cons (.set 15 (.call i__law_draw (.cons (.var 0) (.cons (.blt .len (.cons (.var 7) .nil)) .nil)))) (.cons (.set 16 (.tup (.cons (.tup (.cons (.var 15) (.cons (.call i__law_draw (.cons (.var 0) (.cons (.cint 2) .nil))) .nil))) (.cons (.tup (.cons (.bin .mod (.blt .int (.cons (.bin .add (.bin .add (.var 15) (.cint 1)) (.call i__law_draw (.cons (.var 0) (.cons (.bin .sub (.blt .len (.cons (.var 7) .nil)) (.cint 1)) .nil)))) .nil)) (.blt .len (.cons (.var 7) .nil))) (.cons (.call i__law_draw (.cons (.var 0) (.cons (.cint 2) .nil))) .nil))) .nil)))) (.cons (.ex (.mth .append (.var 5) (.cons (.bin .add (.var 16) (.tup (.cons (.bin .sub (.call i__law_w_when (.cons (.var 3) (.cons (.var 8) (.cons (.ix (.var 16) (.cint 1)) .nil)))) (.call i__law_w_when (.cons (.var 3) (.cons (.var 8) (.cons (.ix (.var 16) (.cint 0)) .nil))))) .nil))) .nil))) .nil))) .nil) (.cons (.ite (.or (.cmp .gt (.blt .len (.cons (.var 5) .nil)) (.cint 24)) (.cmp .gt (.blt .len (.cons (.var 4) .nil)) (.cint 60))) (.cons (.ret .cnon) .nil) .nil) (.cons (.ret (.tup (.cons (.var 7) (.cons (.blt .tuple (.cons (.call i__law_shuffled (.cons (.var 0) (.cons (.var 5) .nil))) .nil)) (.cons (.blt .tuple (.cons (.call i__law_shuffled (.cons (.var 0) (.cons (.var 4) .nil))) .nil)) .nil))))) .nil))))))))))
def f__law_game_scheme : FDef := { name := "_law_game_scheme", np := 3, nn := 23, body := b__law_game_scheme }
def p__law_game_scheme : PDef := { st := topS 31, ns := ["tape", "project", "found", "takes", "handed", "lags", "row", "modes", "begins", "condition", "pool", "sources", "sinks", "givers", "left", "i", "pair", "at", "sink", "lack", "k", "giver", "amount"] }
/-- _law_d_loose -/
def b__law_d_loose : Sms := (.cons (.set 3 (.call i__law_w_takes (.cons (.var 0) (.cons (.var 1) .nil)))) (.cons (.set 4 (.lst .nil)) (.cons (.for (.nm 5) (.rng (.cons (.blt .len (.cons (.ix (.var 0) (.cint 1)) .nil)) .nil)) (.cons (.set 8 (.call i__law_w_load (.cons (.var 0) (.cons (.var 1) (.cons (.var 3) (.cons (.var 2) (.cons (.var 5) .nil))))))) (.cons (.ex (.mth .append (.var 4) (.cons (.tup (.cons (.ix (.ix (.ix (.var 0) (.cint 1)) (.var 5)) (.cint 0)) (.cons (.blt .max (.cons (.bin .add (.lst (.cons (.cint 0) .nil)) (.lc (.call i__law_w_used (.cons (.var 8) (.cons (.ix (.var 11) (.cint 0)) .nil))) (.nm 11) (.seq (.var 8)) .nil [11])) .nil)) (.cons (.ix (.ix (.ix (.var 0) (.cint 1)) (.var 5)) (.cint 2)) .nil)))) .nil))) .nil))) (.cons (.set 6 (.lst .nil)) (.cons (.for (.nm 7) (.rng (.cons (.blt .len (.cons (.ix (.var 0) (.cint 2)) .nil)) .nil)) (.cons (.set 8 (.call i__law_w_flow (.cons (.var 0) (.cons (.var 1) (.cons (.var 3) (.cons (.var 2) (.cons (.var 7) .nil))))))) (.cons (.set 9 (.lc (.call i__law_w_stock (.cons (.var 0) (.cons (.var 7) (.cons (.var 8) (.cons (.var 10) .nil))))) (.nm 10) (.seq (.bin .add (.lst (.cons (.cint 0) .nil)) (.lc (.ix (.var 11) (.cint 0)) (.nm 11) (.seq (.var 8)) .nil [11]))) .nil [10])) (.cons (.ex (.mth .append (.var 6) (.cons (.bin .add (.sl (.ix (.ix (.var 0) (.cint 2)) (.var 7)) .none (.some (.cint 2))) (.tup (.cons (.blt .min (.cons (.var 9) .nil)) (.cons (.blt .max (.cons (.var 9) .nil)) .nil)))) .nil))) .nil)))) (.cons (.ite (.or (.cmp .gt (.blt .max (.cons (.bin .add (.lst (.cons (.cint 0) (.cons (.bin .sub (.call i__law_w_ends (.cons (.var 3) (.cons (.var 2) .nil))) (.cint 21)) .nil))) (.lc (.ix (.var 11) (.cint 1)) (.nm 11) (.seq (.var 4)) .nil [11])) .nil)) (.cint 9)) (.cmp .gt (.blt .max (.cons (.bin .add (.lst (.cons (.cint 0) .nil)) (.lc (.blt .max (.cons (.neg (.ix (.var 11) (.cint 2))) (.cons (.ix (.var 11) (.cint 3)) .nil))) (.nm 11) (.seq (.var 6)) .nil [11])) .nil)) (.cint 20))) (.cons (.ret .cnon) .nil) .nil) (.cons (.ret (.tup (.cons (.cint 30) (.cons (.blt .tuple (.cons (.var 4) .nil)) (.cons (.blt .tuple (.cons (.var 6) .nil)) (.cons (.ix (.var 0) (.cint 3)) (.cons (.tup .nil) .nil))))))) .nil)))))))
def f__law_d_loose : FDef := { name := "_law_d_loose", np := 3, nn := 12, body := b__law_d_loose }
def p__law_d_loose : PDef := { st := topS 32, ns := ["project", "modes", "begins", "takes", "rs", "r", "vs", "v", "rows", "held", "at", "row"] }
/-- _law_k43_lag -/
def b__law_k43_lag : Sms := (.cons (.set 4 (.call i__law_draw (.cons (.var 0) (.cons (.blt .len (.cons (.var 1) .nil)) .nil)))) (.cons (.set 5 (.call i__law_draw (.cons (.var 0) (.cons (.blt .len (.cons (.var 1) .nil)) .nil)))) (.cons (.set 6 (.tup (.cons (.var 5) (.cons (.call i__law_draw (.cons (.var 0) (.cons (.cint 2) .nil))) .nil)))) (.cons (.ite (.or (.cmp .eq (.var 5) (.var 4)) (.cmp .eq (.call i__law_draw (.cons (.var 0) (.cons (.cint 5) .nil))) (.cint 0))) (.cons (.set 6 (.tup (.cons (.neg (.cint 1)) (.cons (.call i__law_draw (.cons (.var 0) (.cons (.blt .min (.cons (.bin .add (.ix (.var 2) (.var 4)) (.cint 3)) (.cons (.cint 31) .nil))) .nil))) .nil)))) .nil) .nil) (.cons (.set 7 (.call i__law_w_when (.cons (.var 1) (.cons (.var 2) (.cons (.var 6) .nil))))) (.cons (.set 8 (.bin .sub (.ix (.var 2) (.var 4)) (.var 7))) (.cons (.ite (.and (.var 3) (.cmp .eq (.call i__law_draw (.cons (.var 0) (.cons (.cint 3) .nil))) (.cint 0))) (.cons (.ret (.tup (.cons (.var 6) (.cons (.tup (.cons (.var 4) (.cons (.cint 1) .nil))) (.cons (.bin .sub (.bin .add (.var 8) (.ix (.var 1) (.var 4))) (.call i__law_draw (.cons (.var 0) (.cons (.cint 2) .nil)))) .nil))))) .nil) .nil) (.cons (.ite (.and (.var 3) (.and (.cmp .ge (.ix (.var 6) (.cint 0)) (.cint 0)) (.cmp .eq (.call i__law_draw (.cons (.var 0) (.cons (.cint 3) .nil))) (.cint 0)))) (.cons (.ret (.tup (.cons (.var 6) (.cons (.tup (.cons (.var 4) (.cons (.cint 0) .nil))) (.cons (.blt .min (.cons (.var 8) (.cons (.bin .sub (.neg (.cint 1)) (.call i__law_draw (.cons (.var 0) (.cons (.cint 2) .nil)))) .nil))) .nil))))) .nil) .nil) (.cons (.ite (.cmp .lt (.ix (.var 6) (.cint 0)) (.cint 0)) (.cons (.ret (.tup (.cons (.var 6) (.cons (.tup (.cons (.var 4) (.cons (.cint 0) .nil))) (.cons (.bin .sub (.var 8) (.call i__law_pick (.cons (.var 0) (.cons (.lst (.cons (.cint 0) (.cons (.cint 0) (.cons (.cint 1) (.cons (.cint 3) .nil))))) .nil)))) .nil))))) .nil) .nil) (.cons (.ite (.cmp .ge (.var 8) (.cint 0)) (.cons (.ret (.tup (.cons (.var 6) (.cons (.tup (.cons (.var 4) (.cons (.cint 0) .nil))) (.cons (.call i__law_pick (.cons (.var 0) (.cons (.lst (.cons (.var 8) (.cons (.var 8) (.cons (.cint 0) (.cons (.call i__law_draw (.cons (.var 0) (.cons (.bin .add (.var 8) (.cint 1)) .nil))) .nil))))) .nil))) .nil))))) .nil) .nil) (.cons (.set 9 (.blt .min (.cons (.bin .add (.var 7) (.call i__law_pick (.cons (.var 0) (.cons (.lst (.cons (.cint 0) (.cons (.cint 0) (.cons (.cint 1) (.cons (.cint 3) .nil))))) .nil)))) (.cons (.cint 30) .nil)))) (.cons (.ret (.tup (.cons (.var 6) (.cons (.tup (.cons (.neg (.cint 1)) (.cons (.var 9) .nil))) (.cons (.bin .sub (.bin .sub (.var 9) (.var 7)) (.call i__law_pick (.cons (.var 0) (.cons (.lst (.cons (.cint 0) (.cons (.cint 0) (.cons (.cint 1) .nil)))) .nil)))) .nil))))) .nil))))))))))))
def f__law_k43_lag : FDef := { name := "_law_k43_lag", np := 4, nn := 10, body := b__law_k43_lag }
def p__law_k43_lag : PDef := { st := topS 33, ns := ["tape", "takes", "begins", "odd", "j", "i", "first", "at", "gap", "later"] }
/-- _law_k43_world -/
def b__law_k43_world : Sms := (.cons (.setT (.cons (.nm 10) (.cons (.nm 11) .nil)) (.call i__law_pick (.cons (.var 0) (.cons (.lst (.cons (.tup (.cons (.cint 1) (.cons (.cint 0) .nil))) (.cons (.tup (.cons (.cint 1) (.cons (.cint 0) .nil))) (.cons (.tup (.cons (.cint 1) (.cons (.cint 1) .nil))) (.cons (.tup (.cons (.cint 2) (.cons (.cint 0) .nil))) (.cons (.tup (.cons (.cint 0) (.cons (.cint 1) .nil))) (.cons (.tup (.cons (.cint 0) (.cons (.cint 0) .nil))) (.cons (.tup (.cons (.cint 3) (.cons (.cint 2) .nil))) .nil)))))))) .nil)))) (.cons (.set 1 (.call i__law_pick (.cons (.var 0) (.cons (.lst (.cons (.cint 3) (.cons (.cint 3) (.cons (.cint 3) (.cons (.cint 5) (.cons (.cint 5) (.cons (.cint 13) .nil))))))) .nil)))) (.cons (.set 2 (.cmp .gt (.call i__law_draw (.cons (.var 0) (.cons (.cint 4) .nil))) (.cint 0))) (.cons (.set 3 (.lst .nil)) (.cons (.set 4 (.lst .nil)) (.cons (.set 5 (.lst .nil)) (.cons (.for (.nm 6) (.rng (.cons (.bin .mul (.call i__law_pick (.cons (.var 0) (.cons (.lst (.cons (.cint 1) (.cons (.cint 2) (.cons (.cint 3) (.cons (.cint 3) (.cons (.cint 4) (.cons (.cint 6) .nil))))))) .nil))) (.blt .min (.cons (.call i__law_draw (.cons (.var 0) (.cons (.cint 24) .nil))) (.cons (.cint 1) .nil)))) .nil)) (.cons (.set 12 (.lst .nil)) (.cons (.for (.nm 13) (.rng (.cons (.call i__law_pick (.cons (.var 0) (.cons (.lst (.cons (.cint 1) (.cons (.cint 1) (.cons (.cint 2) .nil)))) .nil))) .nil)) (.cons (.set 14 (.call i__law_game_mode (.cons (.var 0) (.cons (.call i__law_draw (.cons (.var 0) (.cons (.var 1) .nil))) (.cons (.var 10) (.cons (.var 11) .nil)))))) (.cons (.ite (.var 2) (.cons (.set 14 (.bin .add (.sl (.var 14) .none (.some (.cint 2))) (.tup (.cons (.blt .tuple (.cons (.lc (.tup (.cons (.cint 0) (.cons (.ix (.var 17) (.cint 1)) .nil))) (.nm 17) (.seq (.ix (.var 14) (.cint 2))) .nil [17]) .nil)) (.cons (.ix (.var 14) (.cint 3)) .nil))))) .nil) .nil) (.cons (.ex (.mth .append (.var 12) (.cons (.var 14) .nil))) .nil)))) (.cons (.ex (.mth .append (.var 3) (.cons (.tup (.cons (.ix (.cstr "abcdef") (.var 6)) (.cons (.blt .tuple (.cons (.var 12) .nil)) .nil))) .nil))) (.cons (.ex (.mth .append (.var 5) (.cons (.call i__law_draw (.cons (.var 0) (.cons (.blt .len (.cons (.var 12) .nil)) .nil))) .nil))) (.cons (.ex (.mth .append (.var 4) (.cons (.call i__law_draw (.cons (.var 0) (.cons (.call i__law_pick (.cons (.var 0) (.cons (.lst (.cons (.cint 2) (.cons (.cint 5) (.cons (.cint 9) .nil)))) .nil))) .nil))) .nil))) .nil)))))) (.cons (.ite (.and (.cmp .gt (.blt .len (.cons (.var 3) .nil)) (.cint 1)) (.cmp .eq (.call i__law_draw (.cons (.var 0) (.cons (.cint 4) .nil))) (.cint 0))) (.cons (.setIx (.var 4) (.cint 1) (.ix (.var 4) (.cint 0))) .nil) .nil) (.cons (.set 7 (.blt .tuple (.cons (.lc (.tup (.cons (.bin .add (.cstr "r") (.blt .str (.cons (.var 15) .nil))) (.cons (.cint 0) (.cons (.call i__law_game_closures (.cons (.var 0) (.cons (.cint 0) (.cons (.cint 6) .nil)))) .nil)))) (.nm 15) (.rng (.cons (.var 10) .nil)) .nil [15]) .nil))) (.cons (.set 8 (.blt .tuple (.cons (.lc (.tup (.cons (.bin .add (.cstr "v") (.blt .str (.cons (.var 16) .nil))) (.cons (.bin .sub (.call i__law_draw (.cons (.var 0) (.cons (.cint 5) .nil))) (.cint 1)) (.cons .cnon (.cons .cnon .nil))))) (.nm 16) (.rng (.cons (.var 11) .nil)) .nil [16]) .nil))) (.cons (.set 9 (.call i__law_d_loose (.cons (.tup (.cons (.cint 30) (.cons (.var 7) (.cons (.var 8) (.cons (.blt .tuple (.cons (.var 3) .nil)) (.cons (.tup .nil) .nil)))))) (.cons (.blt .tuple (.cons (.var 5) .nil)) (.cons (.blt .tuple (.cons (.var 4) .nil)) .nil))))) (.cons (.ite (.cmp .is (.var 9) .cnon) (.cons (.ret (.tup (.cons (.tup (.cons (.cint 9) (.cons (.tup .nil) (.cons (.tup .nil) (.cons (.tup .nil) (.cons (.tup .nil) .nil)))))) (.cons (.tup .nil) (.cons (.tup .nil) .nil))))) .nil) .nil) (.cons (.ret (.tup (.cons (.var 9) (.cons (.blt .tuple (.cons (.var 5) .nil)) (.cons (.blt .tuple (.cons (.var 4) .nil)) .nil))))) .nil)))))))))))))
def f__law_k43_world : FDef := { name := "_law_k43_world", np := 1, nn := 18, body := b__law_k43_world }
def p__law_k43_world : PDef := { st := topS 34, ns := ["tape", "top", "flat", "acts", "begins", "modes", "k", "rs", "vs", "project", "many", "goods", "rows", "m", "mode", "r", "v", "change"] }
/-- _law_k43_lags -/
def b__law_k43_lags : Sms := (.cons (.set 5 (.call i__law_w_takes (.cons (.var 1) (.cons (.var 2) .nil)))) (.cons (.set 6 (.lst .nil)) (.cons (.for (.nm 7) (.rng (.cons (.bin .mul (.call i__law_pick (.cons (.var 0) (.cons (.lst (.cons (.cint 0) (.cons (.cint 1) (.cons (.cint 2) (.cons (.cint 3) (.cons (.cint 4) (.cons (.cint 8) .nil))))))) .nil))) (.blt .min (.cons (.blt .len (.cons (.var 2) .nil)) (.cons (.cint 1) .nil)))) .nil)) (.cons (.ex (.mth .append (.var 6) (.cons (.call i__law_k43_lag (.cons (.var 0) (.cons (.var 5) (.cons (.var 3) (.cons (.var 4) .nil))))) .nil))) .nil)) (.cons (.ite (.and (.cmp .gt (.blt .len (.cons (.var 2) .nil)) (.cint 1)) (.cmp .eq (.ix (.var 3) (.cint 0)) (.ix (.var 3) (.cint 1)))) (.cons (.set 6 (.bin .add (.var 6) (.call i__law_pick (.cons (.var 0) (.cons (.lst (.cons (.lst .nil) (.cons (.lst (.cons (.tup (.cons (.tup (.cons (.cint 0) (.cons (.cint 0) .nil))) (.cons (.tup (.cons (.cint 1) (.cons (.cint 0) .nil))) (.cons (.cint 0) .nil)))) (.cons (.tup (.cons (.tup (.cons (.cint 1) (.cons (.cint 0) .nil))) (.cons (.tup (.cons (.cint 0) (.cons (.cint 0) .nil))) (.cons (.cint 0) .nil)))) .nil))) (.cons (.sl (.lst (.cons (.tup (.cons (.tup (.cons (.cint 0) (.cons (.cint 1) .nil))) (.cons (.tup (.cons (.cint 1) (.cons (.cint 0) .nil))) (.cons (.cint 0) .nil)))) (.cons (.tup (.cons (.tup (.cons (.cint 1) (.cons (.cint 0) .nil))) (.cons (.tup (.cons (.cint 0) (.cons (.cint 0) .nil))) (.cons (.cint 0) .nil)))) .nil))) (.some (.blt .int (.cons (.cmp .gt (.ix (.var 5) (.cint 0)) (.cint 0)) .nil))) .none) .nil)))) .nil))))) .nil) .nil) (.cons (.set 8 (.lst .nil)) (.cons (.for (.nm 9) (.rng (.cons (.blt .len (.cons (.ix (.var 1) (.cint 2)) .nil)) .nil)) (.cons (.setT (.cons (.nm 10) (.cons (.nm 11) (.cons (.nm 12) (.cons (.nm 13) .nil)))) (.ix (.ix (.var 1) (.cint 2)) (.var 9))) (.cons (.ex (.mth .append (.var 8) (.cons (.bin .add (.tup (.cons (.var 10) (.cons (.var 11) .nil))) (.call i__law_pick (.cons (.var 0) (.cons (.lst (.cons (.tup (.cons (.var 12) (.cons .cnon .nil))) (.cons (.tup (.cons (.var 12) (.cons .cnon .nil))) (.cons (.tup (.cons .cnon (.cons (.var 13) .nil))) (.cons (.tup (.cons (.var 12) (.cons (.var 13) .nil))) .nil))))) .nil)))) .nil))) .nil))) (.cons (.ret (.tup (.cons (.blt .max (.cons (.call i__law_w_ends (.cons (.var 5) (.cons (.var 3) .nil))) (.cons (.call i__law_pick (.cons (.var 0) (.cons (.lst (.cons (.cint 0) (.cons (.cint 12) (.cons (.cint 30) .nil)))) .nil))) .nil))) (.cons (.ix (.var 1) (.cint 1)) (.cons (.blt .tuple (.cons (.var 8) .nil)) (.cons (.ix (.var 1) (.cint 3)) (.cons (.blt .tuple (.cons (.var 6) .nil)) .nil))))))) .nil)))))))
def f__law_k43_lags : FDef := { name := "_law_k43_lags", np := 5, nn := 14, body := b__law_k43_lags }
def p__law_k43_lags : PDef := { st := topS 35, ns := ["tape", "project", "modes", "begins", "odd", "takes", "told", "k", "bounds", "v", "name", "initial", "least", "most"] }
/-- _law_k43_is -/
def b__law_k43_is : Sms := (.cons (.ite (.cmp .lt (.ix (.ix (.var 0) (.cint 1)) (.cint 0)) (.cint 0)) (.cons (.ret (.cbl true)) .nil) .nil) (.cons (.ret (.and (.cmp .eq (.ix (.ix (.var 0) (.cint 1)) (.cint 1)) (.cint 0)) (.or (.cmp .ge (.ix (.var 0) (.cint 2)) (.cint 0)) (.cmp .lt (.ix (.ix (.var 0) (.cint 0)) (.cint 0)) (.cint 0))))) .nil))
def f__law_k43_is : FDef := { name := "_law_k43_is", np := 1, nn := 1, body := b__law_k43_is }
def p__law_k43_is : PDef := { st := topS 36, ns := ["lag"] }
/-- _law_k43_plain -/
def b__law_k43_plain : Sms := (.cons (.ret (.blt .all (.cons (.lc (.call i__law_k43_is (.cons (.var 2) .nil)) (.nm 2) (.seq (.bin .add (.blt .list (.cons (.ix (.var 0) (.cint 4)) .nil)) (.blt .list (.cons (.call i__law_hand_lags (.cons (.ix (.var 1) (.cint 2)) .nil)) .nil)))) .nil [2]) .nil))) .nil)
def f__law_k43_plain : FDef := { name := "_law_k43_plain", np := 2, nn := 3, body := b__law_k43_plain }
def p__law_k43_plain : PDef := { st := topS 37, ns := ["project", "scheme", "lag"] }
/-- _law_k43_over -/
def b__law_k43_over : Sms := (.cons (.set 4 (.ix (.var 3) (.cint 0))) (.cons (.ite (.cmp .lt (.ix (.var 4) (.cint 0)) (.cint 0)) (.cons (.ret (.cmp .ge (.bin .sub (.ix (.var 0) (.cint 0)) (.ix (.var 4) (.cint 1))) (.ix (.var 3) (.cint 2)))) .nil) .nil) (.cons (.ite (.cmp .isin (.ix (.var 4) (.cint 0)) (.var 1)) (.cons (.ret (.and (.cmp .ge (.cint 0) (.ix (.var 3) (.cint 2))) (.or (.cmp .eq (.ix (.var 4) (.cint 1)) (.cint 0)) (.cmp .eq (.ix (.var 2) (.ix (.var 4) (.cint 0))) (.cint 0))))) .nil) .nil) (.cons (.set 5 (.ix (.ix (.var 0) (.cint 1)) (.ix (.var 4) (.cint 0)))) (.cons (.ret (.and (.cmp .ge (.blt .len (.cons (.var 5) .nil)) (.bin .add (.cint 2) (.ix (.var 4) (.cint 1)))) (.cmp .ge (.bin .sub (.ix (.var 0) (.cint 0)) (.ix (.var 5) (.bin .add (.cint 1) (.ix (.var 4) (.cint 1))))) (.ix (.var 3) (.cint 2))))) .nil)))))
def f__law_k43_over : FDef := { name := "_law_k43_over", np := 4, nn := 6, body := b__law_k43_over }
def p__law_k43_over : PDef := { st := topS 38, ns := ["moment", "prompt", "takes", "lag", "first", "mark"] }
/-- _law_k43_eager -/
def b__law_k43_eager : Sms := (.cons (.set 3 (.call i__law_w_takes (.cons (.var 0) (.cons (.ix (.var 2) (.cint 0)) .nil)))) (.cons (.set 4 (.lc (.var 8) (.nm 8) (.seq (.bin .add (.blt .list (.cons (.ix (.var 0) (.cint 4)) .nil)) (.blt .list (.cons (.call i__law_hand_lags (.cons (.ix (.var 2) (.cint 2)) .nil)) .nil)))) (.cons (.and (.cmp .eq (.ix (.ix (.var 8) (.cint 1)) (.cint 1)) (.cint 0)) (.cmp .ge (.ix (.ix (.var 8) (.cint 1)) (.cint 0)) (.cint 0))) .nil) [8])) (.cons (.set 5 (.lc (.var 9) (.nm 9) (.rng (.cons (.blt .len (.cons (.var 3) .nil)) .nil)) (.cons (.cmp .eq (.ix (.ix (.var 1) (.cint 1)) (.var 9)) (.tup .nil)) .nil) [9])) (.cons (.for (.nm 6) (.rng (.cons (.bin .add (.blt .len (.cons (.var 3) .nil)) (.cint 1)) .nil)) (.cons (.set 7 (.lc (.ix (.ix (.var 8) (.cint 1)) (.cint 0)) (.nm 8) (.seq (.var 4)) (.cons (.not (.call i__law_k43_over (.cons (.var 1) (.cons (.var 5) (.cons (.var 3) (.cons (.var 8) .nil)))))) .nil) [8])) (.cons (.set 5 (.lc (.var 9) (.nm 9) (.seq (.var 5)) (.cons (.cmp .notin (.var 9) (.var 7)) .nil) [9])) .nil))) (.cons (.ret (.blt .tuple (.cons (.lc (.tup (.cons (.var 9) (.cons (.ix (.ix (.var 2) (.cint 0)) (.var 9)) .nil))) (.nm 9) (.seq (.var 5)) .nil [9]) .nil))) .nil)))))
def f__law_k43_eager : FDef := { name := "_law_k43_eager", np := 3, nn := 10, body := b__law_k43_eager }
def p__law_k43_eager : PDef := { st := topS 39, ns := ["project", "moment", "scheme", "takes", "waits", "prompt", "k", "late", "lag", "i"] }
/-- _law_k43_moment -/
def b__law_k43_moment : Sms := (.cons (.set 4 (.call i__law_w_takes (.cons (.var 1) (.cons (.ix (.var 2) (.cint 0)) .nil)))) (.cons (.set 5 (.call i__law_draw (.cons (.var 0) (.cons (.bin .add (.blt .min (.cons (.ix (.var 1) (.cint 0)) (.cons (.bin .add (.call i__law_w_ends (.cons (.var 4) (.cons (.var 3) .nil))) (.cint 2)) (.cons (.cint 29) .nil)))) (.cint 1)) .nil)))) (.cons (.set 6 (.call i__law_draw (.cons (.var 0) (.cons (.cint 3) .nil)))) (.cons (.set 7 (.lst .nil)) (.cons (.for (.nm 8) (.rng (.cons (.blt .len (.cons (.var 4) .nil)) .nil)) (.cons (.set 9 (.bin .add (.ix (.var 3) (.var 8)) (.call i__law_pick (.cons (.var 0) (.cons (.lst (.cons (.cint 0) (.cons (.cint 0) (.cons (.cint 0) (.cons (.cint 1) .nil))))) .nil))))) (.cons (.set 10 (.bin .add (.bin .add (.var 9) (.ix (.var 4) (.var 8))) (.bin .mul (.call i__law_pick (.cons (.var 0) (.cons (.lst (.cons (.cint 0) (.cons (.cint 0) (.cons (.cint 1) .nil)))) .nil))) (.blt .min (.cons (.ix (.var 4) (.var 8)) (.cons (.cint 1) .nil)))))) (.cons (.ite (.cmp .eq (.var 6) (.cint 0)) (.cons (.set 9 (.call i__law_draw (.cons (.var 0) (.cons (.bin .add (.var 5) (.cint 3)) .nil)))) (.cons (.set 10 (.bin .add (.var 9) (.bin .mul (.call i__law_pick (.cons (.var 0) (.cons (.lst (.cons (.cint 1) (.cons (.cint 2) (.cons (.blt .max (.cons (.ix (.var 4) (.var 8)) (.cons (.cint 1) .nil))) .nil)))) .nil))) (.blt .min (.cons (.ix (.var 4) (.var 8)) (.cons (.cint 1) .nil)))))) .nil)) .nil) (.cons (.set 11 (.tup .nil)) (.cons (.ite (.or (.cmp .lt (.var 9) (.var 5)) (.and (.cmp .eq (.var 6) (.cint 0)) (.cmp .eq (.var 9) (.var 5)))) (.cons (.set 11 (.tup (.cons (.ix (.ix (.var 2) (.cint 0)) (.var 8)) (.cons (.var 9) .nil)))) .nil) .nil) (.cons (.ite (.and (.cmp .ne (.var 11) (.tup .nil)) (.cmp .le (.var 10) (.var 5))) (.cons (.set 11 (.bin .add (.var 11) (.tup (.cons (.var 10) .nil)))) .nil) .nil) (.cons (.ex (.mth .append (.var 7) (.cons (.var 11) .nil))) .nil)))))))) (.cons (.ret (.tup (.cons (.var 5) (.cons (.blt .tuple (.cons (.var 7) .nil)) .nil)))) .nil))))))
def f__law_k43_moment : FDef := { name := "_law_k43_moment", np := 4, nn := 12, body := b__law_k43_moment }
def p__law_k43_moment : PDef := { st := topS 40, ns := ["tape", "project", "scheme", "begins", "takes", "now", "near", "marks", "i", "start", "end", "mark"] }
/-- _law_k43_changed -/
def b__law_k43_changed : Sms := (.cons (.set 5 (.ix (.var 1) (.cint 4))) (.cons (.set 6 (.call i__law_draw (.cons (.var 0) (.cons (.cint 3) .nil)))) (.cons (.ite (.cmp .eq (.var 6) (.cint 0)) (.cons (.set 7 (.call i__law_game_scheme (.cons (.var 0) (.cons (.var 1) (.cons (.lst (.cons (.tup (.cons (.var 2) (.cons (.var 3) .nil))) .nil)) .nil))))) (.cons (.ite (.cmp .isnot (.var 7) .cnon) (.cons (.ret (.tup (.cons (.var 1) (.cons (.var 7) .nil)))) .nil) .nil) .nil)) .nil) (.cons (.ite (.and (.cmp .eq (.var 6) (.cint 1)) (.cmp .ne (.var 5) (.tup .nil))) (.cons (.set 8 (.call i__law_draw (.cons (.var 0) (.cons (.blt .len (.cons (.var 5) .nil)) .nil)))) (.cons (.ret (.tup (.cons (.bin .add (.sl (.var 1) .none (.some (.cint 4))) (.tup (.cons (.bin .add (.sl (.var 5) .none (.some (.var 8))) (.sl (.var 5) (.some (.bin .add (.var 8) (.cint 1))) .none)) .nil))) (.cons (.var 4) .nil)))) .nil)) .nil) (.cons (.ite (.and (.cmp .gt (.blt .len (.cons (.var 2) .nil)) (.cint 0)) (.cmp .lt (.blt .len (.cons (.var 5) .nil)) (.cint 24))) (.cons (.set 9 (.call i__law_k43_lag (.cons (.var 0) (.cons (.call i__law_w_takes (.cons (.var 1) (.cons (.var 2) .nil))) (.cons (.var 3) (.cons (.cbl true) .nil)))))) (.cons (.ret (.tup (.cons (.bin .add (.sl (.var 1) .none (.some (.cint 4))) (.tup (.cons (.bin .add (.var 5) (.tup (.cons (.var 9) .nil))) .nil))) (.cons (.var 4) .nil)))) .nil)) .nil) (.cons (.ret (.tup (.cons (.var 1) (.cons (.var 4) .nil)))) .nil))))))
def f__law_k43_changed : FDef := { name := "_law_k43_changed", np := 5, nn := 10, body := b__law_k43_changed }
def p__law_k43_changed : PDef := { st := topS 41, ns := ["tape", "project", "modes", "begins", "scheme", "lags", "choice", "other", "k", "lag"] }
/-- law -/
def b_law : Sms := (.cons (.set 1 (.call i__law_tape (.cons (.var 0) .nil))) (.cons (.setT (.cons (.nm 2) (.cons (.nm 6) (.cons (.nm 7) .nil))) (.call i__law_k43_world (.cons (.var 1) .nil))) (.cons (.set 2 (.call i__law_k43_lags (.cons (.var 1) (.cons (.var 2) (.cons (.var 6) (.cons (.var 7) (.cons (.cmp .eq (.call i__law_draw (.cons (.var 1) (.cons (.cint 4) .nil))) (.cint 0)) .nil))))))) (.cons (.set 3 (.call i__law_game_scheme (.cons (.var 1) (.cons (.var 2) (.cons (.lst (.cons (.tup (.cons (.var 6) (.cons (.var 7) .nil))) .nil)) .nil))))) (.cons (.ite (.cmp .is (.var 3) .cnon) (.cons (.ret (.cbl true)) .nil) .nil) (.cons (.set 4 (.call i__law_draw (.cons (.var 1) (.cons (.cint 4) .nil)))) (.cons (.set 5 (.call i__law_k43_plain (.cons (.var 2) (.cons (.var 3) .nil)))) (.cons (.setT (.cons (.nm 8) (.cons (.nm 9) .nil)) (.call i__law_k43_changed (.cons (.var 1) (.cons (.var 2) (.cons (.var 6) (.cons (.var 7) (.cons (.var 3) .nil))))))) (.cons (.ite (.or (.cmp .lt (.var 4) (.cint 3)) (.not (.var 5))) (.cons (.ite (.not (.call i__law_same (.cons (.call i_is_plain (.cons (.var 2) (.cons (.var 3) .nil))) (.cons (.var 5) .nil)))) (.cons (.ret (.cbl false)) .nil) .nil) (.cons (.ite (.or (.not (.call i__law_same (.cons (.call i_is_plain (.cons (.var 8) (.cons (.var 9) .nil))) (.cons (.call i__law_k43_plain (.cons (.var 8) (.cons (.var 9) .nil))) .nil)))) (.not (.call i__law_same (.cons (.call i_is_plain (.cons (.var 2) (.cons (.var 3) .nil))) (.cons (.var 5) .nil))))) (.cons (.ret (.cbl false)) .nil) .nil) .nil)) .nil) (.cons (.ite (.and (.var 5) (.cmp .gt (.var 4) (.cint 0))) (.cons (.set 10 (.call i__law_k43_moment (.cons (.var 1) (.cons (.var 2) (.cons (.var 3) (.cons (.var 7) .nil)))))) (.cons (.set 11 (.lst (.cons (.tup (.cons (.var 2) (.cons (.var 10) (.cons (.var 3) .nil)))) (.cons (.tup (.cons (.var 2) (.cons (.call i__law_k43_moment (.cons (.var 1) (.cons (.var 2) (.cons (.var 3) (.cons (.var 7) .nil))))) (.cons (.var 3) .nil)))) .nil)))) (.cons (.ite (.call i__law_k43_plain (.cons (.var 8) (.cons (.var 9) .nil))) (.cons (.ex (.mth .append (.var 11) (.cons (.tup (.cons (.var 8) (.cons (.var 10) (.cons (.var 9) .nil)))) .nil))) .nil) .nil) (.cons (.for (.tp (.cons (.nm 12) (.cons (.nm 13) (.cons (.nm 14) .nil)))) (.seq (.bin .add (.var 11) (.sl (.var 11) .none (.some (.cint 1))))) (.cons (.ite (.not (.call i__law_same (.cons (.call i_eager_starts (.cons (.var 12) (.cons (.var 13) (.cons (.var 14) .nil)))) (.cons (.call i__law_k43_eager (.cons (.var 12) (.cons (.var 13) (.cons (.var 14) .nil)))) .nil)))) (.cons (.ret (.cbl false)) .nil) .nil) .nil)) .nil)))) .nil) (.cons (.ret (.cbl true)) .nil)))))))))))
def f_law : FDef := { name := "law", np := 1, nn := 15, body := b_law }
def p_law : PDef := { st := topS 42, ns := ["script", "tape", "project", "scheme", "part", "plain", "modes", "begins", "other", "turned", "moment", "asks", "place", "one", "plan_of_it"] }
def T : List FDef := [f_time_in, f_mode_at, f_transfer_lags, f_lags_of, f_is_wait, f_is_due, f_is_plain, f_time_counting, f_has_waited, f_eager_starts, f__law_tape, f__law_draw, f__law_pick, f__law_shuffled, f__law_same, f__law_w_takes, f__law_w_ends, f__law_w_when, f__law_w_load, f__law_w_used, f__law_w_flow, f__law_w_stock, f__law_hand_lags, f__law_game_mode, f__law_game_closures, f__law_game_flows, f__law_game_scheme, f__law_d_loose, f__law_k43_lag, f__law_k43_world, f__law_k43_lags, f__law_k43_is, f__law_k43_plain, f__law_k43_over, f__law_k43_eager, f__law_k43_moment, f__law_k43_changed, f_law]
def ps : List PDef := [p_time_in, p_mode_at, p_transfer_lags, p_lags_of, p_is_wait, p_is_due, p_is_plain, p_time_counting, p_has_waited, p_eager_starts, p__law_tape, p__law_draw, p__law_pick, p__law_shuffled, p__law_same, p__law_w_takes, p__law_w_ends, p__law_w_when, p__law_w_load, p__law_w_used, p__law_w_flow, p__law_w_stock, p__law_hand_lags, p__law_game_mode, p__law_game_closures, p__law_game_flows, p__law_game_scheme, p__law_d_loose, p__law_k43_lag, p__law_k43_world, p__law_k43_lags, p__law_k43_is, p__law_k43_plain, p__law_k43_over, p__law_k43_eager, p__law_k43_moment, p__law_k43_changed, p_law]
theorem looks : (T.zip ps).all (fun q => okDef T q.1 q.2) = true := by decide +kernel
theorem T_time_in : T[i_time_in]? = some f_time_in := rfl
theorem T_mode_at : T[i_mode_at]? = some f_mode_at := rfl
theorem T_transfer_lags : T[i_transfer_lags]? = some f_transfer_lags := rfl
theorem T_lags_of : T[i_lags_of]? = some f_lags_of := rfl
theorem T_is_wait : T[i_is_wait]? = some f_is_wait := rfl
theorem T_is_due : T[i_is_due]? = some f_is_due := rfl
theorem T_is_plain : T[i_is_plain]? = some f_is_plain := rfl
theorem T_time_counting : T[i_time_counting]? = some f_time_counting := rfl
theorem T_has_waited : T[i_has_waited]? = some f_has_waited := rfl
theorem T_eager_starts : T[i_eager_starts]? = some f_eager_starts := rfl
theorem T__law_tape : T[i__law_tape]? = some f__law_tape := rfl
theorem T__law_draw : T[i__law_draw]? = some f__law_draw := rfl
theorem T__law_pick : T[i__law_pick]? = some f__law_pick := rfl
theorem T__law_shuffled : T[i__law_shuffled]? = some f__law_shuffled := rfl
theorem T__law_same : T[i__law_same]? = some f__law_same := rfl
theorem T__law_w_takes : T[i__law_w_takes]? = some f__law_w_takes := rfl
theorem T__law_w_ends : T[i__law_w_ends]? = some f__law_w_ends := rfl
theorem T__law_w_when : T[i__law_w_when]? = some f__law_w_when := rfl
theorem T__law_w_load : T[i__law_w_load]? = some f__law_w_load := rfl
theorem T__law_w_used : T[i__law_w_used]? = some f__law_w_used := rfl
theorem T__law_w_flow : T[i__law_w_flow]? = some f__law_w_flow := rfl
theorem T__law_w_stock : T[i__law_w_stock]? = some f__law_w_stock := rfl
theorem T__law_hand_lags : T[i__law_hand_lags]? = some f__law_hand_lags := rfl
theorem T__law_game_mode : T[i__law_game_mode]? = some f__law_game_mode := rfl
theorem T__law_game_closures : T[i__law_game_closures]? = some f__law_game_closures := rfl
theorem T__law_game_flows : T[i__law_game_flows]? = some f__law_game_flows := rfl
theorem T__law_game_scheme : T[i__law_game_scheme]? = some f__law_game_scheme := rfl
theorem T__law_d_loose : T[i__law_d_loose]? = some f__law_d_loose := rfl
theorem T__law_k43_lag : T[i__law_k43_lag]? = some f__law_k43_lag := rfl
theorem T__law_k43_world : T[i__law_k43_world]? = some f__law_k43_world := rfl
theorem T__law_k43_lags : T[i__law_k43_lags]? = some f__law_k43_lags := rfl
theorem T__law_k43_is : T[i__law_k43_is]? = some f__law_k43_is := rfl
theorem T__law_k43_plain : T[i__law_k43_plain]? = some f__law_k43_plain := rfl
theorem T__law_k43_over : T[i__law_k43_over]? = some f__law_k43_over := rfl
theorem T__law_k43_eager : T[i__law_k43_eager]? = some f__law_k43_eager := rfl
theorem T__law_k43_moment : T[i__law_k43_moment]? = some f__law_k43_moment := rfl
theorem T__law_k43_changed : T[i__law_k43_changed]? = some f__law_k43_changed := rfl
theorem T_law : T[i_law]? = some f_law := rfl
end Law

set_option Elab.async false
set_option linter.all false
set_option autoImplicit false
set_option maxRecDepth 100000
namespace Law
open Flx PySem FNet
/-! the steps, as tactics -/
local macro_rules | `(tactic| walk_at "lk") => `(tactic| ((repeat (first | assumption | exact get_new | (refine get_new' ?_; focus (first | omega | (simp only [List.length_append, List.length_set, List.length_cons, List.length_nil, List.length_map]; omega))) | apply get_set_self | refine get_set (by (first | omega | (simp only [List.length_append, List.length_set, List.length_cons, List.length_nil, List.length_map]; omega))) ?_ | refine get_app ?_ | (apply Ext.get (by assumption)) | (refine Fr.get (by assumption) (by omega) ?_))); done))
local macro_rules | `(tactic| walk_at "r") => `(tactic|
 repeat (
  (with_reducible first
   | refine ss_last ?_
   | refine ss_set ?_
   | refine ss_setT ?_
   | refine ss_par ?_
   | refine ss_setIx ?_
   | refine ss_setDx ?_
   | refine ss_ex ?_
   | refine ss_for ?_
   | refine ss_whl ?_
   | refine ss_ret ?_
   | refine ss_retN ?_
   | refine ss_brk ?_
   | refine ss_cnt ?_
   | refine ss_pas ?_
   | refine ss_iteR ?_
   | refine ss_iteC ?_
   | refine ss_iteB ?_
   | refine ss_nil ?_
   | refine s_set ?_
   | refine s_setT ?_
   | refine s_par ?_
   | refine par_cons ?_
   | refine par_nil ?_
   | refine s_setIx ?_
   | refine s_setDx ?_
   | refine s_ex ?_
   | refine s_ite ?_
   | refine s_for ?_
   | refine s_whl ?_
   | refine s_ret ?_
   | refine s_retN ?_
   | refine s_brk ?_
   | refine s_cnt ?_
   | refine s_pas ?_
   | refine e_cint ?_
   | refine e_cstr ?_
   | refine e_cbl ?_
   | refine e_cnon ?_
   | refine e_bin ?_
   | refine e_neg ?_
   | refine e_cmp ?_
   | refine e_cmp2 ?_
   | refine e_cmp3 ?_
   | refine e_smt ?_
   | refine e_dnw ?_
   | refine e_dsp ?_
   | refine e_dix ?_
   | refine e_dgt ?_
   | refine e_dsr ?_
   | refine e_dcm ?_
   | refine e_din ?_
   | refine e_sup ?_
   | refine e_lc2 ?_
   | refine e_and ?_
   | refine e_or ?_
   | refine e_not ?_
   | refine e_ite ?_
   | refine e_tup ?_
   | refine e_lst ?_
   | refine e_ix ?_
   | refine e_sl ?_
   | refine e_call ?_
   | refine e_blt ?_
   | refine e_isi ?_
   | refine e_mth ?_
   | refine e_lrg ?_
   | refine e_lc ?_
   | refine es_nil ?_
   | refine es_cons ?_
   | refine o_none ?_
   | refine o_some ?_
   | refine w_test ?_
   | refine wc_nil ?_
   | refine wc_one ?_
   | refine i_seq ?_
   | refine i_rng ?_
   | refine i_rgd ?_
   | refine i_enm ?_
   | refine i_zip ?_
   | refine i_rev ?_
   | refine b_add ?_
   | refine b_sub ?_
   | refine c_lt ?_
   | refine c_le ?_
   | refine c_gt ?_
   | refine c_ge ?_
   | refine c_eqI ?_
   | refine c_neI ?_
   | refine c_eqB ?_
   | refine c_neB ?_
   | refine c_is ?_
   | refine c_isnot ?_
   | refine l_lenT ?_
   | refine l_abs ?_
   | refine l_int ?_
   | refine l_max2 ?_
   | refine l_max3 ?_
   | refine l_min3 ?_
   | refine l_max4 ?_
   | refine l_min4 ?_
   | refine l_min2 ?_
   | refine l_tupT ?_
   | refine sl_tup ?_
   | refine ex_int ?_
   | refine ex_truB ?_
   | refine ex_truT ?_
   | refine ex_truI ?_
   | refine if_tt ?_
   | refine if_ff ?_
   | refine l_lstT ?_
   | (apply e_var; focus with_unfolding_all rfl)
   | (refine if_dT ?_ ?_; focus assumption)
   | (refine if_dF ?_ ?_; focus assumption)
   | (refine if_bT ?_ ?_; focus assumption)
   | (refine if_bF ?_ ?_; focus assumption)
   | (refine if_nT ?_ ?_; focus assumption)
   | (refine if_nF ?_ ?_; focus assumption)
   | (refine if_ndT ?_ ?_; focus assumption)
   | (refine if_ndF ?_ ?_; focus assumption)
   | (refine if_bT ?_ ?_; focus with_unfolding_all decide)
   | (refine if_bF ?_ ?_; focus with_unfolding_all decide)
   | (refine b_mulR ?_ ?_; focus with_unfolding_all decide)
   | (refine b_mulF ?_ ?_; focus with_unfolding_all decide)
   | (refine b_mod ?_ ?_; focus (first | decide | omega))
   | (apply ex_isi; focus with_unfolding_all rfl)
   | (apply st_ix; (focus ((repeat (first | assumption | exact get_new | (refine get_new' ?_; focus (first | omega | (simp only [List.length_append, List.length_set, List.length_cons, List.length_nil, List.length_map]; omega))) | apply get_set_self | refine get_set (by (first | omega | (simp only [List.length_append, List.length_set, List.length_cons, List.length_nil, List.length_map]; omega))) ?_ | refine get_app ?_ | (apply Ext.get (by assumption)) | (refine Fr.get (by assumption) (by omega) ?_))); done)); focus with_unfolding_all rfl)
   | (apply ix_ref; (focus ((repeat (first | assumption | exact get_new | (refine get_new' ?_; focus (first | omega | (simp only [List.length_append, List.length_set, List.length_cons, List.length_nil, List.length_map]; omega))) | apply get_set_self | refine get_set (by (first | omega | (simp only [List.length_append, List.length_set, List.length_cons, List.length_nil, List.length_map]; omega))) ?_ | refine get_app ?_ | (apply Ext.get (by assumption)) | (refine Fr.get (by assumption) (by omega) ?_))); done)); focus with_unfolding_all rfl)
   | (apply ix_tup; focus with_unfolding_all rfl)
   | (apply l_lenR; focus ((repeat (first | assumption | exact get_new | (refine get_new' ?_; focus (first | omega | (simp only [List.length_append, List.length_set, List.length_cons, List.length_nil, List.length_map]; omega))) | apply get_set_self | refine get_set (by (first | omega | (simp only [List.length_append, List.length_set, List.length_cons, List.length_nil, List.length_map]; omega))) ?_ | refine get_app ?_ | (apply Ext.get (by assumption)) | (refine Fr.get (by assumption) (by omega) ?_))); done))
   | (apply l_tupR; focus ((repeat (first | assumption | exact get_new | (refine get_new' ?_; focus (first | omega | (simp only [List.length_append, List.length_set, List.length_cons, List.length_nil, List.length_map]; omega))) | apply get_set_self | refine get_set (by (first | omega | (simp only [List.length_append, List.length_set, List.length_cons, List.length_nil, List.length_map]; omega))) ?_ | refine get_app ?_ | (apply Ext.get (by assumption)) | (refine Fr.get (by assumption) (by omega) ?_))); done))
   | (apply l_lstR; focus ((repeat (first | assumption | exact get_new | (refine get_new' ?_; focus (first | omega | (simp only [List.length_append, List.length_set, List.length_cons, List.length_nil, List.length_map]; omega))) | apply get_set_self | refine get_set (by (first | omega | (simp only [List.length_append, List.length_set, List.length_cons, List.length_nil, List.length_map]; omega))) ?_ | refine get_app ?_ | (apply Ext.get (by assumption)) | (refine Fr.get (by assumption) (by omega) ?_))); done))
   | (apply sl_ref; focus ((repeat (first | assumption | exact get_new | (refine get_new' ?_; focus (first | omega | (simp only [List.length_append, List.length_set, List.length_cons, List.length_nil, List.length_map]; omega))) | apply get_set_self | refine get_set (by (first | omega | (simp only [List.length_append, List.length_set, List.length_cons, List.length_nil, List.length_map]; omega))) ?_ | refine get_app ?_ | (apply Ext.get (by assumption)) | (refine Fr.get (by assumption) (by omega) ?_))); done))
   | (refine and_step ?_ ?_; focus (with_unfolding_all decide)))
  (try dsimp only [List.set_cons_zero, List.set_cons_succ, isNon, Bool.not_true, Bool.not_false, beq_self_eq_true, List.length_cons, List.length_nil])))
local macro_rules | `(tactic| walk_at "R") => `(tactic|
 repeat (
  (with_reducible first
   | refine ss_cons ?_
   | refine ss_set ?_
   | refine ss_setT ?_
   | refine ss_par ?_
   | refine ss_setIx ?_
   | refine ss_setDx ?_
   | refine ss_ex ?_
   | refine ss_for ?_
   | refine ss_whl ?_
   | refine ss_ret ?_
   | refine ss_retN ?_
   | refine ss_brk ?_
   | refine ss_cnt ?_
   | refine ss_pas ?_
   | refine ss_iteR ?_
   | refine ss_iteC ?_
   | refine ss_iteB ?_
   | refine ss_nil ?_
   | refine s_set ?_
   | refine s_setT ?_
   | refine s_par ?_
   | refine par_cons ?_
   | refine par_nil ?_
   | refine s_setIx ?_
   | refine s_setDx ?_
   | refine s_ex ?_
   | refine s_ite ?_
   | refine s_for ?_
   | refine s_whl ?_
   | refine s_ret ?_
   | refine s_retN ?_
   | refine s_brk ?_
   | refine s_cnt ?_
   | refine s_pas ?_
   | refine e_cint ?_
   | refine e_cstr ?_
   | refine e_cbl ?_
   | refine e_cnon ?_
   | refine e_bin ?_
   | refine e_neg ?_
   | refine e_cmp ?_
   | refine e_cmp2 ?_
   | refine e_cmp3 ?_
   | refine e_smt ?_
   | refine e_dnw ?_
   | refine e_dsp ?_
   | refine e_dix ?_
   | refine e_dgt ?_
   | refine e_dsr ?_
   | refine e_dcm ?_
   | refine e_din ?_
   | refine e_sup ?_
   | refine e_lc2 ?_
   | refine e_and ?_
   | refine e_or ?_
   | refine e_not ?_
   | refine e_ite ?_
   | refine e_tup ?_
   | refine e_lst ?_
   | refine e_ix ?_
   | refine e_sl ?_
   | refine e_call ?_
   | refine e_blt ?_
   | refine e_isi ?_
   | refine e_mth ?_
   | refine e_lrg ?_
   | refine e_lc ?_
   | refine es_nil ?_
   | refine es_cons ?_
   | refine o_none ?_
   | refine o_some ?_
   | refine w_test ?_
   | refine wc_nil ?_
   | refine wc_one ?_
   | refine i_seq ?_
   | refine i_rng ?_
   | refine i_rgd ?_
   | refine i_enm ?_
   | refine i_zip ?_
   | refine i_rev ?_
   | refine b_add ?_
   | refine b_sub ?_
   | refine c_lt ?_
   | refine c_le ?_
   | refine c_gt ?_
   | refine c_ge ?_
   | refine c_eqI ?_
   | refine c_neI ?_
   | refine c_eqB ?_
   | refine c_neB ?_
   | refine c_is ?_
   | refine c_isnot ?_
   | refine l_lenT ?_
   | refine l_abs ?_
   | refine l_int ?_
   | refine l_max2 ?_
   | refine l_max3 ?_
   | refine l_min3 ?_
   | refine l_max4 ?_
   | refine l_min4 ?_
   | refine l_min2 ?_
   | refine l_tupT ?_
   | refine sl_tup ?_
   | refine ex_int ?_
   | refine ex_truB ?_
   | refine ex_truT ?_
   | refine ex_truI ?_
   | refine if_tt ?_
   | refine if_ff ?_
   | refine l_lstT ?_
   | (apply e_var; focus with_unfolding_all rfl)
   | (refine if_dT ?_ ?_; focus assumption)
   | (refine if_dF ?_ ?_; focus assumption)
   | (refine if_bT ?_ ?_; focus assumption)
   | (refine if_bF ?_ ?_; focus assumption)
   | (refine if_nT ?_ ?_; focus assumption)
   | (refine if_nF ?_ ?_; focus assumption)
   | (refine if_ndT ?_ ?_; focus assumption)
   | (refine if_ndF ?_ ?_; focus assumption)
   | (refine if_bT ?_ ?_; focus with_unfolding_all decide)
   | (refine if_bF ?_ ?_; focus with_unfolding_all decide)
   | (refine b_mulR ?_ ?_; focus with_unfolding_all decide)
   | (refine b_mulF ?_ ?_; focus with_unfolding_all decide)
   | (refine b_mod ?_ ?_; focus (first | decide | omega))
   | (apply ex_isi; focus with_unfolding_all rfl)
   | (apply st_ix; (focus ((repeat (first | assumption | exact get_new | (refine get_new' ?_; focus (first | omega | (simp only [List.length_append, List.length_set, List.length_cons, List.length_nil, List.length_map]; omega))) | apply get_set_self | refine get_set (by (first | omega | (simp only [List.length_append, List.length_set, List.length_cons, List.length_nil, List.length_map]; omega))) ?_ | refine get_app ?_ | (apply Ext.get (by assumption)) | (refine Fr.get (by assumption) (by omega) ?_))); done)); focus with_unfolding_all rfl)
   | (apply ix_ref; (focus ((repeat (first | assumption | exact get_new | (refine get_new' ?_; focus (first | omega | (simp only [List.length_append, List.length_set, List.length_cons, List.length_nil, List.length_map]; omega))) | apply get_set_self | refine get_set (by (first | omega | (simp only [List.length_append, List.length_set, List.length_cons, List.length_nil, List.length_map]; omega))) ?_ | refine get_app ?_ | (apply Ext.get (by assumption)) | (refine Fr.get (by assumption) (by omega) ?_))); done)); focus with_unfolding_all rfl)
   | (apply ix_tup; focus with_unfolding_all rfl)
   | (apply l_lenR; focus ((repeat (first | assumption | exact get_new | (refine get_new' ?_; focus (first | omega | (simp only [List.length_append, List.length_set, List.length_cons, List.length_nil, List.length_map]; omega))) | apply get_set_self | refine get_set (by (first | omega | (simp only [List.length_append, List.length_set, List.length_cons, List.length_nil, List.length_map]; omega))) ?_ | refine get_app ?_ | (apply Ext.get (by assumption)) | (refine Fr.get (by assumption) (by omega) ?_))); done))
   | (apply l_tupR; focus ((repeat (first | assumption | exact get_new | (refine get_new' ?_; focus (first | omega | (simp only [List.length_append, List.length_set, List.length_cons, List.length_nil, List.length_map]; omega))) | apply get_set_self | refine get_set (by (first | omega | (simp only [List.length_append, List.length_set, List.length_cons, List.length_nil, List.length_map]; omega))) ?_ | refine get_app ?_ | (apply Ext.get (by assumption)) | (refine Fr.get (by assumption) (by omega) ?_))); done))
   | (apply l_lstR; focus ((repeat (first | assumption | exact get_new | (refine get_new' ?_; focus (first | omega | (simp only [List.length_append, List.length_set, List.length_cons, List.length_nil, List.length_map]; omega))) | apply get_set_self | refine get_set (by (first | omega | (simp only [List.length_append, List.length_set, List.length_cons, List.length_nil, List.length_map]; omega))) ?_ | refine get_app ?_ | (apply Ext.get (by assumption)) | (refine Fr.get (by assumption) (by omega) ?_))); done))
   | (apply sl_ref; focus ((repeat (first | assumption | exact get_new | (refine get_new' ?_; focus (first | omega | (simp only [List.length_append, List.length_set, List.length_cons, List.length_nil, List.length_map]; omega))) | apply get_set_self | refine get_set (by (first | omega | (simp only [List.length_append, List.length_set, List.length_cons, List.length_nil, List.length_map]; omega))) ?_ | refine get_app ?_ | (apply Ext.get (by assumption)) | (refine Fr.get (by assumption) (by omega) ?_))); done))
   | (refine and_step ?_ ?_; focus (with_unfolding_all decide)))
  (try dsimp only [List.set_cons_zero, List.set_cons_succ, isNon, Bool.not_true, Bool.not_false, beq_self_eq_true, List.length_cons, List.length_nil])))
local macro_rules | `(tactic| walk_at "q") => `(tactic|
 repeat (
  (with_reducible first
   | refine ss_last ?_
   | refine ss_set ?_
   | refine ss_setT ?_
   | refine ss_par ?_
   | refine ss_setIx ?_
   | refine ss_setDx ?_
   | refine ss_ex ?_
   | refine ss_for ?_
   | refine ss_whl ?_
   | refine ss_ret ?_
   | refine ss_retN ?_
   | refine ss_brk ?_
   | refine ss_cnt ?_
   | refine ss_pas ?_
   | refine ss_nil ?_
   | refine s_set ?_
   | refine s_setT ?_
   | refine s_par ?_
   | refine par_cons ?_
   | refine par_nil ?_
   | refine s_setIx ?_
   | refine s_setDx ?_
   | refine s_ex ?_
   | refine s_ite ?_
   | refine s_for ?_
   | refine s_whl ?_
   | refine s_ret ?_
   | refine s_retN ?_
   | refine s_brk ?_
   | refine s_cnt ?_
   | refine s_pas ?_
   | refine e_cint ?_
   | refine e_cstr ?_
   | refine e_cbl ?_
   | refine e_cnon ?_
   | refine e_bin ?_
   | refine e_neg ?_
   | refine e_cmp ?_
   | refine e_cmp2 ?_
   | refine e_cmp3 ?_
   | refine e_smt ?_
   | refine e_dnw ?_
   | refine e_dsp ?_
   | refine e_dix ?_
   | refine e_dgt ?_
   | refine e_dsr ?_
   | refine e_dcm ?_
   | refine e_din ?_
   | refine e_sup ?_
   | refine e_lc2 ?_
   | refine e_and ?_
   | refine e_or ?_
   | refine e_not ?_
   | refine e_ite ?_
   | refine e_tup ?_
   | refine e_lst ?_
   | refine e_ix ?_
   | refine e_sl ?_
   | refine e_call ?_
   | refine e_blt ?_
   | refine e_isi ?_
   | refine e_mth ?_
   | refine e_lrg ?_
   | refine e_lc ?_
   | refine es_nil ?_
   | refine es_cons ?_
   | refine o_none ?_
   | refine o_some ?_
   | refine w_test ?_
   | refine wc_nil ?_
   | refine wc_one ?_
   | refine i_seq ?_
   | refine i_rng ?_
   | refine i_rgd ?_
   | refine i_enm ?_
   | refine i_zip ?_
   | refine i_rev ?_
   | refine b_add ?_
   | refine b_sub ?_
   | refine c_lt ?_
   | refine c_le ?_
   | refine c_gt ?_
   | refine c_ge ?_
   | refine c_eqI ?_
   | refine c_neI ?_
   | refine c_eqB ?_
   | refine c_neB ?_
   | refine c_is ?_
   | refine c_isnot ?_
   | refine l_lenT ?_
   | refine l_abs ?_
   | refine l_int ?_
   | refine l_max2 ?_
   | refine l_max3 ?_
   | refine l_min3 ?_
   | refine l_max4 ?_
   | refine l_min4 ?_
   | refine l_min2 ?_
   | refine l_tupT ?_
   | refine sl_tup ?_
   | refine ex_int ?_
   | refine ex_truB ?_
   | refine ex_truT ?_
   | refine ex_truI ?_
   | refine if_tt ?_
   | refine if_ff ?_
   | refine l_lstT ?_
   | (apply e_var; focus with_unfolding_all rfl)
   | (refine if_dT ?_ ?_; focus assumption)
   | (refine if_dF ?_ ?_; focus assumption)
   | (refine if_bT ?_ ?_; focus assumption)
   | (refine if_bF ?_ ?_; focus assumption)
   | (refine if_nT ?_ ?_; focus assumption)
   | (refine if_nF ?_ ?_; focus assumption)
   | (refine if_ndT ?_ ?_; focus assumption)
   | (refine if_ndF ?_ ?_; focus assumption)
   | (refine if_bT ?_ ?_; focus with_unfolding_all decide)
   | (refine if_bF ?_ ?_; focus with_unfolding_all decide)
   | (refine b_mulR ?_ ?_; focus with_unfolding_all decide)
   | (refine b_mulF ?_ ?_; focus with_unfolding_all decide)
   | (refine b_mod ?_ ?_; focus (first | decide | omega))
   | (apply ex_isi; focus with_unfolding_all rfl)
   | (apply st_ix; (focus ((repeat (first | assumption | exact get_new | (refine get_new' ?_; focus (first | omega | (simp only [List.length_append, List.length_set, List.length_cons, List.length_nil, List.length_map]; omega))) | apply get_set_self | refine get_set (by (first | omega | (simp only [List.length_append, List.length_set, List.length_cons, List.length_nil, List.length_map]; omega))) ?_ | refine get_app ?_ | (apply Ext.get (by assumption)) | (refine Fr.get (by assumption) (by omega) ?_))); done)); focus with_unfolding_all rfl)
   | (apply ix_ref; (focus ((repeat (first | assumption | exact get_new | (refine get_new' ?_; focus (first | omega | (simp only [List.length_append, List.length_set, List.length_cons, List.length_nil, List.length_map]; omega))) | apply get_set_self | refine get_set (by (first | omega | (simp only [List.length_append, List.length_set, List.length_cons, List.length_nil, List.length_map]; omega))) ?_ | refine get_app ?_ | (apply Ext.get (by assumption)) | (refine Fr.get (by assumption) (by omega) ?_))); done)); focus with_unfolding_all rfl)
   | (apply ix_tup; focus with_unfolding_all rfl)
   | (apply l_lenR; focus ((repeat (first | assumption | exact get_new | (refine get_new' ?_; focus (first | omega | (simp only [List.length_append, List.length_set, List.length_cons, List.length_nil, List.length_map]; omega))) | apply get_set_self | refine get_set (by (first | omega | (simp only [List.length_append, List.length_set, List.length_cons, List.length_nil, List.length_map]; omega))) ?_ | refine get_app ?_ | (apply Ext.get (by assumption)) | (refine Fr.get (by assumption) (by omega) ?_))); done))
   | (apply l_tupR; focus ((repeat (first | assumption | exact get_new | (refine get_new' ?_; focus (first | omega | (simp only [List.length_append, List.length_set, List.length_cons, List.length_nil, List.length_map]; omega))) | apply get_set_self | refine get_set (by (first | omega | (simp only [List.length_append, List.length_set, List.length_cons, List.length_nil, List.length_map]; omega))) ?_ | refine get_app ?_ | (apply Ext.get (by assumption)) | (refine Fr.get (by assumption) (by omega) ?_))); done))
   | (apply l_lstR; focus ((repeat (first | assumption | exact get_new | (refine get_new' ?_; focus (first | omega | (simp only [List.length_append, List.length_set, List.length_cons, List.length_nil, List.length_map]; omega))) | apply get_set_self | refine get_set (by (first | omega | (simp only [List.length_append, List.length_set, List.length_cons, List.length_nil, List.length_map]; omega))) ?_ | refine get_app ?_ | (apply Ext.get (by assumption)) | (refine Fr.get (by assumption) (by omega) ?_))); done))
   | (apply sl_ref; focus ((repeat (first | assumption | exact get_new | (refine get_new' ?_; focus (first | omega | (simp only [List.length_append, List.length_set, List.length_cons, List.length_nil, List.length_map]; omega))) | apply get_set_self | refine get_set (by (first | omega | (simp only [List.length_append, List.length_set, List.length_cons, List.length_nil, List.length_map]; omega))) ?_ | refine get_app ?_ | (apply Ext.get (by assumption)) | (refine Fr.get (by assumption) (by omega) ?_))); done))
   | (refine and_step ?_ ?_; focus (with_unfolding_all decide)))
  (try dsimp only [List.set_cons_zero, List.set_cons_succ, isNon, Bool.not_true, Bool.not_false, beq_self_eq_true, List.length_cons, List.length_nil])))
local macro_rules | `(tactic| walk_at "frs") => `(tactic| (repeat (first | assumption | exact Fr.refl _ | refine Fr.app ?_ _ | (refine Fr.set ?_ _ (by omega)) | (refine Fr.trans ?_ (by assumption)) | (refine Fr.trans ?_ (Ext.fr (by assumption))))))
local macro_rules | `(tactic| walk_at "tps") => `(tactic| (repeat (first | assumption | refine Tp.app ?_ _ | (refine Tp.set ?_ _ (by omega)) | exact Tp.ext (by assumption) (by assumption))))
local macro_rules | `(tactic| walk_at "alli") => `(tactic| (repeat (first | exact AllI.nil | refine AllI.cons (by omega) (by omega) ?_)))
local macro_rules | `(tactic| walk_at "allz") => `(tactic| (repeat (first | exact AllZ.nil | refine AllZ.cons ?_)))
theorem draw_ok {k : Nat} {S : St} {m : Int} {Q : QD} (tp : Tp S) (hm : m < 2 ^ 30)
    (q : ∀ r S', Fr S S' → Tp S' → 0 ≤ r → r < max m 1 → Q (.int r) S') : callW T (k + 1) i__law_draw [.ref 2, .int m] S Q := by
  refine call_of T__law_draw rfl ?_
  dsimp only [f__law_draw, b__law_draw, startD, List.map, List.length_cons, List.length_nil, Nat.reduceAdd, Nat.reduceSub, List.replicate, List.cons_append, List.nil_append, List.append_nil]
  obtain ⟨ns, a, b, c, h1, h2, ha, hb, hc⟩ := tp
  walk_at "r"
  refine ss_cut (callW_mono T k) (fun σ' S' => ∃ a c' b' n p, σ' = [some (.ref 2), some (.int m), n, p] ∧ Fr S S' ∧ S'[1]? = some (.lst (ns.map D.int)) ∧ S'[2]? = some (.lst [.ref 1, .int a, .int b', .int c']) ∧ 0 ≤ a ∧ 0 ≤ b' ∧ 0 ≤ c') ?_ ?_
  · walk_at "r"
    refine if_d (fun hb0 => ?_) (fun hb0 => ?_)
    · walk_at "r"
      refine ss_cut (callW_mono T k) (fun σ' S' => ∃ c' n, σ' = [some (.ref 2), some (.int m), some (.int n), some (.int a)] ∧ Fr S S' ∧ S'[1]? = some (.lst (ns.map D.int)) ∧ S'[2]? = some (.lst [.ref 1, .int a, .int b, .int c']) ∧ 0 ≤ n ∧ 0 ≤ c') ?_ ?_
      · walk_at "r"
        rw [List.length_map]
        refine if_d (fun hl => ?_) (fun hl => ?_)
        · walk_at "r"
          have hl' : a.toNat < ns.length := by omega
          refine ix_ref (by walk_at "lk") (atI_int ha (by rw [List.getElem?_map, List.getElem?_eq_getElem hl']; rfl)) ?_
          walk_at "r"
          exact ⟨c, _, rfl, Fr.refl S, h1, by subst hb0; exact h2, by split <;> omega, hc⟩
        · walk_at "r"

          obtain ⟨r0, r1⟩ := fmod_rng (c * 48271 + a + 1) 2147483647 (by decide)
          exact ⟨_, _, rfl, (Fr.refl S).setT _, by walk_at "lk", by subst hb0; exact get_set_self h2, r0, r0⟩
      · rintro σ' S' ⟨c', n, rfl, fr, g1, g2, hn, hc'⟩
        walk_at "r"
        refine ss_cons ?_
        walk_at "r"
        refine b_pow ⟨by decide, by decide, by decide⟩ ?_
        walk_at "r"
        refine if_d (fun hl => ?_) (fun hl => ?_)
        · walk_at "r"
          have hm1 : (if 1 > m then 1 else m) = max m 1 := by omega
          rw [hm1]
          obtain ⟨r0, r1⟩ := fmod_rng (((n * 48271 + a * 69621 + 5).fmod 2147483647 * 69621).fmod 2147483629) (max m 1) (by omega)
          exact q _ _ (fr.setT _) ⟨ns, a + 1, b, c', by walk_at "lk", get_set_self g2, by omega, hb, hc'⟩ r0 r1
        · walk_at "r"
          exact ⟨a + 1, c', n, _, _, rfl, (fr.setT _).setT _, by walk_at "lk", get_set_self (get_set_self g2), by omega, hn, hc'⟩
    · walk_at "r"
      exact ⟨a, c, b, _, _, rfl, Fr.refl S, h1, h2, ha, hb, hc⟩
  · rintro σ' S' ⟨a, c', b', n, p, rfl, fr, g1, g2, ha, hb, hc⟩
    walk_at "r"
    have hm1 : (if 1 > m then 1 else m) = max m 1 := by omega
    have hm2 : (if 2 > m then 2 else m) = max m 2 := by omega
    rw [hm2]
    refine b_fdiv (by omega) ?_
    walk_at "r"
    rw [hm1]
    obtain ⟨r0, r1⟩ := fmod_rng b' (max m 1) (by omega)
    exact q _ _ (fr.setT _) ⟨ns, a, b'.fdiv (max m 2), c', by walk_at "lk", get_set_self g2, ha, Int.fdiv_nonneg hb (by omega), hc⟩ r0 r1

theorem pickL {k : Nat} {S : St} {n : Nat} {xs : List D} {Q : QD} (tp : Tp S) (h : S[n]? = some (.lst xs)) (hn : n ≠ 2) (h0 : 0 < xs.length) (h1 : xs.length < 2 ^ 30)
    (q : ∀ d S', d ∈ xs → Fr S S' → Tp S' → Q d S') : callW T (k + 2) i__law_pick [.ref 2, .ref n] S Q := by
  refine call_of T__law_pick rfl ?_
  dsimp only [f__law_pick, b__law_pick, startD, List.map, List.length_cons, List.length_nil, Nat.reduceAdd, Nat.reduceSub, List.replicate, List.cons_append, List.nil_append, List.append_nil]
  walk_at "r"
  refine draw_ok tp (by omega) fun r S' fr tp' r0 r1 => ?_
  have hr : r.toNat < xs.length := by omega
  refine ix_ref (by walk_at "lk") (atI_int r0 (List.getElem?_eq_getElem hr)) ?_
  exact q _ _ (List.getElem_mem hr) fr tp'
theorem pickN {k : Nat} {S : St} {xs : List D} {Q : QD} (tp : Tp S) (h0 : 0 < xs.length) (h1 : xs.length < 2 ^ 30)
    (q : ∀ d S', d ∈ xs → Fr S S' → Tp S' → Q d S') : callW T (k + 2) i__law_pick [.ref 2, .ref S.length] (S ++ [.lst xs]) Q :=
  pickL (tp.app _) get_new (by have := tp.len; omega) h0 h1 fun d S' hd fr tp' => q d S' hd (((Fr.refl _).app _).trans fr) tp'
theorem pickI {k : Nat} {S : St} {lo hi : Int} {xs : List D} {Q : QD} (tp : Tp S) (h : AllI lo hi xs) (h0 : 0 < xs.length) (h1 : xs.length < 2 ^ 30)
    (q : ∀ i S', lo ≤ i → i ≤ hi → Fr S S' → Tp S' → Q (.int i) S') : callW T (k + 2) i__law_pick [.ref 2, .ref S.length] (S ++ [.lst xs]) Q :=
  pickN tp h0 h1 fun d S' hd fr tp' => by
    obtain ⟨i, rfl, i0, i1⟩ := h.mem d hd
    exact q i S' i0 i1 fr tp'
/-- i is one of these -/
def memI (i : Int) : List D → Prop
  | [] => False
  | .int j :: r => i = j ∨ memI i r
  | _ :: r => memI i r
theorem memI_of {i : Int} : ∀ {xs : List D}, D.int i ∈ xs → memI i xs
  | [], h => by cases h
  | .int j :: r, h => by
    rcases List.mem_cons.1 h with h | h
    · cases h; exact Or.inl rfl
    · exact Or.inr (memI_of h)
  | .non :: r, h => memI_of (xs := r) (by rcases List.mem_cons.1 h with h | h; cases h; exact h)
  | .bl _ :: r, h => memI_of (xs := r) (by rcases List.mem_cons.1 h with h | h; cases h; exact h)
  | .str _ :: r, h => memI_of (xs := r) (by rcases List.mem_cons.1 h with h | h; cases h; exact h)
  | .tup _ :: r, h => memI_of (xs := r) (by rcases List.mem_cons.1 h with h | h; cases h; exact h)
  | .ref _ :: r, h => memI_of (xs := r) (by rcases List.mem_cons.1 h with h | h; cases h; exact h)
theorem pickJ {k : Nat} {S : St} {xs : List D} {Q : QD} (tp : Tp S) (h : AllZ xs) (h0 : 0 < xs.length) (h1 : xs.length < 2 ^ 30)
    (q : ∀ i S', memI i xs → Fr S S' → Tp S' → Q (.int i) S') : callW T (k + 2) i__law_pick [.ref 2, .ref S.length] (S ++ [.lst xs]) Q :=
  pickN tp h0 h1 fun d S' hd fr tp' => by
    obtain ⟨i, rfl⟩ := h.mem d hd
    exact q i S' (memI_of hd) fr tp'
local macro_rules | `(tactic| walk_at "m") => `(tactic|
 repeat (
  (with_reducible first
   | refine ss_last ?_
   | refine ss_set ?_
   | refine ss_setT ?_
   | refine ss_par ?_
   | refine ss_setIx ?_
   | refine ss_setDx ?_
   | refine ss_ex ?_
   | refine ss_for ?_
   | refine ss_whl ?_
   | refine ss_ret ?_
   | refine ss_retN ?_
   | refine ss_brk ?_
   | refine ss_cnt ?_
   | refine ss_pas ?_
   | refine ss_iteR ?_
   | refine ss_iteC ?_
   | refine ss_iteB ?_
   | refine ss_nil ?_
   | refine s_set ?_
   | refine s_setT ?_
   | refine s_par ?_
   | refine par_cons ?_
   | refine par_nil ?_
   | refine s_setIx ?_
   | refine s_setDx ?_
   | refine s_ex ?_
   | refine s_ite ?_
   | refine s_for ?_
   | refine s_whl ?_
   | refine s_ret ?_
   | refine s_retN ?_
   | refine s_brk ?_
   | refine s_cnt ?_
   | refine s_pas ?_
   | refine e_cint ?_
   | refine e_cstr ?_
   | refine e_cbl ?_
   | refine e_cnon ?_
   | refine e_bin ?_
   | refine e_neg ?_
   | refine e_cmp ?_
   | refine e_cmp2 ?_
   | refine e_cmp3 ?_
   | refine e_smt ?_
   | refine e_dnw ?_
   | refine e_dsp ?_
   | refine e_dix ?_
   | refine e_dgt ?_
   | refine e_dsr ?_
   | refine e_dcm ?_
   | refine e_din ?_
   | refine e_sup ?_
   | refine e_lc2 ?_
   | refine e_and ?_
   | refine e_or ?_
   | refine e_not ?_
   | refine e_ite ?_
   | refine e_tup ?_
   | refine e_lst ?_
   | refine e_ix ?_
   | refine e_sl ?_
   | refine e_call ?_
   | refine e_blt ?_
   | refine e_isi ?_
   | refine e_mth ?_
   | refine e_lrg ?_
   | refine e_lc ?_
   | refine es_nil ?_
   | refine es_cons ?_
   | refine o_none ?_
   | refine o_some ?_
   | refine w_test ?_
   | refine wc_nil ?_
   | refine wc_one ?_
   | refine i_seq ?_
   | refine i_rng ?_
   | refine i_rgd ?_
   | refine i_enm ?_
   | refine i_zip ?_
   | refine i_rev ?_
   | refine b_add ?_
   | refine b_sub ?_
   | refine c_lt ?_
   | refine c_le ?_
   | refine c_gt ?_
   | refine c_ge ?_
   | refine c_eqI ?_
   | refine c_neI ?_
   | refine c_eqB ?_
   | refine c_neB ?_
   | refine c_is ?_
   | refine c_isnot ?_
   | refine l_lenT ?_
   | refine l_absm ?_
   | refine l_int ?_
   | refine l_max2m ?_
   | refine l_max3 ?_
   | refine l_min3 ?_
   | refine l_max4 ?_
   | refine l_min4 ?_
   | refine l_min2m ?_
   | refine l_tupT ?_
   | refine sl_tup ?_
   | refine ex_int ?_
   | refine ex_truB ?_
   | refine ex_truT ?_
   | refine ex_truI ?_
   | refine if_tt ?_
   | refine if_ff ?_
   | refine l_lstT ?_
   | (apply e_var; focus with_unfolding_all rfl)
   | (refine if_dT ?_ ?_; focus assumption)
   | (refine if_dF ?_ ?_; focus assumption)
   | (refine if_bT ?_ ?_; focus assumption)
   | (refine if_bF ?_ ?_; focus assumption)
   | (refine if_nT ?_ ?_; focus assumption)
   | (refine if_nF ?_ ?_; focus assumption)
   | (refine if_ndT ?_ ?_; focus assumption)
   | (refine if_ndF ?_ ?_; focus assumption)
   | (refine if_bT ?_ ?_; focus with_unfolding_all decide)
   | (refine if_bF ?_ ?_; focus with_unfolding_all decide)
   | (refine b_mulR ?_ ?_; focus with_unfolding_all decide)
   | (refine b_mulF ?_ ?_; focus with_unfolding_all decide)
   | (refine b_mod ?_ ?_; focus (first | decide | omega))
   | (apply ex_isi; focus with_unfolding_all rfl)
   | (apply st_ix; (focus ((repeat (first | assumption | exact get_new | (refine get_new' ?_; focus (first | omega | (simp only [List.length_append, List.length_set, List.length_cons, List.length_nil, List.length_map]; omega))) | apply get_set_self | refine get_set (by (first | omega | (simp only [List.length_append, List.length_set, List.length_cons, List.length_nil, List.length_map]; omega))) ?_ | refine get_app ?_ | (apply Ext.get (by assumption)) | (refine Fr.get (by assumption) (by omega) ?_))); done)); focus with_unfolding_all rfl)
   | (apply ix_ref; (focus ((repeat (first | assumption | exact get_new | (refine get_new' ?_; focus (first | omega | (simp only [List.length_append, List.length_set, List.length_cons, List.length_nil, List.length_map]; omega))) | apply get_set_self | refine get_set (by (first | omega | (simp only [List.length_append, List.length_set, List.length_cons, List.length_nil, List.length_map]; omega))) ?_ | refine get_app ?_ | (apply Ext.get (by assumption)) | (refine Fr.get (by assumption) (by omega) ?_))); done)); focus with_unfolding_all rfl)
   | (apply ix_tup; focus with_unfolding_all rfl)
   | (apply l_lenR; focus ((repeat (first | assumption | exact get_new | (refine get_new' ?_; focus (first | omega | (simp only [List.length_append, List.length_set, List.length_cons, List.length_nil, List.length_map]; omega))) | apply get_set_self | refine get_set (by (first | omega | (simp only [List.length_append, List.length_set, List.length_cons, List.length_nil, List.length_map]; omega))) ?_ | refine get_app ?_ | (apply Ext.get (by assumption)) | (refine Fr.get (by assumption) (by omega) ?_))); done))
   | (apply l_tupR; focus ((repeat (first | assumption | exact get_new | (refine get_new' ?_; focus (first | omega | (simp only [List.length_append, List.length_set, List.length_cons, List.length_nil, List.length_map]; omega))) | apply get_set_self | refine get_set (by (first | omega | (simp only [List.length_append, List.length_set, List.length_cons, List.length_nil, List.length_map]; omega))) ?_ | refine get_app ?_ | (apply Ext.get (by assumption)) | (refine Fr.get (by assumption) (by omega) ?_))); done))
   | (apply l_lstR; focus ((repeat (first | assumption | exact get_new | (refine get_new' ?_; focus (first | omega | (simp only [List.length_append, List.length_set, List.length_cons, List.length_nil, List.length_map]; omega))) | apply get_set_self | refine get_set (by (first | omega | (simp only [List.length_append, List.length_set, List.length_cons, List.length_nil, List.length_map]; omega))) ?_ | refine get_app ?_ | (apply Ext.get (by assumption)) | (refine Fr.get (by assumption) (by omega) ?_))); done))
   | (apply sl_ref; focus ((repeat (first | assumption | exact get_new | (refine get_new' ?_; focus (first | omega | (simp only [List.length_append, List.length_set, List.length_cons, List.length_nil, List.length_map]; omega))) | apply get_set_self | refine get_set (by (first | omega | (simp only [List.length_append, List.length_set, List.length_cons, List.length_nil, List.length_map]; omega))) ?_ | refine get_app ?_ | (apply Ext.get (by assumption)) | (refine Fr.get (by assumption) (by omega) ?_))); done))
   | (refine and_step ?_ ?_; focus (with_unfolding_all decide)))
  (try dsimp only [List.set_cons_zero, List.set_cons_succ, isNon, Bool.not_true, Bool.not_false, beq_self_eq_true, List.length_cons, List.length_nil])))
/-! more steps: draws, picks, tests, by themselves -/
local macro_rules | `(tactic| walk_at "om") => `(tactic| (first | decide | omega | (simp only [List.length_append, List.length_set, List.length_cons, List.length_nil, List.length_map]; omega) | ((repeat' split) <;> omega)))
local macro_rules | `(tactic| walk_at "ln") => `(tactic| (first | ((try simp only [List.length_append, List.length_set, List.length_cons, List.length_nil, List.length_map, List.length_range, List.length_zipWith]); unfold sizeLine; omega) | omega))
local macro_rules | `(tactic| walk_at "a1") => `(tactic| (first
   | ((refine draw_ok ?_ ?_ ?_); (focus (walk_at "tps"; done)); (focus (walk_at "om")); (intro y S fr tp y0 y1); (have ln := Tp.len tp); (walk_at "m"))
   | ((refine pickJ ?_ ?_ ?_ ?_ ?_); (focus (walk_at "tps"; done)); (focus (walk_at "allz"; done)); (focus (simp; done)); (focus (simp; done)); (intro y S hm fr tp); (have ln := Tp.len tp); (simp only [memI, or_false] at hm); (walk_at "m"))
   | ((with_reducible refine And.intro ?_ ?_); (focus (with_reducible apply lstD_lst; focus (walk_at "lk"; done))); (walk_at "m"))
   | ((with_reducible apply m_append); (focus (walk_at "lk"; done)); (focus (walk_at "ln")); (walk_at "m"))
   | ((with_reducible apply ix_map0); (focus assumption); (walk_at "m"))
   | ((with_reducible apply ix_mapN); (focus assumption); (walk_at "m"))
   | ((with_reducible apply ix_mapT); (focus (walk_at "om")); (focus assumption); (walk_at "m"))
   | ((with_reducible apply ix_mapR0); (focus (walk_at "lk"; done)); (focus assumption); (walk_at "m"))
   | ((with_reducible apply ix_mapR); (focus (walk_at "lk"; done)); (focus (walk_at "om")); (focus assumption); (walk_at "m"))
   | ((refine if_d ?_ ?_) <;> (intro h) <;> (first | (exfalso; omega) | walk_at "m"))
   | ((refine if_n ?_ ?_) <;> (intro h) <;> (first | (exfalso; omega) | walk_at "m"))))
local macro_rules | `(tactic| walk_at "a") => `(tactic| (walk_at "m"; (repeat' (walk_at "a1"))))
/-- the time of an event in marks -/
def tiF (mk : List (List Int)) (e : Ev) : Option Int := if e.1 = -1 then some e.2 else ((mk[e.1.toNat]?).getD [])[(e.2 + 1).toNat]?
theorem time_in_ok {k : Nat} {S : St} {mk : List (List Int)} {e : Ev} {Q : QD} (he : evK mk.length e) (q : Q (oD (tiF mk e)) S) : callW T (k + 1) i_time_in [.tup (mk.map mkD), pairD e] S Q := by
  refine call_of T_time_in rfl ?_
  dsimp only [f_time_in, b_time_in, startD, List.map, List.length_cons, List.length_nil, Nat.reduceAdd, Nat.reduceSub, List.replicate, List.cons_append, List.nil_append, List.append_nil]
  obtain ⟨a, b⟩ := e
  unfold tiF at q
  walk_at "r"
  refine ⟨_, rfl, ?_⟩
  rcases he with ⟨h1, h2, h3⟩ | ⟨h1, h2, h3⟩
  · rw [if_pos h1] at q
    dsimp only at h1
    subst h1
    walk_at "r"
    exact q
  · dsimp only at h1 h2 h3 q
    rw [if_neg (by omega)] at q
    walk_at "r"
    refine if_dF (by omega) ?_
    obtain ⟨m, hm⟩ : ∃ m, mk[a.toNat]? = some m := ⟨_, List.getElem?_eq_getElem (by omega)⟩
    rw [hm] at q
    walk_at "r"
    refine ix_mapT h1 hm ?_
    walk_at "r"
    rw [List.length_map]
    refine if_d (fun h => ?_) (fun h => ?_)
    · walk_at "r"
      rw [show (some m).getD [] = m from rfl, List.getElem?_eq_none (by omega)] at q
      exact q
    · walk_at "r"
      have hb : m[(b + 1).toNat]? = some (m[(b + 1).toNat]'(by omega)) := List.getElem?_eq_getElem _
      refine ix_mapT (by omega) hb ?_
      rw [show (some m).getD [] = m from rfl, hb] at q
      exact q
theorem mode_at_ok {k : Nat} {S : St} {p : Pr} {ms : List Int} {i : Nat} {x : Int} {Q : QD} (h : Ch p ms) (hi : i < ms.length) (hx : x = (i : Int)) (q : Q (mdD (md p ms i)) S) : callW T (k + 1) i_mode_at [pjD p, .tup (ms.map .int), .int x] S Q := by
  refine call_of T_mode_at rfl ?_
  dsimp only [f_mode_at, b_mode_at, startD, List.map, List.length_cons, List.length_nil, Nat.reduceAdd, Nat.reduceSub, List.replicate, List.cons_append, List.nil_append, List.append_nil]
  subst hx
  obtain ⟨a, m, h1, h2, h3, h4, h5⟩ := h.get hi
  walk_at "q"
  refine ix_mapN h1 ?_
  walk_at "q"
  refine ix_mapN h2 ?_
  exact ix_mapT h3 h5 q
theorem transfer_lags_ok {k : Nat} {S : St} {ts : List Tf} {Q : QD} (hl : ts.length < 10000) (q : ∀ S', Ext S S' → Q (.tup ((trL ts).map lgD)) S') : callW T (k + 1) i_transfer_lags [.tup (ts.map tfD)] S Q := by
  refine call_of T_transfer_lags rfl ?_
  dsimp only [f_transfer_lags, b_transfer_lags, startD, List.map, List.length_cons, List.length_nil, Nat.reduceAdd, Nat.reduceSub, List.replicate, List.cons_append, List.nil_append, List.append_nil]
  walk_at "r"
  refine ⟨_, rfl, ?_⟩
  refine for_inv (callW_mono T _) (fun c σ S' => ∃ v2 v3 v4 v5 v6, σ = [some (.tup (ts.map tfD)), some (.ref S.length), v2, v3, v4, v5, v6] ∧ S'[S.length]? = some (.lst (((ts.take c).foldl trS []).map lgD)) ∧ Ext S S')
    ⟨_, _, _, _, _, rfl, get_new, Ext.new ..⟩ (fun _ _ _ _ => rfl) ?_ ?_
  · rintro c x σ S' hx ⟨v2, v3, v4, v5, v6, rfl, hf, e⟩
    obtain ⟨t, ht, rfl⟩ := get_of_map hx
    refine ⟨_, rfl, ?_⟩
    have hc := (List.getElem?_eq_some_iff.1 ht).1
    rw [foldl_take_succ _ _ ht]
    have hlen := foldl_trS_len (ts.take c) []
    rw [List.length_take, List.length_nil] at hlen
    generalize (ts.take c).foldl trS [] = acc at *
    obtain ⟨cn, so, si, un⟩ := t
    cases so with
    | none =>
      walk_at "r"
      exact ⟨_, _, _, _, _, rfl, hf, e⟩
    | some so =>
      walk_at "r"
      unfold trS
      dsimp only
      refine if_nb (fun h => ?_) (fun h => ?_)
      · have hne : so.1 ≠ si.1 := of_decide_eq_false h
        walk_at "r"
        refine c_notinF (f := lgD) (x := (so, si, 0)) fa_lg (seqOf_lst hf) (lg_pl 58 _) (fun l _ => lg_pl 58 l) ?_
        walk_at "r"
        refine if_n (fun h2 => ?_) (fun h2 => ?_)
        · walk_at "r"
          refine ⟨lstD_lst hf, ?_⟩
          walk_at "r"
          refine m_append hf (by rw [List.length_map]; unfold sizeLine; omega) ?_
          walk_at "r"
          rw [if_pos ⟨hne, h2⟩, List.map_append]
          exact ⟨_, _, _, _, _, rfl, get_set_self hf, e.set _ (Nat.le_refl _)⟩
        · walk_at "r"
          rw [if_neg (fun h3 => h3.2 h2)]
          exact ⟨_, _, _, _, _, rfl, hf, e⟩
      · have hne : so.1 = si.1 := of_decide_eq_true h
        walk_at "r"
        rw [if_neg (fun h3 => h3.1 hne)]
        exact ⟨_, _, _, _, _, rfl, hf, e⟩
  · rintro σ S' ⟨v2, v3, v4, v5, v6, rfl, hf, e⟩
    rw [List.length_map, List.take_of_length_le (Nat.le_refl _)] at hf
    walk_at "r"
    exact q _ e
def lagsF (p : Pr) (ts : List Tf) : List Lg := p.ls ++ trL ts
theorem lags_of_ok {k : Nat} {S : St} {p : Pr} {ms : List Int} {ls : List Lg} {ts : List Tf} {Q : QD} (h1 : p.ls.length < 10000) (hl : ts.length < 10000) (q : ∀ S', Ext S S' → Q (.tup ((lagsF p ts).map lgD)) S') : callW T (k + 2) i_lags_of [pjD p, plnD ms ls ts] S Q := by
  refine call_of T_lags_of rfl ?_
  dsimp only [f_lags_of, b_lags_of, startD, List.map, List.length_cons, List.length_nil, Nat.reduceAdd, Nat.reduceSub, List.replicate, List.cons_append, List.nil_append, List.append_nil]
  walk_at "r"
  refine transfer_lags_ok hl fun S' e => ?_
  have := trL_len ts
  refine b_addT (by rw [List.length_map, List.length_map]; unfold sizeLine; omega) ?_
  rw [← List.map_append]
  exact q S' e
def isW (l : Lg) : Bool := decide (0 ≤ l.2.1.1) && decide (l.2.1.2 = 0) && (decide (0 ≤ l.2.2) || decide (l.1.1 = -1))
theorem is_wait_ok {k : Nat} {S : St} {l : Lg} {Q : QD} (q : Q (.bl (isW l)) S) : callW T (k + 1) i_is_wait [lgD l] S Q := by
  refine call_of T_is_wait rfl ?_
  dsimp only [f_is_wait, b_is_wait, startD, List.map, List.length_cons, List.length_nil, Nat.reduceAdd, Nat.reduceSub, List.replicate, List.cons_append, List.nil_append, List.append_nil]
  obtain ⟨⟨a, b⟩, ⟨c, d⟩, w⟩ := l
  unfold isW at q
  walk_at "r"
  refine ⟨_, rfl, ?_⟩
  walk_at "r"
  refine if_d (fun h => ?_) (fun h => ?_)
  · walk_at "r"
    refine if_d (fun h2 => ?_) (fun h2 => ?_)
    · walk_at "r"
      refine if_d (fun h3 => ?_) (fun h3 => ?_)
      · walk_at "r"
        simpa [h, h2, h3] using q
      · walk_at "r"
        simpa [h, h2, h3] using q
    · walk_at "r"
      simpa [h, h2] using q
  · walk_at "r"
    simpa [h] using q
def isU (l : Lg) : Bool := decide (l.2.1.1 = -1)
theorem is_due_ok {k : Nat} {S : St} {l : Lg} {Q : QD} (q : Q (.bl (isU l)) S) : callW T (k + 1) i_is_due [lgD l] S Q := by
  refine call_of T_is_due rfl ?_
  dsimp only [f_is_due, b_is_due, startD, List.map, List.length_cons, List.length_nil, Nat.reduceAdd, Nat.reduceSub, List.replicate, List.cons_append, List.nil_append, List.append_nil]
  walk_at "r"
  exact q
def plainF (p : Pr) (ts : List Tf) : Bool := (lagsF p ts).all fun l => isW l || isU l
theorem lagsF_len {p : Pr} {ts : List Tf} (h1 : p.ls.length < 10000) (hl : ts.length < 10000) : (lagsF p ts).length < 20000 := by
  have := trL_len ts
  unfold lagsF
  rw [List.length_append]; omega
theorem is_plain_ok {k : Nat} {S : St} {p : Pr} {ms : List Int} {ls : List Lg} {ts : List Tf} {Q : QD} (h1 : p.ls.length < 10000) (hl : ts.length < 10000) (q : ∀ S', Ext S S' → Q (.bl (plainF p ts)) S') : callW T (k + 3) i_is_plain [pjD p, plnD ms ls ts] S Q := by
  refine call_of T_is_plain rfl ?_
  dsimp only [f_is_plain, b_is_plain, startD, List.map, List.length_cons, List.length_nil, Nat.reduceAdd, Nat.reduceSub, List.replicate, List.cons_append, List.nil_append, List.append_nil]
  walk_at "r"
  refine lags_of_ok h1 hl fun S1 e1 => ?_
  have hn := lagsF_len h1 hl
  refine ⟨_, rfl, by rw [List.length_map]; unfold sizeLine; omega, ?_⟩
  refine lc_mapE (callW_mono T _) lgD (fun l => .bl (isW l || isU l)) (fun _ _ => rfl) ?_ ?_
  · intro l hl S2 e2
    refine ⟨_, rfl, ?_⟩
    walk_at "r"
    refine is_wait_ok ?_
    walk_at "r"
    cases h : isW l with
    | true => exact ⟨rfl, Ext.refl _⟩
    | false =>
      rw [if_neg (by decide)]
      walk_at "r"
      exact is_due_ok ⟨rfl, Ext.refl _⟩
  · intro S2 e2
    rw [show ((lagsF p ts).map fun l => D.bl (isW l || isU l)) = ((lagsF p ts).map fun l => isW l || isU l).map D.bl by rw [List.map_map]; rfl]
    refine l_allR get_new ?_
    rw [List.all_map]
    exact q _ ((e1.trans e2).app _)
/-- the time of an event, those that are ready counted -/
def tcF (p : Pr) (ms : List Int) (now : Int) (mk : List (List Int)) (R : List Int) (e : Ev) : Option Int :=
  if e.1 ∈ R ∧ (e.2 = 0 ∨ (md p ms e.1.toNat).tk = 0) then some now else tiF mk e
theorem time_counting_ok {k : Nat} {S : St} {p : Pr} {ms : List Int} {ls : List Lg} {ts : List Tf} {now : Int} {mk : List (List Int)} {n : Nat} {R : List Int} {e : Ev} {Q : QD} (h : Ch p ms) (hm : mk.length = ms.length) (hn : S[n]? = some (.lst (R.map D.int))) (hR : ∀ a ∈ R, 0 ≤ a) (he : evK ms.length e)
    (q : Q (oD (tcF p ms now mk R e)) S) : callW T (k + 2) i_time_counting [pjD p, runD now mk, plnD ms ls ts, .ref n, pairD e] S Q := by
  refine call_of T_time_counting rfl ?_
  dsimp only [f_time_counting, b_time_counting, startD, List.map, List.length_cons, List.length_nil, Nat.reduceAdd, Nat.reduceSub, List.replicate, List.cons_append, List.nil_append, List.append_nil]
  unfold tcF at q
  walk_at "r"
  refine ⟨_, rfl, ?_⟩
  walk_at "r"
  refine ⟨_, rfl, ?_⟩
  refine ss_if (callW_mono T _) (fun b S' => S' = S ∧ b = decide (e.1 ∈ R ∧ (e.2 = 0 ∨ (md p ms e.1.toNat).tk = 0))) ?_ ?_ ?_
  · walk_at "r"
    refine c_inF (f := D.int) fa_int (seqOf_lst hn) trivial (fun _ _ => trivial) ?_
    walk_at "r"
    refine if_d (fun h1 => ?_) (fun h1 => ?_)
    · have h0 := hR _ h1
      have hlt : e.1.toNat < ms.length := by
        rcases he with ⟨h2, _⟩ | ⟨_, h2, _⟩ <;> omega
      walk_at "r"
      refine if_d (fun h2 => ?_) (fun h2 => ?_)
      · walk_at "r"
        exact ⟨rfl, by simp [h1, h2]⟩
      · walk_at "r"
        refine mode_at_ok h hlt (by omega) ?_
        walk_at "r"
        exact ⟨rfl, by simp [h1, h2]⟩
    · walk_at "r"
      exact ⟨rfl, by simp [h1]⟩
  · rintro S' ⟨rfl, h1⟩
    rw [if_pos (of_decide_eq_true h1.symm)] at q
    walk_at "r"
    exact q
  · rintro S' ⟨rfl, h1⟩
    rw [if_neg (of_decide_eq_false h1.symm)] at q
    walk_at "r"
    exact time_in_ok (by rw [hm]; exact he) q
def ovF (p : Pr) (ms : List Int) (now : Int) (mk : List (List Int)) (R : List Int) (l : Lg) : Bool :=
  match tcF p ms now mk R l.1 with
  | none => false
  | some t => decide (l.2.2 ≤ now - t)
theorem has_waited_ok {k : Nat} {S : St} {p : Pr} {ms : List Int} {ls : List Lg} {ts : List Tf} {now : Int} {mk : List (List Int)} {n w : Nat} {R : List Int} {W : List Lg} {Q : QD} (h : Ch p ms) (hm : mk.length = ms.length) (hn : S[n]? = some (.lst (R.map D.int))) (hR : ∀ a ∈ R, 0 ≤ a)
    (hw : S[w]? = some (.lst (W.map lgD))) (hW : ∀ l ∈ W, LgK ms.length l)
    (q : Q (.bl (W.all (ovF p ms now mk R))) S) : callW T (k + 3) i_has_waited [pjD p, runD now mk, plnD ms ls ts, .ref n, .ref w] S Q := by
  refine call_of T_has_waited rfl ?_
  dsimp only [f_has_waited, b_has_waited, startD, List.map, List.length_cons, List.length_nil, Nat.reduceAdd, Nat.reduceSub, List.replicate, List.cons_append, List.nil_append, List.append_nil]
  walk_at "r"
  refine ⟨_, seqOf_lst hw, ?_⟩
  refine for_inv (callW_mono T _) (fun c σ S' => S' = S ∧ (W.take c).all (ovF p ms now mk R) = true ∧ ∃ v5 v6 v7 v8, σ = [some (pjD p), some (runD now mk), some (plnD ms ls ts), some (.ref n), some (.ref w), v5, v6, v7, v8])
    ⟨rfl, rfl, _, _, _, _, rfl⟩ (fun _ _ _ h => by rw [h.1]; exact still_ref hw) ?_ ?_
  · rintro c x σ S' hx ⟨rfl, ha, v5, v6, v7, v8, rfl⟩
    obtain ⟨l, hl, rfl⟩ := get_of_map hx
    have hk := hW l (List.mem_of_getElem? hl)
    refine ⟨_, rfl, ?_⟩
    walk_at "r"
    refine time_counting_ok h hm hn hR hk.1 ?_
    have hlast : ovF p ms now mk R l = false → W.all (ovF p ms now mk R) = false := fun hf => by
      rw [List.all_eq_false]
      exact ⟨l, List.mem_of_getElem? hl, by rw [hf]; decide⟩
    have hnext : ovF p ms now mk R l = true → (W.take (c + 1)).all (ovF p ms now mk R) = true := fun ht => by
      rw [take_next hl, List.all_append, ha, List.all_cons, ht]; rfl
    unfold ovF at hlast hnext
    cases ht : tcF p ms now mk R l.1 with
    | none =>
      rw [ht] at hlast
      rw [show oD none = D.non from rfl]
      walk_at "r"
      have := hlast rfl
      unfold ovF at q
      rw [this] at q
      exact q
    | some t =>
      rw [ht] at hlast hnext
      rw [show oD (some t) = D.int t from rfl]
      walk_at "r"
      refine if_d (fun h1 => ?_) (fun h1 => ?_)
      · walk_at "r"
        have := hlast (decide_eq_false (by omega))
        unfold ovF at q
        rw [this] at q
        exact q
      · walk_at "r"
        exact ⟨rfl, hnext (decide_eq_true (by omega)), _, _, _, _, rfl⟩
  · rintro σ S' ⟨rfl, ha, v5, v6, v7, v8, rfl⟩
    rw [List.length_map, List.take_of_length_le (Nat.le_refl _)] at ha
    walk_at "r"
    rw [ha] at q
    exact q
/-- those that have not started -/
def unF (mk : List (List Int)) : List Int := ((List.range mk.length).filter fun i => ((mk[i]?).getD []).isEmpty).map fun i : Nat => (i : Int)
/-- the lags for which an activity waits -/
def wtF (L : List Lg) (a : Int) : List Lg := L.filter fun l => decide (l.2.1.1 = a) && (decide (l.2.1.2 = 0) && isW l)
def stpF (p : Pr) (ms : List Int) (now : Int) (mk : List (List Int)) (L : List Lg) (R : List Int) : List Int := R.filter fun a => (wtF L a).all (ovF p ms now mk R)
def itF (f : List Int → List Int) : Nat → List Int → List Int
  | 0, R => R
  | n + 1, R => f (itF f n R)
theorem filter_same {α : Type} {p : α → Bool} {xs : List α} (h : (xs.filter p).length = xs.length) : xs.filter p = xs := by
  rw [List.filter_eq_self]
  exact List.length_filter_eq_length_iff.1 h
theorem it_fix {f : List Int → List Int} {R : List Int} {c : Nat} (h : f (itF f c R) = itF f c R) : ∀ d, itF f (c + d) R = itF f c R
  | 0 => rfl
  | d + 1 => by rw [← Nat.add_assoc, itF, it_fix h d, h]
theorem it_down {f : List Int → List Int} (hf : ∀ R, ∃ p : Int → Bool, f R = R.filter p) {R : List Int} : ∀ c, f (itF f c R) = itF f c R ∨ (itF f c R).length + c ≤ R.length
  | 0 => by right; exact Nat.le_refl _
  | c + 1 => by
    rcases it_down hf c with h | h
    · left
      rw [itF, h, h]
    · by_cases e : (f (itF f c R)).length = (itF f c R).length
      · left
        have : f (itF f c R) = itF f c R := by
          obtain ⟨p, hp⟩ := hf (itF f c R)
          rw [hp] at e ⊢
          exact filter_same e
        rw [itF, this, this]
      · right
        have hle : (f (itF f c R)).length ≤ (itF f c R).length := by
          obtain ⟨p, hp⟩ := hf (itF f c R)
          rw [hp]; exact List.length_filter_le _ _
        rw [itF]; omega
theorem it_end {f : List Int → List Int} (hf : ∀ R, ∃ p : Int → Bool, f R = R.filter p) {R : List Int} {c : Nat} (h : f (itF f c R) = itF f c R) {d : Nat} (hd : R.length ≤ d) : itF f d R = itF f c R := by
  have hfix : f (itF f d R) = itF f d R := by
    rcases it_down hf d (R := R) with h' | h'
    · exact h'
    · have : itF f d R = [] := List.length_eq_zero_iff.1 (by omega)
      obtain ⟨p, hp⟩ := hf (itF f d R)
      rw [hp, this]; rfl
  rcases Nat.le_total c d with g | g
  · obtain ⟨e, rfl⟩ := Nat.exists_eq_add_of_le g
    exact it_fix h e
  · obtain ⟨e, rfl⟩ := Nat.exists_eq_add_of_le g
    exact (it_fix hfix e).symm
theorem unF_in {mk : List (List Int)} {a : Int} (h : a ∈ unF mk) : 0 ≤ a ∧ a < mk.length ∧ mk[a.toNat]? = some [] := by
  unfold unF at h
  obtain ⟨i, hi, rfl⟩ := List.mem_map.1 h
  obtain ⟨h1, h2⟩ := List.mem_filter.1 hi
  rw [List.mem_range] at h1
  refine ⟨by omega, by omega, ?_⟩
  rw [show ((i : Int)).toNat = i by omega]
  have e := List.getElem?_eq_getElem h1
  rw [e] at h2 ⊢
  have : mk[i].isEmpty = true := h2
  rw [List.isEmpty_iff] at this
  rw [this]
theorem unF_nodup (mk : List (List Int)) : (unF mk).Nodup := by
  unfold unF
  rw [List.nodup_iff_pairwise_ne, List.pairwise_map]
  exact ((List.nodup_iff_pairwise_ne.1 List.nodup_range).filter _).imp fun h e => h (by omega)
theorem unF_len (mk : List (List Int)) : (unF mk).length ≤ mk.length := by
  unfold unF
  rw [List.length_map]
  have := List.length_filter_le (fun i => ((mk[i]?).getD []).isEmpty) (List.range mk.length)
  rw [List.length_range] at this
  exact this
def eagF (p : Pr) (ms : List Int) (now : Int) (mk : List (List Int)) (L : List Lg) : List Int := itF (stpF p ms now mk L) mk.length (unF mk)
theorem it_sub {f : List Int → List Int} (hf : ∀ R, ∃ p : Int → Bool, f R = R.filter p) {R : List Int} : ∀ c, ∀ a ∈ itF f c R, a ∈ R
  | 0, a, h => h
  | c + 1, a, h => by
    rw [itF] at h
    obtain ⟨p, hp⟩ := hf (itF f c R)
    rw [hp] at h
    exact it_sub hf c a (List.mem_filter.1 h).1
theorem it_len {f : List Int → List Int} (hf : ∀ R, ∃ p : Int → Bool, f R = R.filter p) {R : List Int} : ∀ c, (itF f c R).length ≤ R.length
  | 0 => Nat.le_refl _
  | c + 1 => by
    obtain ⟨p, hp⟩ := hf (itF f c R)
    rw [itF, hp]
    exact Nat.le_trans (List.length_filter_le _ _) (it_len hf c)
theorem stpF_f (p : Pr) (ms : List Int) (now : Int) (mk : List (List Int)) (L : List Lg) : ∀ R, ∃ q : Int → Bool, stpF p ms now mk L R = R.filter q := fun R => ⟨_, rfl⟩
/-- the lists of waits, by activity -/
structure WD (S0 S : St) (d : Nat) (m : List (Int × Nat)) (R : List Int) (L : List Lg) : Prop where
  d1 : S[d]? = some (.dic (kvI D.ref m))
  ks : m.map (·.1) = R
  nd : (m.map (·.2)).Nodup
  at' : ∀ p ∈ m, S[p.2]? = some (.lst ((wtF L p.1).map lgD))
  lo : ∀ p ∈ m, S0.length ≤ p.2
  hi : ∀ p ∈ m, p.2 ≠ d
theorem eager_starts_ok {k : Nat} {S : St} {p : Pr} {ms : List Int} {ls : List Lg} {ts : List Tf} {now : Int} {mk : List (List Int)} {Q : QD} (h : Ch p ms) (hm : mk.length = ms.length) (hml : ms.length < 1000) (h1 : p.ls.length < 10000) (hl : ts.length < 10000) (hK : ∀ l ∈ lagsF p ts, LgK ms.length l)
    (q : ∀ S', Ext S S' → Q (.tup ((eagF p ms now mk (lagsF p ts)).map fun a => pairD (a, (ms[a.toNat]?).getD 0))) S') : callW T (k + 4) i_eager_starts [pjD p, runD now mk, plnD ms ls ts] S Q := by
  refine call_of T_eager_starts rfl ?_
  dsimp only [f_eager_starts, b_eager_starts, startD, List.map, List.length_cons, List.length_nil, Nat.reduceAdd, Nat.reduceSub, List.replicate, List.cons_append, List.nil_append, List.append_nil]
  walk_at "r"
  have hun : ∀ a ∈ unF mk, 0 ≤ a ∧ a < mk.length ∧ mk[a.toNat]? = some [] := fun a ha => unF_in ha
  have hunl := unF_len mk
  refine ⟨_, rfl, ?_⟩
  rw [enum_map (α := List Int) mkD]
  refine ⟨by rw [List.length_map, List.length_range]; unfold sizeLine; omega, ?_⟩
  refine lc_filtE (callW_mono T _) (fun i : Nat => D.tup [.int (i : Nat), mkD ((mk[i]?).getD default)]) (fun i : Nat => D.int (i : Nat)) (fun i => ((mk[i]?).getD []).isEmpty) (fun _ _ => rfl) ?_ ?_
  · intro i hi S1 e1
    rw [List.mem_range] at hi
    refine ⟨_, rfl, ?_, fun _ S2 _ => ?_⟩
    · walk_at "r"
      refine c_eqU (f := D.int) (fun _ _ => trivial) ?_
      walk_at "r"
      exact ⟨rfl, Ext.refl _⟩
    · walk_at "r"
      exact ⟨rfl, Ext.refl _⟩
  intro S1 e1
  rw [show (((List.range mk.length).filter fun i => ((mk[i]?).getD []).isEmpty).map fun i : Nat => D.int (i : Nat)) = (unF mk).map D.int by unfold unF; rw [List.map_map]; rfl]
  have e1' := e1.app [MO.lst ((unF mk).map D.int)]
  have hr1 : (S1 ++ [MO.lst ((unF mk).map D.int)])[S1.length]? = some (.lst ((unF mk).map D.int)) := get_new
  have hrl : S.length ≤ S1.length := e1.len
  generalize S1 ++ [MO.lst ((unF mk).map D.int)] = S2 at *
  generalize S1.length = r0 at *
  walk_at "r"
  refine ⟨_, seqOf_lst hr1, by rw [List.length_map]; unfold sizeLine; omega, ?_⟩
  refine dc_inv (callW_mono T _) (fun i acc S' => ∃ m : List (Int × Nat), acc = kvI D.ref m ∧ m.map (·.1) = (unF mk).take i ∧ (m.map (·.2)).Nodup ∧ (∀ p ∈ m, S'[p.2]? = some (.lst [])) ∧ (∀ p ∈ m, S2.length ≤ p.2) ∧ Ext S2 S')
    ⟨[], rfl, rfl, by simp, by simp, by simp, Ext.refl _⟩ (fun i acc S' h => by obtain ⟨_, _, _, _, _, _, e⟩ := h; exact seqOf_lst (e.get hr1)) ?_ ?_
  · rintro i x acc S3 hx ⟨m, rfl, m1, m2, m3, m4, e3⟩
    obtain ⟨a, ha, rfl⟩ := get_of_map hx
    refine ⟨_, rfl, ?_⟩
    walk_at "r"
    refine ⟨.inl a, rfl, m ++ [(a, S3.length)], ?_, ?_, ?_, ?_, ?_, e3.app _⟩
    · rw [putD_kvI, aPut_new]
      rw [m1]
      intro hc
      have nd := unF_nodup mk
      rw [← List.take_append_drop i (unF mk), List.nodup_append] at nd
      refine nd.2.2 a hc a ?_ rfl
      rw [List.mem_iff_getElem?]
      exact ⟨0, by rw [List.getElem?_drop]; exact ha⟩
    · rw [List.map_append, m1, take_next ha]; rfl
    · rw [List.map_append, List.nodup_append]
      refine ⟨m2, by simp, fun x hx y hy => ?_⟩
      rw [List.mem_singleton.1 hy]
      obtain ⟨p, hp, rfl⟩ := List.mem_map.1 hx
      have := lt_of_get (m3 p hp)
      dsimp only; omega
    · intro p hp
      rcases List.mem_append.1 hp with hp | hp
      · exact get_app (m3 p hp)
      · rw [List.mem_singleton.1 hp]; exact get_new
    · intro p hp
      rcases List.mem_append.1 hp with hp | hp
      · exact m4 p hp
      · rw [List.mem_singleton.1 hp]; exact e3.len
  rintro acc S3 ⟨m, rfl, m1, m2, m3, m4, e3⟩
  rw [List.length_map, List.take_of_length_le (Nat.le_refl _)] at m1
  have hr2 := lt_of_get hr1
  have W0 : WD S (S3 ++ [MO.dic (kvI D.ref m)]) S3.length m (unF mk) [] := by
    refine ⟨get_new, m1, m2, fun p hp => get_app (m3 p hp), fun p hp => ?_, fun p hp => ?_⟩
    · have := m4 p hp; omega
    · have := lt_of_get (m3 p hp); omega
  have e4 : Ext S (S3 ++ [MO.dic (kvI D.ref m)]) := (e1'.trans e3).app _
  have hr4 : (S3 ++ [MO.dic (kvI D.ref m)])[r0]? = some (.lst ((unF mk).map D.int)) := get_app (e3.get hr1)
  have hm0 : ∀ p ∈ m, p.2 ≠ r0 := fun p hp => by have := m4 p hp; omega
  have hd0 : S.length ≤ S3.length ∧ r0 < S3.length := ⟨by have := e3.len; omega, by have := e3.len; omega⟩
  clear m1 m2 m3 m4
  generalize S3 ++ [MO.dic (kvI D.ref m)] = S4 at *
  generalize S3.length = d at *
  clear e3 e1 hr1 hr2
  walk_at "r"
  refine lags_of_ok h1 hl fun S5 e5 => ?_
  have hLn := lagsF_len h1 hl
  generalize lagsF p ts = L at *
  have W1 : WD S S5 d m (unF mk) [] := ⟨e5.get W0.d1, W0.ks, W0.nd, fun p hp => e5.get (W0.at' p hp), W0.lo, W0.hi⟩
  have hr5 := e5.get hr4
  have e5' := e4.trans e5
  clear W0 hr4 e4 e5
  refine ⟨_, rfl, ?_⟩
  refine for_inv (callW_mono T _) (fun c σ S' => ∃ v5 v7 v8, σ = [some (pjD p), some (runD now mk), some (plnD ms ls ts), some (.ref r0), some (.ref d), v5, none, v7, v8, none] ∧ WD S S' d m (unF mk) (L.take c) ∧ S'[r0]? = some (.lst ((unF mk).map D.int)) ∧ Ext S S')
    ⟨_, _, _, rfl, W1, hr5, e5'⟩ (fun _ _ _ _ => rfl) ?_ ?_
  · rintro c x σ S6 hx ⟨v5, v7, v8, rfl, W, hr6, e6⟩
    obtain ⟨l, hlc, rfl⟩ := get_of_map hx
    refine ⟨_, rfl, ?_⟩
    walk_at "r"
    refine ⟨_, rfl, ?_⟩
    have skip : (∀ a ∈ unF mk, (decide (l.2.1.1 = a) && (decide (l.2.1.2 = 0) && isW l)) = false) → WD S S6 d m (unF mk) (L.take (c + 1)) := fun hs => by
      refine ⟨W.d1, W.ks, W.nd, fun p hp => ?_, W.lo, W.hi⟩
      have ha : p.1 ∈ unF mk := by rw [← W.ks]; exact List.mem_map_of_mem hp
      have : wtF (L.take (c + 1)) p.1 = wtF (L.take c) p.1 := by
        unfold wtF
        rw [take_next hlc, List.filter_append, List.filter_cons, hs _ ha]
        simp
      rw [this]; exact W.at' p hp
    refine ss_last ?_
    refine s_if (callW_mono T _) (fun b S' => S' = S6 ∧ b = (decide (l.2.1.2 = 0) && (decide (l.2.1.1 ∈ unF mk) && isW l))) ?_ ?_ ?_
    · walk_at "r"
      refine if_d (fun h2 => ?_) (fun h2 => ?_)
      · walk_at "r"
        refine din_at W.d1 rfl ?_
        rw [valD_kvI]
        walk_at "r"
        have hk : ((aGet m l.2.1.1).map D.ref).isSome = decide (l.2.1.1 ∈ unF mk) := by
          rw [Option.isSome_map]
          by_cases g : l.2.1.1 ∈ unF mk
          · obtain ⟨v, hv⟩ := aGet_mem (m := m) (t := l.2.1.1) (by rw [W.ks]; exact g)
            rw [hv]; simp [g]
          · rw [aGet_none (by rw [W.ks]; exact g)]; simp [g]
        rw [hk]
        refine if_d (fun h3 => ?_) (fun h3 => ?_)
        · walk_at "r"
          refine is_wait_ok ?_
          walk_at "r"
          exact ⟨rfl, by simp [h2, h3]⟩
        · walk_at "r"
          exact ⟨rfl, by simp [h3]⟩
      · walk_at "r"
        exact ⟨rfl, by simp [h2]⟩
    · rintro S' ⟨rfl, hb⟩
      have hb := hb.symm
      simp only [Bool.and_eq_true, decide_eq_true_eq] at hb
      obtain ⟨b1, b2, b3⟩ := hb
      obtain ⟨v, hv⟩ := aGet_mem (m := m) (t := l.2.1.1) (by rw [W.ks]; exact b2)
      have hin := aGet_in hv
      walk_at "r"
      refine dix_at (d := .ref v) W.d1 rfl (by rw [valD_kvI, hv]; rfl) ?_
      have hcell := W.at' _ hin
      dsimp only at hcell
      have hlen : (wtF (L.take c) l.2.1.1).length < 20000 := by
        have := List.length_filter_le (fun l' : Lg => decide (l'.2.1.1 = l.2.1.1) && (decide (l'.2.1.2 = 0) && isW l')) (L.take c)
        rw [List.length_take] at this
        unfold wtF; omega
      refine ⟨lstD_lst hcell, ?_⟩
      walk_at "r"
      refine m_append hcell (by rw [List.length_map]; unfold sizeLine; omega) ?_
      walk_at "r"
      refine ⟨_, _, _, rfl, ⟨get_set (Ne.symm (W.hi _ hin)) W.d1, W.ks, W.nd, fun p' hp => ?_, W.lo, W.hi⟩, get_set (Ne.symm (hm0 _ hin)) hr6, e6.set _ (W.lo _ hin)⟩
      have ext : wtF (L.take (c + 1)) p'.1 = wtF (L.take c) p'.1 ++ if p'.1 = l.2.1.1 then [l] else [] := by
        unfold wtF
        rw [take_next hlc, List.filter_append, List.filter_cons]
        by_cases g : p'.1 = l.2.1.1
        · rw [if_pos g, g, b1, b3]; simp
        · rw [if_neg g]
          have : decide (l.2.1.1 = p'.1) = false := decide_eq_false (fun e => g e.symm)
          rw [this]; simp
      rw [ext]
      by_cases g : p'.2 = v
      · have : p' = (l.2.1.1, v) := by
          obtain ⟨i, hi⟩ := List.getElem?_of_mem hp
          obtain ⟨j, hj⟩ := List.getElem?_of_mem hin
          have hi2 : (m.map (·.2))[i]? = some v := by rw [List.getElem?_map, hi]; exact congrArg some g
          have hj2 : (m.map (·.2))[j]? = some v := by rw [List.getElem?_map, hj]; rfl
          have hij := (List.getElem?_inj (by rw [List.length_map]; exact (List.getElem?_eq_some_iff.1 hi).1) W.nd).1 (hi2.trans hj2.symm)
          subst hij
          rw [hi] at hj
          exact Option.some.inj hj
        subst this
        rw [if_pos rfl, List.map_append]
        exact get_set_self hcell
      · rw [if_neg (fun e => g (by
          obtain ⟨a', n'⟩ := p'
          dsimp only at e
          subst e
          have nd : (m.map (·.1)).Nodup := by rw [W.ks]; exact unF_nodup mk
          obtain ⟨i, hi⟩ := List.getElem?_of_mem hp
          obtain ⟨j, hj⟩ := List.getElem?_of_mem hin
          have hi2 : (m.map (·.1))[i]? = some l.2.1.1 := by rw [List.getElem?_map, hi]; rfl
          have hj2 : (m.map (·.1))[j]? = some l.2.1.1 := by rw [List.getElem?_map, hj]; rfl
          have hij := (List.getElem?_inj (by rw [List.length_map]; exact (List.getElem?_eq_some_iff.1 hi).1) nd).1 (hi2.trans hj2.symm)
          subst hij
          rw [hi] at hj
          exact congrArg (·.2) (Option.some.inj hj))), List.append_nil]
        exact get_set g (W.at' p' hp)
    · rintro S' ⟨rfl, hb⟩
      refine ss_nil ?_
      refine ⟨_, _, _, rfl, skip fun a ha => ?_, hr6, e6⟩
      have hb := hb.symm
      cases g1 : decide (l.2.1.1 = a) with
      | false => rfl
      | true =>
        have g1 := of_decide_eq_true g1
        subst g1
        rw [decide_eq_true ha] at hb
        simpa using hb
  rintro σ S6 ⟨v5, v7, v8, rfl, W, hr6, e6⟩
  rw [List.length_map, List.take_of_length_le (Nat.le_refl _)] at W
  generalize hfd : stpF p ms now mk L = f at *
  have hf : ∀ R, ∃ p : Int → Bool, f R = R.filter p := fun R => by rw [← hfd]; exact stpF_f p ms now mk L R
  walk_at "r"
  refine whl_inv (callW_mono T _) ((unF mk).length + 1) (fun j σ S' => ∃ (c r : Nat) (v6 : D), σ = [some (pjD p), some (runD now mk), some (plnD ms ls ts), some (.ref r), some (.ref d), v5, some v6, v7, v8, none] ∧ S'[r]? = some (.lst ((itF f c (unF mk)).map D.int)) ∧ WD S S' d m (unF mk) L ∧ Ext S S' ∧
      ((c = 0 ∧ v6 = .non ∧ j = (unF mk).length + 1) ∨ ∃ c', c = c' + 1 ∧ v6 = .int ((itF f c' (unF mk)).length : Int) ∧ (itF f c' (unF mk)).length ≤ j))
    ⟨0, r0, .non, rfl, hr6, W, e6, Or.inl ⟨rfl, rfl, rfl⟩⟩ ?_
  rintro j σ S7 ⟨c, r, v6, rfl, hr7, W7, e7, hv⟩
  have hsub : ∀ a ∈ itF f c (unF mk), a ∈ unF mk := it_sub hf c
  obtain ⟨bb, hbb, hF, hT⟩ : ∃ bb, (∀ S' : St, eqB S' v6 (.int ((itF f c (unF mk)).length : Int)) = some bb) ∧ (bb = false → ∃ j', j = j' + 1 ∧ (itF f c (unF mk)).length ≤ j') ∧ (bb = true → f (itF f c (unF mk)) = itF f c (unF mk)) := by
    rcases hv with ⟨rfl, rfl, rfl⟩ | ⟨c', rfl, rfl, hj⟩
    · exact ⟨false, fun S' => by rw [eqB_pl (x := .non) (y := .int _) trivial trivial]; rfl, fun _ => ⟨_, rfl, Nat.le_refl _⟩, fun h => by cases h⟩
    · refine ⟨_, fun S' => eqB_int _ _, fun h => ?_, fun h => ?_⟩
      · have h := of_decide_eq_false h
        have hle : (f (itF f c' (unF mk))).length ≤ (itF f c' (unF mk)).length := by
          obtain ⟨p, hp⟩ := hf (itF f c' (unF mk))
          rw [hp]; exact List.length_filter_le _ _
        rw [itF] at h ⊢
        exact ⟨j - 1, by omega, by omega⟩
      · have h := of_decide_eq_true h
        rw [itF] at h ⊢
        have e : f (itF f c' (unF mk)) = itF f c' (unF mk) := by
          obtain ⟨p, hp⟩ := hf (itF f c' (unF mk))
          rw [hp] at h ⊢
          exact filter_same (by omega)
        rw [e, e]
  have hlenr : (itF f c (unF mk)).length ≤ mk.length := Nat.le_trans (it_len hf c) hunl
  walk_at "r"
  rw [List.length_map]
  refine c_ne (hbb _) ?_
  walk_at "r"
  cases bb with
  | true =>
    refine if_bF rfl ?_
    walk_at "r"
    refine ⟨_, seqOf_lst hr7, by rw [List.length_map]; unfold sizeLine; omega, ?_⟩
    refine lc_mapE (callW_mono T _) D.int (fun a => pairD (a, (ms[a.toNat]?).getD 0)) (fun S' e => seqOf_lst (e.get hr7)) ?_ ?_
    · intro a ha S8 e8
      obtain ⟨a0, a1, a2⟩ := hun a (hsub a ha)
      refine ⟨_, rfl, ?_⟩
      walk_at "r"
      have hmi : ms[a.toNat]? = some (ms[a.toNat]'(by omega)) := List.getElem?_eq_getElem _
      refine ix_mapT a0 hmi ?_
      walk_at "r"
      exact ⟨by rw [hmi]; rfl, Ext.refl _⟩
    · intro S8 e8
      walk_at "r"
      have : eagF p ms now mk L = itF f c (unF mk) := by
        unfold eagF
        rw [hfd]
        exact it_end hf (hT rfl) hunl
      rw [this] at q
      exact q _ ((e7.trans e8).app _)
  | false =>
    obtain ⟨j', rfl, hj'⟩ := hF rfl
    refine if_bT rfl ?_
    refine ⟨j', rfl, ?_⟩
    walk_at "r"
    refine ⟨_, seqOf_lst hr7, by rw [List.length_map]; unfold sizeLine; omega, ?_⟩
    refine lc_filtE (callW_mono T _) D.int D.int (fun a => (wtF L a).all (ovF p ms now mk (itF f c (unF mk)))) (fun S' e => seqOf_lst (e.get hr7)) ?_ ?_
    · intro a ha S8 e8
      obtain ⟨v, hv⟩ := aGet_mem (m := m) (t := a) (by rw [W7.ks]; exact hsub a ha)
      refine ⟨_, rfl, ?_, fun _ S9 _ => ?_⟩
      · walk_at "r"
        refine dix_at (d := .ref v) (e8.get W7.d1) rfl (by rw [valD_kvI, hv]; rfl) ?_
        walk_at "r"
        refine has_waited_ok h hm (e8.get hr7) (fun a ha => (hun a (hsub a ha)).1) (e8.get (W7.at' _ (aGet_in hv))) (fun l hl => hK l (List.mem_filter.1 hl).1) ?_
        walk_at "r"
        exact ⟨rfl, Ext.refl _⟩
      · walk_at "r"
        exact ⟨rfl, Ext.refl _⟩
    · intro S8 e8
      walk_at "r"
      have e : (itF f c (unF mk)).filter (fun a => (wtF L a).all (ovF p ms now mk (itF f c (unF mk)))) = itF f (c + 1) (unF mk) := by
        rw [itF, ← hfd]; rfl
      rw [e]
      have e9 := e8.app [MO.lst ((itF f (c + 1) (unF mk)).map D.int)]
      refine ⟨c + 1, _, _, rfl, get_new, ⟨e9.get W7.d1, W7.ks, W7.nd, fun p hp => e9.get (W7.at' p hp), W7.lo, W7.hi⟩, e7.trans e9, Or.inr ⟨c, rfl, ?_, hj'⟩⟩
      rw [List.length_map]
theorem tape_ok {k : Nat} {ns : List Int} {Q : QD} (q : ∀ S', Tp S' → Q (.ref 2) S') : callW T (k + 1) i__law_tape [.ref 0] [.fro (ns.map D.int)] Q := by
  refine call_of T__law_tape rfl ?_
  dsimp only [f__law_tape, b__law_tape, startD, List.map, List.length_cons, List.length_nil, Nat.reduceAdd, Nat.reduceSub, List.replicate, List.cons_append, List.nil_append, List.append_nil]
  walk_at "r"
  refine ⟨ns.map D.int, rfl, ?_⟩
  refine for_inv (callW_mono T _) (fun i σ S' => S' = [.fro (ns.map D.int)] ∧ ∃ c k4, 0 ≤ c ∧ σ = [some (.ref 0), some (.int c), k4]) ⟨rfl, 7, _, by decide, rfl⟩ (fun i σ S' h => by rw [h.1]; rfl) ?_ ?_
  · rintro i x σ S' hx ⟨rfl, c, k4, hc, rfl⟩
    rw [List.getElem?_map] at hx
    cases hn : ns[i]? with
    | none => rw [hn] at hx; cases hx
    | some y =>
      rw [hn] at hx
      cases hx
      refine ⟨_, rfl, ?_⟩
      walk_at "r"
      exact ⟨rfl, _, _, (fmod_rng _ _ (by decide)).1, rfl⟩
  · rintro σ S' ⟨rfl, c, k4, hc, rfl⟩
    walk_at "r"
    refine ⟨ns.map D.int, rfl, ?_⟩
    walk_at "r"
    exact q _ ⟨ns, 0, 0, c, rfl, rfl, by decide, by decide, hc⟩

theorem shuffled_ok {k : Nat} {S : St} {a : Nat} {xs : List D} {Q : QD} (tp : Tp S) (ha : S[a]? = some (.lst xs)) (ha2 : a ≠ 2) (hl : xs.length < 1000)
    (q : ∀ n ys S', S.length ≤ n → S'[n]? = some (.lst ys) → ys.length = xs.length → (∀ d ∈ ys, d ∈ xs) → Fr S S' → Tp S' → Q (.ref n) S') : callW T (k + 2) i__law_shuffled [.ref 2, .ref a] S Q := by
  refine call_of T__law_shuffled rfl ?_
  dsimp only [f__law_shuffled, b__law_shuffled, startD, List.map, List.length_cons, List.length_nil, Nat.reduceAdd, Nat.reduceSub, List.replicate, List.cons_append, List.nil_append, List.append_nil]
  have hS := tp.len
  walk_at "r"
  have hn2 : (S ++ [MO.lst xs]).length = S.length + 1 := by simp
  rw [hn2]
  refine r_one (by omega) ?_
  refine for_inv (callW_mono T _) (fun i σ S' => ∃ ls ks k4, σ = [some (.ref 2), some (.ref a), some (.ref S.length), some (.ref (S.length + 1)), k4] ∧
    S'[S.length]? = some (.lst ls) ∧ S'[S.length + 1]? = some (.lst ks) ∧ ls.length + i = xs.length ∧ ks.length = i ∧
    (∀ d ∈ ls, d ∈ xs) ∧ (∀ d ∈ ks, d ∈ xs) ∧ Fr S S' ∧ Tp S') ?_ ?_ ?_ ?_
  · exact ⟨xs, [], none, rfl, get_app get_new, get_new' hn2.symm, rfl, rfl, (fun d hd => hd), (fun d hd => by cases hd), ((Fr.refl S).app _).app _, (tp.app _).app _⟩
  · intros; exact trivial
  · rintro i x σ S' hx ⟨ls, ks, k4, rfl, hl, hk, hll, hkl, al, ak, fr, tp'⟩
    obtain ⟨hi, rfl⟩ := rgD_get hx
    refine ⟨_, rfl, ?_⟩
    walk_at "r"
    refine ⟨lstD_lst hk, ?_⟩
    walk_at "r"
    refine ⟨lstD_lst hl, ?_⟩
    walk_at "r"
    refine draw_ok tp' (by omega) fun r S2 fr2 tp2 r0 r1 => ?_
    have hr : r.toNat < ls.length := by omega
    walk_at "r"
    refine m_popI (by walk_at "lk") (by omega) (seqIndex_ok r0 (by omega)) (List.getElem?_eq_getElem hr) ?_
    walk_at "r"
    have hk2 : S2[S.length + 1]? = some (.lst ks) := by walk_at "lk"
    refine m_append (get_set (by omega) hk2) (by unfold sizeLine; omega) ?_
    walk_at "r"
    have hl2 : S2[S.length]? = some (.lst ls) := by walk_at "lk"
    refine ⟨ls.eraseIdx r.toNat, ks ++ [ls[r.toNat]], _, rfl, get_set (by omega) (get_set_self hl2), get_set_self (get_set (by omega) hk2), ?_, by simp [hkl], ?_, ?_, ((fr.trans fr2).set _ (by omega)).set _ (by omega), (tp2.set _ (by omega)).set _ (by omega)⟩
    · rw [List.length_eraseIdx_of_lt hr]; omega
    · intro d hd; exact al d (List.mem_of_mem_eraseIdx hd)
    · intro d hd
      rw [List.mem_append, List.mem_singleton] at hd
      rcases hd with hd | rfl
      · exact ak d hd
      · exact al _ (List.getElem_mem hr)
  · rintro σ S' ⟨ls, ks, k4, rfl, hl, hk, hll, hkl, al, ak, fr, tp'⟩
    rw [rgD_len] at hkl
    walk_at "r"
    exact q _ _ _ (by omega) hk (by omega) ak fr tp'
theorem same_ok : ∀ (k : Nat) (d : D) (S : St) (Q : QD), plD k d → Q (.bl true) S → callW T (k + 1) i__law_same [d, d] S Q
  | k, .ref n, S, Q, h, q => by cases k <;> exact h.elim
  | k, .non, S, Q, h, q => by
    refine call_of T__law_same rfl ?_
    dsimp only [f__law_same, b__law_same, startD, List.map, List.length_cons, List.length_nil, Nat.reduceAdd, Nat.reduceSub, List.replicate, List.cons_append, List.nil_append, List.append_nil]
    walk_at "R"
    exact q
  | k, .bl b, S, Q, h, q => by
    refine call_of T__law_same rfl ?_
    dsimp only [f__law_same, b__law_same, startD, List.map, List.length_cons, List.length_nil, Nat.reduceAdd, Nat.reduceSub, List.replicate, List.cons_append, List.nil_append, List.append_nil]
    walk_at "R"
    rw [beq_self_eq_true]
    exact q
  | k, .int b, S, Q, h, q => by
    refine call_of T__law_same rfl ?_
    dsimp only [f__law_same, b__law_same, startD, List.map, List.length_cons, List.length_nil, Nat.reduceAdd, Nat.reduceSub, List.replicate, List.cons_append, List.nil_append, List.append_nil]
    walk_at "R"
    rw [decide_eq_true rfl]
    exact q
  | k, .str b, S, Q, h, q => by
    refine call_of T__law_same rfl ?_
    dsimp only [f__law_same, b__law_same, startD, List.map, List.length_cons, List.length_nil, Nat.reduceAdd, Nat.reduceSub, List.replicate, List.cons_append, List.nil_append, List.append_nil]
    walk_at "R"
    refine c_eq (eqB_self rfl (by cases k <;> exact h) (by simp [PyData.eqv])) ?_
    walk_at "R"
    exact q
  | 0, .tup xs, S, Q, h, q => h.elim
  | k + 1, .tup xs, S, Q, h, q => by
    have hx := h.1
    refine call_of T__law_same rfl ?_
    dsimp only [f__law_same, b__law_same, startD, List.map, List.length_cons, List.length_nil, Nat.reduceAdd, Nat.reduceSub, List.replicate, List.cons_append, List.nil_append, List.append_nil]
    walk_at "R"
    rw [decide_eq_true rfl]
    walk_at "R"
    refine r_one (by omega) ?_
    refine for_inv (callW_mono T _) (fun i σ S' => S' = S ∧ ∃ k4, σ = [some (.tup xs), some (.tup xs), k4]) ⟨rfl, _, rfl⟩ (fun _ _ _ _ => trivial) ?_ ?_
    · rintro i x σ S' hx ⟨rfl, k4, rfl⟩
      obtain ⟨hi, rfl⟩ := rgD_get hx
      have hi' : i < xs.length := by omega
      refine ⟨_, rfl, ?_⟩
      walk_at "R"
      refine ix_tup (atI_int (by omega) (by rw [show ((0 : Int) + (i : Int)).toNat = i by omega]; exact List.getElem?_eq_getElem hi')) ?_
      walk_at "R"
      refine ix_tup (atI_int (by omega) (by rw [show ((0 : Int) + (i : Int)).toNat = i by omega]; exact List.getElem?_eq_getElem hi')) ?_
      walk_at "R"
      refine same_ok k _ _ _ (h.2 _ (List.getElem_mem hi')) ?_
      walk_at "R"
      exact ⟨rfl, _, rfl⟩
    · rintro σ S' ⟨rfl, k4, rfl⟩
      walk_at "R"
      exact q
theorem w_takes_ok {k : Nat} {S : St} {p : Pr} {ms : List Int} {Q : QD} (h : Ch p ms) (hl : ms.length < 1000) (q : ∀ S', Ext S S' → Q (.tup ((tks p ms).map .int)) S') : callW T (k + 1) i__law_w_takes [pjD p, .tup (ms.map .int)] S Q := by
  refine call_of T__law_w_takes rfl ?_
  dsimp only [f__law_w_takes, b__law_w_takes, startD, List.map, List.length_cons, List.length_nil, Nat.reduceAdd, Nat.reduceSub, List.replicate, List.cons_append, List.nil_append, List.append_nil]
  walk_at "q"
  rw [List.length_map]
  refine r_one (by omega) ⟨by rw [rgD_len]; unfold sizeLine; omega, ?_⟩
  refine lc_fun (callW_mono T _) (fun i => .int (md p ms i).tk) (fun _ _ => trivial) ?_ ?_
  · intro i x S' hx e
    obtain ⟨hi, rfl⟩ := rgD_get hx
    obtain ⟨a, m, h1, h2, h3, h4, h5⟩ := h.get (i := i) (by omega)
    refine ⟨_, rfl, ?_⟩
    walk_at "q"
    refine ix_map0 h1 ?_
    walk_at "q"
    refine ix_map0 h2 ?_
    refine ix_mapT h3 h5 ?_
    walk_at "q"
    exact ⟨rfl, Ext.refl _⟩
  · intro S' e
    rw [rgD_len, show ((ms.length : Int) - 0).toNat = ms.length by omega]
    walk_at "q"
    have := q _ (e.app [MO.lst ((List.range ms.length).map fun i => .int (md p ms i).tk)])
    unfold tks at this
    rw [List.map_map] at this
    exact this
theorem w_ends_ok {k : Nat} {S : St} {tk bs : List Int} {Q : QD} (hl : tk.length < 1000) (hb : tk.length ≤ bs.length) (q : ∀ S', Ext S S' → Q (.int (mkF tk bs)) S') : callW T (k + 1) i__law_w_ends [.tup (tk.map .int), .tup (bs.map .int)] S Q := by
  refine call_of T__law_w_ends rfl ?_
  dsimp only [f__law_w_ends, b__law_w_ends, startD, List.map, List.length_cons, List.length_nil, Nat.reduceAdd, Nat.reduceSub, List.replicate, List.cons_append, List.nil_append, List.append_nil]
  walk_at "q"
  rw [List.length_map]
  refine r_one (by omega) ⟨by rw [rgD_len]; unfold sizeLine; omega, ?_⟩
  refine lc_fun (callW_mono T _) (fun i => .int (edF tk bs i)) (fun _ _ => trivial) ?_ ?_
  · intro i x S' hx e
    obtain ⟨hi, rfl⟩ := rgD_get hx
    have h1 : bs[i]? = some (bs[i]'(by omega)) := List.getElem?_eq_getElem _
    have h2 : tk[i]? = some (tk[i]'(by omega)) := List.getElem?_eq_getElem _
    refine ⟨_, rfl, ?_⟩
    walk_at "q"
    refine ix_map0 h1 ?_
    walk_at "q"
    refine ix_map0 h2 ?_
    walk_at "q"
    refine ⟨?_, Ext.refl _⟩
    unfold edF
    rw [h1, h2]; rfl
  · intro S' e
    rw [rgD_len, show ((tk.length : Int) - 0).toNat = tk.length by omega]
    walk_at "q"
    refine b_addL (get_app (e.get get_new)) get_new (by rw [List.length_map, List.length_range, List.length_singleton]; unfold sizeLine; omega) ?_
    rw [show [D.int 0] ++ (List.range tk.length).map (fun i => D.int (edF tk bs i)) = (0 :: (List.range tk.length).map (edF tk bs)).map D.int by rw [List.map_cons, List.map_map]; rfl]
    walk_at "q"
    refine l_maxR get_new (by rw [List.length_cons]; omega) (q _ ?_)
    exact (((Ext.new ..).trans e).app _).app _
theorem w_when_ok {k : Nat} {S : St} {tk bs : List Int} {e : Int × Int} {Q : QD} (hl : bs.length = tk.length) (he : evOk tk.length e)
    (q : Q (.int (shf tk e + if e.1 < 0 then 0 else (bs[e.1.toNat]?).getD 0)) S) : callW T (k + 1) i__law_w_when [.tup (tk.map D.int), .tup (bs.map D.int), evD e] S Q := by
  refine call_of T__law_w_when rfl ?_
  dsimp only [f__law_w_when, b__law_w_when, startD, List.map, List.length_cons, List.length_nil, Nat.reduceAdd, Nat.reduceSub, List.replicate, List.cons_append, List.nil_append, List.append_nil]
  walk_at "r"
  unfold shf at q
  refine if_d (fun h => ?_) (fun h => ?_)
  · rw [if_pos h, if_pos h, Int.add_zero] at q
    walk_at "r"
    exact q
  · obtain ⟨x, hx, ex⟩ := evOk_at he h
    obtain ⟨y, hy, ey⟩ := evOk_at (tk := bs) (e := e) (by rw [hl]; exact he) h
    rw [if_neg h, if_neg h, hx, hy] at q
    have h01 : e.2 = 0 ∨ e.2 = 1 := he.elim (fun h' => absurd h' (by omega)) (fun h' => h'.2.2)
    walk_at "r"
    refine ix_tup ey ?_
    walk_at "r"
    refine ix_tup ex ?_
    walk_at "r"
    refine b_mul (Or.inr (by omega)) ?_
    walk_at "r"
    rw [Int.add_comm]
    exact q
theorem w_load_ok {k : Nat} {S : St} {p : Pr} {ms bs : List Int} {r : Nat} {Q : QD} (ok : p.Ok) (h : As p ms bs) (hr : r < p.rs.length)
    (q : ∀ n S', S.length ≤ n → S'[n]? = some (.lst ((loadF p ms bs r).map tripD)) → Ext S S' → Q (.ref n) S') : callW T (k + 1) i__law_w_load [pjD p, .tup (ms.map .int), .tup ((tks p ms).map .int), .tup (bs.map .int), .int (r : Int)] S Q := by
  refine call_of T__law_w_load rfl ?_
  dsimp only [f__law_w_load, b__law_w_load, startD, List.map, List.length_cons, List.length_nil, Nat.reduceAdd, Nat.reduceSub, List.replicate, List.cons_append, List.nil_append, List.append_nil]
  have hal := ok.al
  have hml := h.ml
  have hrr : p.rs[r]? = some (p.rs[r]'hr) := List.getElem?_eq_getElem _
  have hclF : clF p r = (p.rs[r]'hr).cl := by unfold clF; rw [hrr]; rfl
  have hcl := (ok.rs _ (List.mem_of_getElem? hrr)).cl
  walk_at "q"
  rw [List.length_map]
  refine r_one (by omega) ⟨by rw [rgD_len]; unfold sizeLine; omega, ?_⟩
  refine lc_fun (callW_mono T _) (fun i => tripD (taskF p ms bs r i)) (fun _ _ => trivial) ?_ ?_
  · intro i x S' hx e
    obtain ⟨hi, rfl⟩ := rgD_get hx
    have hi : i < ms.length := by omega
    obtain ⟨a, m, h1, h2, h3, h4, h5⟩ := h.toCh.get hi
    obtain ⟨b, hb, b0, b1⟩ := h.get hi
    have mo := h.toCh.md_ok ok hi
    have ht := tks_get (p := p) hi
    have hdm : (md p ms i).dm[r]? = some ((md p ms i).dm[r]'(by rw [mo.dl]; exact hr)) := List.getElem?_eq_getElem _
    have hu : dmF (md p ms i) r = (md p ms i).dm[r]'(by rw [mo.dl]; exact hr) := by unfold dmF; rw [hdm]; rfl
    have hbF : bgF bs i = b := by unfold bgF; rw [hb]; rfl
    refine ⟨_, rfl, ?_⟩
    walk_at "q"
    refine ix_map0 hb ?_
    walk_at "q"
    refine ix_map0 hb ?_
    walk_at "q"
    refine ix_map0 ht ?_
    walk_at "q"
    refine ix_map0 h1 ?_
    walk_at "q"
    refine ix_map0 h2 ?_
    refine ix_mapT h3 h5 ?_
    walk_at "q"
    refine ix_mapN hdm ?_
    walk_at "q"
    refine ⟨?_, Ext.refl _⟩
    unfold taskF
    rw [hbF, hu]
  · intro S' e
    rw [rgD_len, show ((ms.length : Int) - 0).toNat = ms.length by omega]
    walk_at "q"
    refine ix_mapN hrr ?_
    walk_at "q"
    refine b_addL (get_app get_new) get_new (by rw [List.length_map, List.length_range, List.length_map]; unfold sizeLine; omega) ?_
    refine q _ _ (by have := e.len; simp; omega) ?_ (((e.app _).app _).app _)
    rw [get_new]
    unfold loadF
    rw [List.map_append, List.map_map, hclF]; rfl
theorem w_used_ok {k : Nat} {S : St} {n : Nat} {ws : List Rw} {t : Int} {Q : QD} (hn : S[n]? = some (.lst (ws.map tripD))) (hl : ws.length < 1000)
    (q : ∀ S', Ext S S' → Q (.int (usedF ws t)) S') : callW T (k + 1) i__law_w_used [.ref n, .int t] S Q := by
  refine call_of T__law_w_used rfl ?_
  dsimp only [f__law_w_used, b__law_w_used, startD, List.map, List.length_cons, List.length_nil, Nat.reduceAdd, Nat.reduceSub, List.replicate, List.cons_append, List.nil_append, List.append_nil]
  walk_at "q"
  refine ⟨_, seqOf_lst hn, by rw [List.length_map]; unfold sizeLine; omega, ?_⟩
  refine lc_filtE (callW_mono T _) tripD (fun w => D.int w.2.2) (fun w => decide (w.1 ≤ t ∧ t < w.2.1)) (fun S' e => seqOf_lst (e.get hn)) ?_ ?_
  · intro w hw S1 e1
    refine ⟨_, rfl, ?_, fun _ S2 e2 => ?_⟩
    · walk_at "q"
      refine if_d (fun g1 => ?_) (fun g1 => ?_)
      · walk_at "q"
        exact ⟨by simp [g1], Ext.refl _⟩
      · walk_at "q"
        exact ⟨by simp [g1], Ext.refl _⟩
    · walk_at "q"
      exact ⟨rfl, Ext.refl _⟩
  · intro S1 e1
    walk_at "q"
    rw [show ((ws.filter fun w => decide (w.1 ≤ t ∧ t < w.2.1)).map fun w => D.int w.2.2) = ((ws.filter fun w => decide (w.1 ≤ t ∧ t < w.2.1)).map fun w => w.2.2).map D.int by rw [List.map_map]; rfl]
    refine l_sumR get_new ?_
    rw [sum_filter]
    have : (ws.map fun x => if decide (x.1 ≤ t ∧ t < x.2.1) = true then x.2.2 else 0).sum = usedF ws t := by
      unfold usedF
      congr 1
      refine List.map_congr_left fun w _ => ?_
      by_cases g : w.1 ≤ t ∧ t < w.2.1
      · rw [if_pos g, if_pos (decide_eq_true g)]
      · rw [if_neg g, if_neg (by simpa using g)]
    rw [this]
    exact q _ (e1.app _)
theorem w_flow_ok {k : Nat} {S : St} {p : Pr} {ms bs : List Int} {v : Nat} {Q : QD} (ok : p.Ok) (h : As p ms bs) (hv : v < p.vs.length)
    (q : ∀ n S', S.length ≤ n → S'[n]? = some (.lst ((flowF p ms bs v).map pairD)) → Ext S S' → Q (.ref n) S') : callW T (k + 1) i__law_w_flow [pjD p, .tup (ms.map .int), .tup ((tks p ms).map .int), .tup (bs.map .int), .int (v : Int)] S Q := by
  refine call_of T__law_w_flow rfl ?_
  dsimp only [f__law_w_flow, b__law_w_flow, startD, List.map, List.length_cons, List.length_nil, Nat.reduceAdd, Nat.reduceSub, List.replicate, List.cons_append, List.nil_append, List.append_nil]
  have hal := ok.al
  have hml := h.ml
  walk_at "q"
  rw [List.length_map]
  refine r_one (by omega) ⟨by rw [rgD_len]; unfold sizeLine; omega, ?_⟩
  refine lc_fun (callW_mono T _) (fun i => pairD (chF (md p ms i) v)) (fun _ _ => trivial) ?_ ?_
  · intro i x S' hx e
    obtain ⟨hi, rfl⟩ := rgD_get hx
    have hi : i < ms.length := by omega
    obtain ⟨a, m, h1, h2, h3, h4, h5⟩ := h.toCh.get hi
    have mo := h.toCh.md_ok ok hi
    have hch : (md p ms i).ch[v]? = some ((md p ms i).ch[v]'(by rw [mo.cl]; exact hv)) := List.getElem?_eq_getElem _
    have hu : chF (md p ms i) v = (md p ms i).ch[v]'(by rw [mo.cl]; exact hv) := by unfold chF; rw [hch]; rfl
    refine ⟨_, rfl, ?_⟩
    walk_at "q"
    refine ix_map0 h1 ?_
    walk_at "q"
    refine ix_map0 h2 ?_
    refine ix_mapT h3 h5 ?_
    walk_at "q"
    refine ix_mapN hch ?_
    exact ⟨by rw [hu], Ext.refl _⟩
  · intro S1 e1
    rw [rgD_len, show ((ms.length : Int) - 0).toNat = ms.length by omega]
    walk_at "q"
    have hn : (S1 ++ [MO.lst ((List.range ms.length).map fun i => pairD (chF (md p ms i) v))])[S1.length]? = some (.lst ((List.range ms.length).map fun i => pairD (chF (md p ms i) v))) := get_new
    have e2 := e1.app [MO.lst ((List.range ms.length).map fun i => pairD (chF (md p ms i) v))]
    have hl1 := e1.len
    generalize S1 ++ [MO.lst ((List.range ms.length).map fun i => pairD (chF (md p ms i) v))] = S2 at *
    generalize S1.length = n at *
    rw [List.length_map]
    refine r_one (by omega) ⟨by rw [rgD_len]; unfold sizeLine; omega, ?_⟩
    refine lc_fun (callW_mono T _) (fun i => pairD (bgF bs i + (chF (md p ms i) v).1 * (md p ms i).tk, (chF (md p ms i) v).2)) (fun _ _ => trivial) ?_ ?_
    · intro i x S' hx e
      obtain ⟨hi, rfl⟩ := rgD_get hx
      have hi : i < ms.length := by omega
      obtain ⟨b, hb, b0, b1⟩ := h.get hi
      have mo := h.toCh.md_ok ok hi
      have t0 := mo.tk0
      have t1 := mo.tk1
      have ht := tks_get (p := p) hi
      have hbF : bgF bs i = b := by unfold bgF; rw [hb]; rfl
      have hg : ((List.range ms.length).map fun i => pairD (chF (md p ms i) v))[i]? = some (pairD (chF (md p ms i) v)) := by rw [List.getElem?_map, List.getElem?_range hi]; rfl
      refine ⟨_, rfl, ?_⟩
      walk_at "q"
      refine ix_map0 hb ?_
      walk_at "q"
      refine ix_map0 ht ?_
      walk_at "q"
      rw [Int.zero_add]
      refine ix_ref (e.get hn) (atI_nat hg) ?_
      walk_at "q"
      refine b_mulI (Or.inl ⟨by omega, by omega⟩) ?_
      walk_at "q"
      refine ix_ref (e.get hn) (atI_nat hg) ?_
      walk_at "q"
      refine ⟨?_, Ext.refl _⟩
      rw [hbF, Int.mul_comm]
    · intro S3 e3
      rw [rgD_len, show ((ms.length : Int) - 0).toNat = ms.length by omega]
      walk_at "q"
      refine q _ _ (by have := e3.len; have := e2.len; omega) ?_ ((e2.trans e3).app _)
      rw [get_new]
      unfold flowF
      rw [List.map_map]; rfl
theorem w_stock_ok {k : Nat} {S : St} {n v : Nat} {p : Pr} {js : List (Int × Int)} {t : Int} {Q : QD} (hv : v < p.vs.length) (hn : S[n]? = some (.lst (js.map pairD))) (hl : js.length < 1000)
    (q : ∀ S', Ext S S' → Q (.int (jV (stF0 p v) js t)) S') : callW T (k + 1) i__law_w_stock [pjD p, .int (v : Int), .ref n, .int t] S Q := by
  refine call_of T__law_w_stock rfl ?_
  dsimp only [f__law_w_stock, b__law_w_stock, startD, List.map, List.length_cons, List.length_nil, Nat.reduceAdd, Nat.reduceSub, List.replicate, List.cons_append, List.nil_append, List.append_nil]
  have hvv : p.vs[v]? = some (p.vs[v]'hv) := List.getElem?_eq_getElem _
  have hst : stF0 p v = (p.vs[v]'hv).st := by unfold stF0; rw [hvv]; rfl
  walk_at "q"
  refine ix_mapN hvv ?_
  walk_at "q"
  rw [← hst]
  refine ⟨_, seqOf_lst hn, by rw [List.length_map]; unfold sizeLine; omega, ?_⟩
  refine lc_filtE (callW_mono T _) pairD (fun w => D.int w.2) (fun w => decide (w.1 ≤ t)) (fun S' e => seqOf_lst (e.get hn)) ?_ ?_
  · intro w hw S1 e1
    refine ⟨_, rfl, ?_, fun _ S2 e2 => ?_⟩
    · walk_at "q"
      exact ⟨rfl, Ext.refl _⟩
    · walk_at "q"
      exact ⟨rfl, Ext.refl _⟩
  · intro S1 e1
    walk_at "q"
    rw [show ((js.filter fun w => decide (w.1 ≤ t)).map fun w => D.int w.2) = ((js.filter fun w => decide (w.1 ≤ t)).map fun w => w.2).map D.int by rw [List.map_map]; rfl]
    refine l_sumR get_new ?_
    walk_at "q"
    rw [sum_filter]
    have : stF0 p v + (js.map fun x => if decide (x.1 ≤ t) = true then x.2 else 0).sum = jV (stF0 p v) js t := by
      unfold jV
      congr 2
      refine List.map_congr_left fun w _ => ?_
      by_cases g : w.1 ≤ t
      · rw [if_pos g, if_pos (decide_eq_true g)]
      · rw [if_neg g, if_neg (by simpa using g)]
    rw [this]
    exact q _ (e1.app _)
theorem hand_lags_ok {k : Nat} {S : St} {ts : List Tf} {Q : QD} (hl : ts.length < 10000) (q : ∀ S', Ext S S' → Q (.tup ((trL ts).map lgD)) S') : callW T (k + 1) i__law_hand_lags [.tup (ts.map tfD)] S Q := by
  refine call_of T__law_hand_lags rfl ?_
  dsimp only [f__law_hand_lags, b__law_hand_lags, startD, List.map, List.length_cons, List.length_nil, Nat.reduceAdd, Nat.reduceSub, List.replicate, List.cons_append, List.nil_append, List.append_nil]
  walk_at "r"
  refine ⟨_, rfl, ?_⟩
  refine for_inv (callW_mono T _) (fun c σ S' => ∃ v2 v3 v4 v5, σ = [some (.tup (ts.map tfD)), some (.ref S.length), v2, v3, v4, v5] ∧ S'[S.length]? = some (.lst (((ts.take c).foldl trS []).map lgD)) ∧ Ext S S')
    ⟨_, _, _, _, rfl, get_new, Ext.new ..⟩ (fun _ _ _ _ => rfl) ?_ ?_
  · rintro c x σ S' hx ⟨v2, v3, v4, v5, rfl, hf, e⟩
    obtain ⟨t, ht, rfl⟩ := get_of_map hx
    refine ⟨_, rfl, ?_⟩
    have hc := (List.getElem?_eq_some_iff.1 ht).1
    rw [foldl_take_succ _ _ ht]
    have hlen := foldl_trS_len (ts.take c) []
    rw [List.length_take, List.length_nil] at hlen
    generalize (ts.take c).foldl trS [] = acc at *
    obtain ⟨cn, so, si, un⟩ := t
    cases so with
    | none =>
      walk_at "r"
      exact ⟨_, _, _, _, rfl, hf, e⟩
    | some so =>
      walk_at "r"
      unfold trS
      dsimp only
      refine if_nb (fun h => ?_) (fun h => ?_)
      · have hne : so.1 ≠ si.1 := of_decide_eq_false h
        walk_at "r"
        refine c_notinF (f := lgD) (x := (so, si, 0)) fa_lg (seqOf_lst hf) (lg_pl 58 _) (fun l _ => lg_pl 58 l) ?_
        walk_at "r"
        refine if_n (fun h2 => ?_) (fun h2 => ?_)
        · walk_at "r"
          refine ⟨lstD_lst hf, ?_⟩
          walk_at "r"
          refine m_append hf (by rw [List.length_map]; unfold sizeLine; omega) ?_
          walk_at "r"
          rw [if_pos ⟨hne, h2⟩, List.map_append]
          exact ⟨_, _, _, _, rfl, get_set_self hf, e.set _ (Nat.le_refl _)⟩
        · walk_at "r"
          rw [if_neg (fun h3 => h3.2 h2)]
          exact ⟨_, _, _, _, rfl, hf, e⟩
      · have hne : so.1 = si.1 := of_decide_eq_true h
        walk_at "r"
        rw [if_neg (fun h3 => h3.1 hne)]
        exact ⟨_, _, _, _, rfl, hf, e⟩
  · rintro σ S' ⟨v2, v3, v4, v5, rfl, hf, e⟩
    rw [List.length_map, List.take_of_length_le (Nat.le_refl _)] at hf
    walk_at "r"
    exact q _ e
theorem game_mode_ok {k : Nat} {S : St} {took many goods : Int} {Q : QD} (tp : Tp S) (t0 : 0 ≤ took) (t1 : took ≤ 30) (m0 : 0 ≤ many) (m1 : many ≤ 3) (g0 : 0 ≤ goods) (g1 : goods ≤ 2)
    (q : ∀ md S', md.Ok many.toNat goods.toNat → md.tk = took → Fr S S' → Tp S' → Q (mdD md) S') : callW T (k + 3) i__law_game_mode [.ref 2, .int took, .int many, .int goods] S Q := by
  refine call_of T__law_game_mode rfl ?_
  dsimp only [f__law_game_mode, b__law_game_mode, startD, List.map, List.length_cons, List.length_nil, Nat.reduceAdd, Nat.reduceSub, List.replicate, List.cons_append, List.nil_append, List.append_nil]
  have mt0 : 0 ≤ (if (1 : Int) < took then 1 else took) := by split <;> omega
  have mt1 : (if (1 : Int) < took then 1 else took) ≤ 1 := by split <;> omega
  walk_at "q"
  refine draw_ok tp (by decide) fun y S1 fr1 tp1 y0 y1 => ?_
  walk_at "q"
  generalize decide (y = 0) = wild
  refine r_one (by omega) ⟨by rw [rgD_len]; unfold sizeLine; omega, ?_⟩
  refine lc_gen (callW_mono T _) D.int (fun _ x => 0 ≤ x ∧ x ≤ 9) tp1 (fun _ _ => trivial) ?_ fun dm S2 hdl hdm fr2 tp2 => ?_
  · intro j x S' hx fr' tp'
    refine ⟨_, rfl, ?_⟩
    walk_at "q"
    have fin : ∀ (u : Int) (S3 : St), 0 ≤ u → u ≤ 9 → Fr S' S3 → Tp S3 → binW .mul (.int u) (.int (if (1 : Int) < took then 1 else took)) S3 (fun y S2 => ∃ a, y = .int a ∧ (0 ≤ a ∧ a ≤ 9) ∧ Fr S' S2 ∧ Tp S2) := fun u S3 u0 u1 fr3 tp3 => by
      refine b_mulI (Or.inl (by omega)) ⟨_, rfl, ?_, fr3, tp3⟩
      generalize (if (1 : Int) < took then 1 else took) = z at *
      have : z = 0 ∨ z = 1 := by omega
      rcases this with rfl | rfl <;> omega
    refine if_nb (fun h => ?_) (fun h => ?_)
    · walk_at "q"
      refine pickI (lo := 0) (hi := 9) tp' (by walk_at "alli") (by simp) (by simp) fun u S3 u0 u1 fr3 tp3 => ?_
      walk_at "q"
      exact fin u S3 u0 u1 fr3 tp3
    · walk_at "q"
      refine draw_ok tp' (by decide) fun y S3 fr3 tp3 y0 y1 => ?_
      walk_at "q"
      refine pickI (lo := 0) (hi := 9) tp3 (by walk_at "alli") (by simp) (by simp) fun u S4 u0 u1 fr4 tp4 => ?_
      walk_at "q"
      exact fin u S4 u0 u1 (fr3.trans fr4) tp4
  rw [rgD_len] at hdl
  walk_at "q"
  have tp2' := tp2.app [MO.lst (dm.map D.int)]
  have hdmr : (S2 ++ [MO.lst (dm.map D.int)])[S2.length]? = some (.lst (dm.map D.int)) := get_new
  have fr02 : Fr S (S2 ++ [MO.lst (dm.map D.int)]) := by walk_at "frs"
  have hl2 := tp2.len
  generalize S2 ++ [MO.lst (dm.map D.int)] = S2' at *
  generalize S2.length = rd at *
  clear fr2 tp2
  refine r_one (by omega) ⟨by rw [rgD_len]; unfold sizeLine; omega, ?_⟩
  refine lc_gen (callW_mono T _) D.int (fun _ x => -9 ≤ x ∧ x ≤ 9) tp2' (fun _ _ => trivial) ?_ fun am S3 hal ham fr3 tp3 => ?_
  · intro j x S' hx fr' tp'
    refine ⟨_, rfl, ?_⟩
    walk_at "q"
    refine if_nb (fun h => ?_) (fun h => ?_)
    · walk_at "q"
      refine pickI (lo := -9) (hi := 9) tp' (by walk_at "alli") (by simp) (by simp) fun u S3 u0 u1 fr3 tp3 => ?_
      exact ⟨u, rfl, ⟨u0, u1⟩, fr3, tp3⟩
    · walk_at "q"
      refine draw_ok tp' (by decide) fun y S3 fr3 tp3 y0 y1 => ?_
      walk_at "q"
      refine pickI (lo := -9) (hi := 9) tp3 (by walk_at "alli") (by simp) (by simp) fun u S4 u0 u1 fr4 tp4 => ?_
      exact ⟨u, rfl, ⟨u0, u1⟩, fr3.trans fr4, tp4⟩
  rw [rgD_len] at hal
  walk_at "q"
  have ham' : ∀ x ∈ am, -9 ≤ x ∧ x ≤ 9 := all_of ham fun _ _ h => h
  refine ⟨_, seqOf_lst get_new, by rw [List.length_map]; unfold sizeLine; omega, ?_⟩
  refine lc_gen (callW_mono T _) pairD (fun _ c => (c.1 = 0 ∨ c.1 = 1) ∧ -9 ≤ c.2 ∧ c.2 ≤ 9) (tp3.app _) (fun S' fr => still_ref (fr.get (by have := tp3.len; omega) get_new)) ?_ fun ch S4 hcl hch fr4 tp4 => ?_
  · intro j x S' hx fr' tp'
    obtain ⟨a, ha, rfl⟩ := get_of_map hx
    have hab := ham' a (List.mem_of_getElem? ha)
    refine ⟨_, rfl, ?_⟩
    walk_at "q"
    refine draw_ok tp' (by decide) fun y S3 fr3 tp3 y0 y1 => ?_
    walk_at "q"
    refine b_mulI (Or.inl (by omega)) ?_
    walk_at "q"
    refine ⟨(y * (if (1 : Int) < (if a < 0 then -a else a) then 1 else (if a < 0 then -a else a)), a), rfl, ⟨?_, hab⟩, fr3, tp3⟩
    have hz : (if (1 : Int) < (if a < 0 then -a else a) then 1 else (if a < 0 then -a else a)) = 0 ∨ (if (1 : Int) < (if a < 0 then -a else a) then 1 else (if a < 0 then -a else a)) = 1 := by split <;> split at * <;> omega
    show y * _ = 0 ∨ y * _ = 1
    generalize (if (1 : Int) < (if a < 0 then -a else a) then 1 else (if a < 0 then -a else a)) = z at *
    rcases hz with rfl | rfl <;> omega
  rw [List.length_map] at hcl
  walk_at "q"
  have hl3 := tp3.len
  have hl4 := tp4.len
  refine draw_ok (tp4.app _) (by decide) fun co S5 fr5 tp5 c0 c1 => ?_
  walk_at "q"
  exact q ⟨took, dm, ch, co⟩ _ ⟨t0, t1, by dsimp only; omega, all_of hdm fun _ _ h => h, by dsimp only; omega, all_of hch fun _ _ h => h, c0, by dsimp only; omega⟩ rfl (by walk_at "frs") tp5
def clsOk (c : Int × Int × Int) : Prop := 0 ≤ c.1 ∧ c.1 < c.2.1 ∧ c.2.1 ≤ 30 ∧ 1 ≤ c.2.2 ∧ c.2.2 ≤ 9
theorem game_closures_ok {k : Nat} {S : St} {now rest : Int} {Q : QD} (tp : Tp S) (r1 : rest < 1000)
    (q : ∀ (cs : List (Int × Int × Int)) S', cs.length ≤ 3 → (∀ c ∈ cs, clsOk c) → Fr S S' → Tp S' → Q (.tup (cs.map tripD)) S') : callW T (k + 3) i__law_game_closures [.ref 2, .int now, .int rest] S Q := by
  refine call_of T__law_game_closures rfl ?_
  dsimp only [f__law_game_closures, b__law_game_closures, startD, List.map, List.length_cons, List.length_nil, Nat.reduceAdd, Nat.reduceSub, List.replicate, List.cons_append, List.nil_append, List.append_nil]
  have hS := tp.len
  walk_at "a"
  rename_i n S1 fr1 tp1 hS1 hn
  refine r_one (by omega) ?_
  have hr1 : S1[S.length]? = some (.lst []) := fr1.get (by omega) get_new
  have fr1 : Fr S S1 := ((Ext.new S _).fr).trans fr1
  refine for_inv (callW_mono T _) (fun c σ S' => ∃ (cs : List (Int × Int × Int)) (v4 v5 : Option D), σ = [some (.ref 2), some (.int now), some (.int rest), some (.ref S.length), v4, v5] ∧ S'[S.length]? = some (.lst (cs.map tripD)) ∧ cs.length = c ∧ (∀ c ∈ cs, clsOk c) ∧ Fr S S' ∧ Tp S')
    ⟨[], _, _, rfl, hr1, rfl, (by simp), fr1, tp1⟩ (fun _ _ _ _ => trivial) ?_ ?_
  · rintro c x σ S2 hx ⟨cs, v4, v5, rfl, hr2, hl, hc, fr2, tp2⟩
    obtain ⟨hi, rfl⟩ := rgD_get hx
    refine ⟨_, rfl, ?_⟩
    walk_at "a"
    rename_i y S3 fr3 tp3 y0 y1 l3 z S4 fr4 tp4 z0 z1 l4 w S5 fr5 tp5 w0 w1 l5
    refine ⟨cs ++ [(_, _, _)], _, _, rfl, by rw [List.map_append]; apply get_set_self; exact fr5.get (by omega) (fr4.get (by omega) (fr3.get (by omega) hr2)), by rw [List.length_append, hl]; rfl, all_snoc hc ?_, by walk_at "frs", by walk_at "tps"⟩
    unfold clsOk
    dsimp only
    refine ⟨?_, ?_, ?_, ?_, ?_⟩ <;> omega
  · rintro σ S2 ⟨cs, v4, v5, rfl, hr2, hl, hc, fr2, tp2⟩
    rw [rgD_len] at hl
    walk_at "r"
    exact q cs S2 (by omega) hc fr2 tp2
set_option maxHeartbeats 2000000 in
theorem game_flows_ok {k : Nat} {S : St} {p : Pr} {ms bs : List Int} {Q : QD} (tp : Tp S) (ok : p.Ok) (h : As p ms bs)
    (q : ∀ n ds S', S.length ≤ n → S'[n]? = some (.lst ds) → ds.length ≤ 7 → (∀ d ∈ ds, FlOk ms.length n S' d) → Fr S S' → Tp S' → Q (.ref n) S') : callW T (k + 1) i__law_game_flows [pjD p, .tup (ms.map .int), .tup ((tks p ms).map .int), .tup (bs.map .int)] S Q := by
  refine call_of T__law_game_flows rfl ?_
  dsimp only [f__law_game_flows, b__law_game_flows, startD, List.map, List.length_cons, List.length_nil, Nat.reduceAdd, Nat.reduceSub, List.replicate, List.cons_append, List.nil_append, List.append_nil]
  have hal := ok.al
  have hrl := ok.rl
  have hvl := ok.vl
  have hml := h.ml
  have hS := tp.len
  have ev0 : ∀ i : Nat, i < ms.length → ∀ e : Int, (e = 0 ∨ e = 1) → evK ms.length ((0 + (i : Int)), e) := fun i hi e he => Or.inr ⟨by dsimp only; omega, by dsimp only; omega, he⟩
  walk_at "m"
  rw [List.length_map, List.length_map]
  refine r_one (by omega) ?_
  refine for_inv (callW_mono T _) (fun c σ S' => ∃ (ds : List D) (v6 v8 v9 v10 : Option D), σ = [some (pjD p), some (.tup (ms.map .int)), some (.tup ((tks p ms).map .int)), some (.tup (bs.map .int)), some (.int ms.length), some (.ref S.length), v6, none, v8, v9, v10, none, none, none, none, none, none, none, none, none, none, none] ∧ S'[S.length]? = some (.lst ds) ∧ ds.length = c ∧ (∀ d ∈ ds, FlOk ms.length (S.length + 1) S' d) ∧ Fr S S' ∧ Tp S')
    ⟨[], _, _, _, _, rfl, get_new, rfl, by simp, (Ext.new ..).fr, tp.app _⟩ (fun _ _ _ _ => trivial) ?_ ?_
  · rintro c x σ S1 hx ⟨ds, v6, v8, v9, v10, rfl, hd, hdl, hds, fr1, tp1⟩
    obtain ⟨hc, rfl⟩ := rgD_get hx
    have hc : c < p.rs.length := by omega
    have hS1 := tp1.len
    have hrc : p.rs[c]? = some (p.rs[c]'hc) := List.getElem?_eq_getElem _
    have hcl := (ok.rs _ (List.mem_of_getElem? hrc))
    generalize p.rs[c]'hc = R at *
    refine ⟨_, rfl, ?_⟩
    walk_at "m"
    refine r_one (by omega) ⟨by rw [rgD_len]; unfold sizeLine; omega, ?_⟩
    refine lc_gen (callW_mono T _) D.int (fun _ _ => True) tp1 (fun _ _ => trivial) ?_ ?_
    · intro i x S2 hx fr2 tp2
      obtain ⟨hi, rfl⟩ := rgD_get hx
      have hi : i < ms.length := by omega
      obtain ⟨a, m, h1, h2, h3, h4, h5⟩ := h.toCh.get hi
      have mo := h.toCh.md_ok ok hi
      have hdm : (md p ms i).dm[c]? = some ((md p ms i).dm[c]'(by rw [mo.dl]; exact hc)) := List.getElem?_eq_getElem _
      refine ⟨_, rfl, ?_⟩
      walk_at "a"
      exact ⟨trivial, Fr.refl _, tp2⟩
    intro us S2 hus _ fr2 tp2
    rw [rgD_len] at hus
    have hS2 := tp2.len
    walk_at "m"
    have hu2 : (S2 ++ [MO.lst (us.map D.int)])[S2.length]? = some (.lst (us.map D.int)) := get_new
    have fr2 : Fr S1 (S2 ++ [MO.lst (us.map D.int)]) := fr2.app _
    have tp2 := tp2.app [MO.lst (us.map D.int)]
    generalize S2 ++ [MO.lst (us.map D.int)] = S2' at *
    generalize S2.length = u at *
    refine r_one (by omega) ⟨by rw [rgD_len]; unfold sizeLine; omega, ?_⟩
    refine lc_some (callW_mono T _) fiD (FiOk ms.length) tp2 (fun _ _ => trivial) ?_ ?_
    · intro i x S3 hx fr3 tp3
      obtain ⟨hi, rfl⟩ := rgD_get hx
      have hi : i < ms.length := by omega
      have hui : us[i]? = some (us[i]'(by omega)) := List.getElem?_eq_getElem _
      obtain ⟨b, hb, b0, b1⟩ := h.get hi
      have ht := tks_get (p := p) hi
      refine ⟨_, rfl, ?_⟩
      walk_at "a"
      refine ⟨Fr.refl _, tp3, fun _ => ?_⟩
      walk_at "a"
      exact ⟨(_, (_, _), _), rfl, ev0 i hi 1 (Or.inr rfl), Fr.refl _, tp3⟩
    intro so S3 hso hsK fr3 tp3
    rw [rgD_len] at hso
    have hS3 := tp3.len
    walk_at "m"
    have hs3 : (S3 ++ [MO.lst (so.map fiD)])[S3.length]? = some (.lst (so.map fiD)) := get_new
    have fr3 : Fr S2' (S3 ++ [MO.lst (so.map fiD)]) := fr3.app _
    have tp3 := tp3.app [MO.lst (so.map fiD)]
    generalize S3 ++ [MO.lst (so.map fiD)] = S3' at *
    generalize S3.length = s1 at *
    refine r_one (by omega) ⟨by rw [rgD_len]; unfold sizeLine; omega, ?_⟩
    refine lc_some (callW_mono T _) fiD (FiOk ms.length) tp3 (fun _ _ => trivial) ?_ ?_
    · intro i x S4 hx fr4 tp4
      obtain ⟨hi, rfl⟩ := rgD_get hx
      have hi : i < ms.length := by omega
      have hui : us[i]? = some (us[i]'(by omega)) := List.getElem?_eq_getElem _
      obtain ⟨b, hb, b0, b1⟩ := h.get hi
      refine ⟨_, rfl, ?_⟩
      walk_at "a"
      refine ⟨Fr.refl _, tp4, fun _ => ?_⟩
      walk_at "a"
      exact ⟨(_, (_, _), _), rfl, ev0 i hi 0 (Or.inl rfl), Fr.refl _, tp4⟩
    intro si S4 hsi hsiK fr4 tp4
    rw [rgD_len] at hsi
    have hS4 := tp4.len
    walk_at "m"
    have hs4 : (S4 ++ [MO.lst (si.map fiD)])[S4.length]? = some (.lst (si.map fiD)) := get_new
    have fr4 : Fr S3' (S4 ++ [MO.lst (si.map fiD)]) := fr4.app _
    have tp4 := tp4.app [MO.lst (si.map fiD)]
    generalize S4 ++ [MO.lst (si.map fiD)] = S4' at *
    generalize S4.length = s2 at *
    refine ix_map0 hrc ?_
    walk_at "m"
    refine ⟨_, rfl, by rw [List.length_map]; have := hcl.cl; unfold sizeLine; omega, ?_⟩
    refine lc_mapE (callW_mono T _) tripD (fun w => fiD (w.2.1, (-1, w.2.1), w.2.2)) (fun _ _ => rfl) ?_ ?_
    · intro w hw S5 e5
      refine ⟨_, rfl, ?_⟩
      walk_at "a"
      exact ⟨rfl, Ext.refl _⟩
    intro S5 e5
    walk_at "m"
    refine b_addL (get_app (e5.get (fr4.get (by omega) hs3))) get_new (by rw [List.length_map, List.length_map]; have := hcl.cl; unfold sizeLine; omega) ?_
    rw [show (R.cl.map fun w => fiD (w.2.1, (-1, w.2.1), w.2.2)) = (R.cl.map fun w : Int × Int × Int => ((w.2.1, (-1, w.2.1), w.2.2) : Fi)).map fiD by rw [List.map_map]; rfl, ← List.map_append]
    have hso' : (so ++ R.cl.map fun w : Int × Int × Int => ((w.2.1, (-1, w.2.1), w.2.2) : Fi)).length ≤ 20 := by rw [List.length_append, List.length_map]; have := hcl.cl; omega
    have hsK' : ∀ x ∈ so ++ R.cl.map fun w : Int × Int × Int => ((w.2.1, (-1, w.2.1), w.2.2) : Fi), FiOk ms.length x := fun x hx => by
      rcases List.mem_append.1 hx with hx | hx
      · exact hsK x hx
      · obtain ⟨w, hw, rfl⟩ := List.mem_map.1 hx
        obtain ⟨c0, c1, c2, c3, c4⟩ := hcl.cs w hw
        exact Or.inl ⟨rfl, by dsimp only; omega, c2⟩
    generalize (so ++ R.cl.map fun w : Int × Int × Int => ((w.2.1, (-1, w.2.1), w.2.2) : Fi)) = so' at *
    have fr5 : Fr S4' (S5 ++ [MO.lst ((R.cl.map fun w : Int × Int × Int => ((w.2.1, (-1, w.2.1), w.2.2) : Fi)).map fiD)] ++ [MO.lst (so'.map fiD)]) := (e5.fr.app _).app _
    have tp5 : Tp (S5 ++ [MO.lst ((R.cl.map fun w : Int × Int × Int => ((w.2.1, (-1, w.2.1), w.2.2) : Fi)).map fiD)] ++ [MO.lst (so'.map fiD)]) := ((tp4.ext e5).app _).app _
    have hs5 : (S5 ++ [MO.lst ((R.cl.map fun w : Int × Int × Int => ((w.2.1, (-1, w.2.1), w.2.2) : Fi)).map fiD)] ++ [MO.lst (so'.map fiD)])[(S5 ++ [MO.lst ((R.cl.map fun w : Int × Int × Int => ((w.2.1, (-1, w.2.1), w.2.2) : Fi)).map fiD)]).length]? = some (.lst (so'.map fiD)) := get_new
    have hS5 := (tp4.ext e5).len
    have hS5c := e5.len
    have hS5b : S5.length < (S5 ++ [MO.lst ((R.cl.map fun w : Int × Int × Int => ((w.2.1, (-1, w.2.1), w.2.2) : Fi)).map fiD)]).length := by rw [List.length_append]; simp
    generalize S5 ++ [MO.lst ((R.cl.map fun w : Int × Int × Int => ((w.2.1, (-1, w.2.1), w.2.2) : Fi)).map fiD)] ++ [MO.lst (so'.map fiD)] = S5' at *
    generalize (S5 ++ [MO.lst ((R.cl.map fun w : Int × Int × Int => ((w.2.1, (-1, w.2.1), w.2.2) : Fi)).map fiD)]).length = s3 at *
    have hd5 : S5'[S.length]? = some (.lst ds) := fr5.get (by omega) (fr4.get (by omega) (fr3.get (by omega) (fr2.get (by omega) hd)))
    have fr05 : Fr S S5' := (((fr1.trans fr2).trans fr3).trans fr4).trans fr5
    have hs45 : S5'[s2]? = some (.lst (si.map fiD)) := fr5.get (by omega) hs4
    walk_at "m"
    refine ⟨lstD_lst hd5, ?_⟩
    walk_at "a"
    refine ⟨_, rfl, by rw [List.length_map]; have := hcl.cl; unfold sizeLine; omega, ?_⟩
    refine lc_mapE (callW_mono T _) tripD (fun w => fiD (w.1, (-1, w.1), w.2.2)) (fun _ _ => rfl) ?_ ?_
    · intro w hw S6 e6
      refine ⟨_, rfl, ?_⟩
      walk_at "a"
      exact ⟨rfl, Ext.refl _⟩
    intro S6 e6
    walk_at "m"
    refine b_addL (get_app (e6.get hs45)) get_new (by rw [List.length_map, List.length_map]; have := hcl.cl; unfold sizeLine; omega) ?_
    rw [show (R.cl.map fun w => fiD (w.1, (-1, w.1), w.2.2)) = (R.cl.map fun w : Int × Int × Int => ((w.1, (-1, w.1), w.2.2) : Fi)).map fiD by rw [List.map_map]; rfl, ← List.map_append]
    have hsi' : (si ++ R.cl.map fun w : Int × Int × Int => ((w.1, (-1, w.1), w.2.2) : Fi)).length ≤ 20 := by rw [List.length_append, List.length_map]; have := hcl.cl; omega
    have hsiK' : ∀ x ∈ si ++ R.cl.map fun w : Int × Int × Int => ((w.1, (-1, w.1), w.2.2) : Fi), FiOk ms.length x := fun x hx => by
      rcases List.mem_append.1 hx with hx | hx
      · exact hsiK x hx
      · obtain ⟨w, hw, rfl⟩ := List.mem_map.1 hx
        obtain ⟨c0, c1, c2, c3, c4⟩ := hcl.cs w hw
        exact Or.inl ⟨rfl, c0, by dsimp only; omega⟩
    generalize (si ++ R.cl.map fun w : Int × Int × Int => ((w.1, (-1, w.1), w.2.2) : Fi)) = si' at *
    have fr6 : Fr S5' (S6 ++ [MO.lst ((R.cl.map fun w : Int × Int × Int => ((w.1, (-1, w.1), w.2.2) : Fi)).map fiD)] ++ [MO.lst (si'.map fiD)]) := (e6.fr.app _).app _
    have tp6 : Tp (S6 ++ [MO.lst ((R.cl.map fun w : Int × Int × Int => ((w.1, (-1, w.1), w.2.2) : Fi)).map fiD)] ++ [MO.lst (si'.map fiD)]) := ((tp5.ext e6).app _).app _
    have hs6 : (S6 ++ [MO.lst ((R.cl.map fun w : Int × Int × Int => ((w.1, (-1, w.1), w.2.2) : Fi)).map fiD)] ++ [MO.lst (si'.map fiD)])[(S6 ++ [MO.lst ((R.cl.map fun w : Int × Int × Int => ((w.1, (-1, w.1), w.2.2) : Fi)).map fiD)]).length]? = some (.lst (si'.map fiD)) := get_new
    have hS6 := (tp5.ext e6).len
    have hS56 := e6.len
    have hS6b : S6.length < (S6 ++ [MO.lst ((R.cl.map fun w : Int × Int × Int => ((w.1, (-1, w.1), w.2.2) : Fi)).map fiD)]).length := by rw [List.length_append]; simp
    generalize S6 ++ [MO.lst ((R.cl.map fun w : Int × Int × Int => ((w.1, (-1, w.1), w.2.2) : Fi)).map fiD)] ++ [MO.lst (si'.map fiD)] = S6' at *
    generalize (S6 ++ [MO.lst ((R.cl.map fun w : Int × Int × Int => ((w.1, (-1, w.1), w.2.2) : Fi)).map fiD)]).length = s4 at *
    have hd6 : S6'[S.length]? = some (.lst ds) := fr6.get (by omega) hd5
    walk_at "a"
    have hlt0 := lt_of_get hd
    have hf5 := fr5.len
    have hf4 := fr4.len
    have hf3 := fr3.len
    have hf2 := fr2.len
    rw [Int.zero_add]
    refine ⟨ds ++ [.tup [cnD (.cap c), .int R.cap, .ref s3, .ref s4]], _, _, _, _, rfl, get_set_self hd6, by rw [List.length_append, hdl]; rfl, all_snoc (fun d hd => ?_) ?_, ((fr05.trans fr6).set _ (Nat.le_refl _)), tp6.set _ hS⟩
    · exact (((((hds d hd).fr (by omega) fr2).fr (by omega) fr3).fr (by omega) fr4).fr (by omega) fr5 |>.fr (by omega) fr6).set (by omega)
    · refine FlOk.mk (by omega) (by omega) (get_set (by omega) (fr6.get (by omega) hs5)) (get_set (by omega) hs6) hso' hsi' hsK' hsiK'
  · rintro σ S1 ⟨ds, v6, v8, v9, v10, rfl, hd, hdl, hds, fr1, tp1⟩
    rw [rgD_len] at hdl
    walk_at "m"
    rw [List.length_map]
    refine r_one (by omega) ?_
    refine for_inv (callW_mono T _) (fun c σ S' => ∃ (ds : List D) (v7 v9 v10 v11 v12 v13 v14 v15 v17 : Option D), σ = [some (pjD p), some (.tup (ms.map .int)), some (.tup ((tks p ms).map .int)), some (.tup (bs.map .int)), some (.int ms.length), some (.ref S.length), v6, v7, v8, v9, v10, v11, v12, v13, v14, v15, none, v17, none, none, none, none] ∧ S'[S.length]? = some (.lst ds) ∧ ds.length ≤ 3 + 2 * c ∧ (∀ d ∈ ds, FlOk ms.length (S.length + 1) S' d) ∧ Fr S S' ∧ Tp S')
      ⟨ds, _, _, _, _, _, _, _, _, _, rfl, hd, by omega, hds, fr1, tp1⟩ (fun _ _ _ _ => trivial) ?_ ?_
    · clear hd hdl hds fr1 tp1 ds S1
      rintro c x σ S1 hx ⟨ds, v7, v9, v10, v11, v12, v13, v14, v15, v17, rfl, hd, hdl, hds, fr1, tp1⟩
      obtain ⟨hc, rfl⟩ := rgD_get hx
      have hc : c < p.vs.length := by omega
      have hS1 := tp1.len
      have hvc : p.vs[c]? = some (p.vs[c]'hc) := List.getElem?_eq_getElem _
      generalize p.vs[c]'hc = V at *
      refine ⟨_, rfl, ?_⟩
      walk_at "m"
      refine r_one (by omega) ⟨by rw [rgD_len]; unfold sizeLine; omega, ?_⟩
      refine lc_gen (callW_mono T _) pairD (fun _ x => x.1 = 0 ∨ x.1 = 1) tp1 (fun _ _ => trivial) ?_ ?_
      · intro i x S2 hx fr2 tp2
        obtain ⟨hi, rfl⟩ := rgD_get hx
        have hi : i < ms.length := by omega
        obtain ⟨a, m, h1, h2, h3, h4, h5⟩ := h.toCh.get hi
        have mo := h.toCh.md_ok ok hi
        have hch : (md p ms i).ch[c]? = some ((md p ms i).ch[c]'(by rw [mo.cl]; exact hc)) := List.getElem?_eq_getElem _
        refine ⟨_, rfl, ?_⟩
        walk_at "a"
        exact ⟨_, rfl, (mo.ch _ (List.mem_of_getElem? hch)).1, Fr.refl _, tp2⟩
      intro us S2 hus hu fr2 tp2
      rw [rgD_len] at hus
      have hS2 := tp2.len
      walk_at "m"
      have hu2 : (S2 ++ [MO.lst (us.map pairD)])[S2.length]? = some (.lst (us.map pairD)) := get_new
      have fr2 : Fr S1 (S2 ++ [MO.lst (us.map pairD)]) := fr2.app _
      have tp2 := tp2.app [MO.lst (us.map pairD)]
      generalize S2 ++ [MO.lst (us.map pairD)] = S2' at *
      generalize S2.length = u at *
      refine r_one (by omega) ⟨by rw [rgD_len]; unfold sizeLine; omega, ?_⟩
      refine lc_some (callW_mono T _) fiD (FiOk ms.length) tp2 (fun _ _ => trivial) ?_ ?_
      · intro i x S3 hx fr3 tp3
        obtain ⟨hi, rfl⟩ := rgD_get hx
        have hi : i < ms.length := by omega
        have hui : us[i]? = some (us[i]'(by omega)) := List.getElem?_eq_getElem _
        have hui2 := hu i _ hui
        obtain ⟨b, hb, b0, b1⟩ := h.get hi
        have ht := tks_get (p := p) hi
        have mo := h.toCh.md_ok ok hi
        have t0 := mo.tk0
        have t1 := mo.tk1
        refine ⟨_, rfl, ?_⟩
        refine wc_nil ⟨Fr.refl _, tp3, fun _ => ?_⟩
        walk_at "a"
        refine b_mulI (Or.inl ⟨by omega, by omega⟩) ?_
        walk_at "a"
        exact ⟨(_, (_, _), _), rfl, ev0 i hi _ hui2, Fr.refl _, tp3⟩
      intro fl S3 hfl hflK fr3 tp3
      rw [rgD_len] at hfl
      have hS3 := tp3.len
      have h23 := fr3.len
      walk_at "m"
      have hs3 : (S3 ++ [MO.lst (fl.map fiD)])[S3.length]? = some (.lst (fl.map fiD)) := get_new
      have fr3 : Fr S2' (S3 ++ [MO.lst (fl.map fiD)]) := fr3.app _
      have tp3 := tp3.app [MO.lst (fl.map fiD)]
      generalize S3 ++ [MO.lst (fl.map fiD)] = S3' at *
      generalize S3.length = f at *
      have hd3 := fr3.get (by omega) (fr2.get (by omega) hd)
      have fr03 := (fr1.trans fr2).trans fr3
      have hds3 : ∀ d ∈ ds, FlOk ms.length (S.length + 1) S3' d := fun d hd => ((hds d hd).fr (by omega) fr2).fr (by omega) fr3
      have hlt0 := lt_of_get hd
      have hf2 := fr2.len
      have hf3 := fr3.len
      have hfu := lt_of_get hu2
      have hff := lt_of_get hs3
      clear fr2 fr3 tp2 hd hds fr1 tp1
      refine ⟨_, seqOf_lst get_new, ?_⟩
      refine for_inv (callW_mono T _) (fun j σ S' => ∃ (ds : List D) (v9 v10 v13 v14 v15 v17 : Option D), σ = [some (pjD p), some (.tup (ms.map .int)), some (.tup ((tks p ms).map .int)), some (.tup (bs.map .int)), some (.int ms.length), some (.ref S.length), v6, some (.int (0 + (c : Int))), v8, v9, v10, some (.ref u), some (.ref f), v13, v14, v15, none, v17, none, none, none, none] ∧ S'[S.length]? = some (.lst ds) ∧ ds.length ≤ 3 + 2 * c + j ∧ (∀ d ∈ ds, FlOk ms.length (S.length + 1) S' d) ∧ Fr S S' ∧ Tp S' ∧ S'[S3'.length]? = some (.lst [.tup [.str "least", .int 1], .tup [.str "most", .int (-1)]]) ∧ S'[f]? = some (.lst (fl.map fiD)) ∧ S3'.length ≤ S'.length)
        ⟨ds, _, _, _, _, _, _, rfl, get_app hd3, by omega, fun d hd => (hds3 d hd).fr (by omega) ((Ext.new ..).fr), fr03.app _, tp3.app _, get_new, get_app hs3, by simp⟩ (fun _ _ _ h => by obtain ⟨_, _, _, _, _, _, _, _, _, _, _, _, _, h, _⟩ := h; exact seqOf_lst h) ?_ ?_
      · rintro j x σ S4 hx ⟨ds, v9, v10, v13, v14, v15, v17, rfl, hd4, hdl4, hds4, fr4, tp4, hw4, hsf4, hl34⟩
        have hj : j < 2 := (List.getElem?_eq_some_iff.1 hx).1
        have hS4 := tp4.len
        have hlt4 := lt_of_get hw4
        have hx : (x = .tup [.str "least", .int 1] ∨ x = .tup [.str "most", .int (-1)]) := by
          have := List.mem_of_getElem? hx
          simpa using this
        obtain ⟨w, sd, cn, b, bnd, rfl, hcn, hsd, hb, hbnd⟩ : ∃ (w : Str) (sd : Int) (cn : Cn) (b : Bool) (bnd : Option Int), x = .tup [.str w, .int sd] ∧ cnD cn = .tup [.str w, .int (c : Int)] ∧ (sd = 1 ∨ sd = -1) ∧ (∀ S (Q : Bool → St → Prop), Q b S → cmpW .eq (.str w) (.str "most") S Q) ∧ L2.atI [D.str V.nm, .int V.st, oD V.lo, oD V.hi] (2 + if b then 1 else 0) = some (oD bnd) := by
          rcases hx with rfl | rfl
          · exact ⟨_, _, .lo c, false, V.lo, rfl, rfl, Or.inl rfl, fun S Q q => c_eqS (r := false) (by decide +kernel) q, rfl⟩
          · exact ⟨_, _, .hi c, true, V.hi, rfl, rfl, Or.inr rfl, fun S Q q => c_eqS (r := true) (by decide +kernel) q, rfl⟩
        clear hx
        refine ⟨_, rfl, ?_⟩
        walk_at "m"
        refine ix_map0 hvc ?_
        walk_at "m"
        refine hb _ _ ?_
        walk_at "m"
        refine l_intB ?_
        walk_at "m"
        refine ix_tup hbnd ?_
        cases bnd with
        | none =>
          rw [show oD none = D.non from rfl]
          walk_at "m"
          exact ⟨ds, _, _, _, _, _, _, rfl, hd4, by omega, hds4, fr4, tp4, hw4, hsf4, hl34⟩
        | some bd =>
          rw [show oD (some bd) = D.int bd from rfl]
          walk_at "m"
          refine ix_map0 hvc ?_
          walk_at "m"
          refine b_mulI (Or.inl ⟨by omega, by omega⟩) ?_
          walk_at "m"
          refine ⟨_, seqOf_lst hsf4, by rw [List.length_map]; unfold sizeLine; omega, ?_⟩
          refine lc_some (callW_mono T _) fiD (FiOk ms.length) tp4 (fun S' fr => still_ref (fr.get (by omega) hsf4)) ?_ ?_
          · intro i x S5 hx fr5 tp5
            obtain ⟨fi, hfi, rfl⟩ := get_of_map hx
            have hK := hflK _ (List.mem_of_getElem? hfi)
            refine ⟨_, rfl, ?_⟩
            walk_at "m"
            refine b_mulI (Or.inl ⟨by omega, by omega⟩) ?_
            walk_at "m"
            refine ⟨Fr.refl _, tp5, fun _ => ?_⟩
            walk_at "m"
            refine b_mulI (Or.inl ⟨by omega, by omega⟩) ?_
            walk_at "m"
            exact ⟨(fi.1, fi.2.1, sd * fi.2.2), rfl, hK, Fr.refl _, tp5⟩
          intro so S5 hso hsoK fr5 tp5
          rw [List.length_map] at hso
          have hS5 := tp5.len
          have h45 := fr5.len
          walk_at "m"
          have hs5 : (S5 ++ [MO.lst (so.map fiD)])[S5.length]? = some (.lst (so.map fiD)) := get_new
          have fr5 : Fr S4 (S5 ++ [MO.lst (so.map fiD)]) := fr5.app _
          have tp5 := tp5.app [MO.lst (so.map fiD)]
          generalize S5 ++ [MO.lst (so.map fiD)] = S5' at *
          generalize S5.length = s1 at *
          have hsf5 := fr5.get (show f ≠ 2 by omega) hsf4
          refine ⟨_, seqOf_lst hsf5, by rw [List.length_map]; unfold sizeLine; omega, ?_⟩
          refine lc_some (callW_mono T _) fiD (FiOk ms.length) tp5 (fun S' fr => still_ref (fr.get (by omega) hsf5)) ?_ ?_
          · intro i x S6 hx fr6 tp6
            obtain ⟨fi, hfi, rfl⟩ := get_of_map hx
            have hK := hflK _ (List.mem_of_getElem? hfi)
            refine ⟨_, rfl, ?_⟩
            walk_at "m"
            refine b_mulI (Or.inl ⟨by omega, by omega⟩) ?_
            walk_at "m"
            refine ⟨Fr.refl _, tp6, fun _ => ?_⟩
            walk_at "m"
            refine b_mulI (Or.inl ⟨by omega, by omega⟩) ?_
            walk_at "m"
            exact ⟨(fi.1, fi.2.1, -sd * fi.2.2), rfl, hK, Fr.refl _, tp6⟩
          intro si S6 hsi hsiK fr6 tp6
          rw [List.length_map] at hsi
          have hS6 := tp6.len
          walk_at "m"
          have hs6 : (S6 ++ [MO.lst (si.map fiD)])[S6.length]? = some (.lst (si.map fiD)) := get_new
          have fr6 : Fr S5' (S6 ++ [MO.lst (si.map fiD)]) := fr6.app _
          have tp6 := tp6.app [MO.lst (si.map fiD)]
          generalize S6 ++ [MO.lst (si.map fiD)] = S6' at *
          generalize S6.length = s2 at *
          have hs56 := fr6.get (show s1 ≠ 2 by omega) hs5
          have hd6 := fr6.get (by omega) (fr5.get (show S.length ≠ 2 by omega) hd4)
          have hg4 := lt_of_get hd4
          have hg5 := fr5.len
          have hg6 := fr6.len
          refine ⟨lstD_lst hd6, ?_⟩
          walk_at "m"
          refine l_intB ?_
          refine b_mulL get_new (by split <;> omega) (by
            simp only [List.length_cons, List.length_nil]
            unfold sizeLine
            split <;> omega) ?_
          walk_at "m"
          generalize hpl : (List.replicate (if decide (sd * (V.st - bd) < 0) = true then (1 : Int) else 0).toNat [D.tup [.int 0, .tup [.int (-1), .int 0], .int (-(sd * (V.st - bd)))]]).flatten = pl at *
          obtain ⟨pi, rfl, hpi, hpiK⟩ : ∃ pi : List Fi, pl = pi.map fiD ∧ pi.length ≤ 1 ∧ ∀ x ∈ pi, FiOk ms.length x := by
            rw [← hpl]
            by_cases g : sd * (V.st - bd) < 0
            · rw [decide_eq_true g]
              exact ⟨[(0, (-1, 0), -(sd * (V.st - bd)))], rfl, Nat.le_refl _, fun x hx => by rw [List.mem_singleton.1 hx]; exact Or.inl ⟨rfl, (by show (0 : Int) ≤ 0; decide), (by show (0 : Int) ≤ 30; decide)⟩⟩
            · rw [decide_eq_false g]
              exact ⟨[], rfl, by simp, by simp⟩
          clear hpl
          refine b_addL (S := S6' ++ _ ++ _) get_new (get_app (get_app hs6)) (by rw [List.length_map, List.length_map]; unfold sizeLine; omega) ?_
          rw [← List.map_append]
          have hz : (S6' ++ [MO.lst [.tup [.int 0, .tup [.int (-1), .int 0], .int (-(sd * (V.st - bd)))]]] ++ [MO.lst (pi.map fiD)] ++ [MO.lst ((pi ++ si).map fiD)])[(S6' ++ [MO.lst [.tup [.int 0, .tup [.int (-1), .int 0], .int (-(sd * (V.st - bd)))]]] ++ [MO.lst (pi.map fiD)]).length]? = some (.lst ((pi ++ si).map fiD)) := get_new
          have hzl : S6'.length < (S6' ++ [MO.lst [.tup [.int 0, .tup [.int (-1), .int 0], .int (-(sd * (V.st - bd)))]]] ++ [MO.lst (pi.map fiD)]).length := by simp only [List.length_append, List.length_cons, List.length_nil]; omega
          have e7 : Ext S6' (S6' ++ [MO.lst [.tup [.int 0, .tup [.int (-1), .int 0], .int (-(sd * (V.st - bd)))]]] ++ [MO.lst (pi.map fiD)] ++ [MO.lst ((pi ++ si).map fiD)]) := ((Ext.new ..).app _).app _
          generalize S6' ++ [MO.lst [.tup [.int 0, .tup [.int (-1), .int 0], .int (-(sd * (V.st - bd)))]]] ++ [MO.lst (pi.map fiD)] ++ [MO.lst ((pi ++ si).map fiD)] = S7 at *
          generalize (S6' ++ [MO.lst [.tup [.int 0, .tup [.int (-1), .int 0], .int (-(sd * (V.st - bd)))]]] ++ [MO.lst (pi.map fiD)]).length = s3 at *
          have hd7 := e7.get hd6
          have tp7 := tp6.ext e7
          walk_at "m"
          refine m_append hd7 (by unfold sizeLine; omega) ?_
          walk_at "m"
          rw [Int.zero_add, show D.tup [.str w, .int (c : Int)] = cnD cn from hcn.symm]
          refine ⟨ds ++ [.tup [cnD cn, .int (max (sd * (V.st - bd)) 0), .ref s1, .ref s3]], _, _, _, _, _, _, rfl, get_set_self hd7, by rw [List.length_append]; simp only [List.length_singleton]; omega, all_snoc (fun d hd => ?_) ?_, ?_, tp7.set _ hS, get_set (by omega) (e7.get (fr6.get (by omega) (fr5.get (by omega) hw4))), get_set (by omega) (e7.get (fr6.get (by omega) hsf5)), by rw [List.length_set]; have := e7.len; omega⟩
          · exact ((((hds4 d hd).fr (by omega) fr5).fr (by omega) fr6).fr (by omega) e7.fr).set (by omega)
          · refine FlOk.mk (by omega) (by omega) (get_set (by omega) (e7.get hs56)) (get_set (by omega) hz) (by omega) (by rw [List.length_append]; omega) hsoK (fun x hx => ?_)
            rcases List.mem_append.1 hx with hx | hx
            · exact hpiK x hx
            · exact hsiK x hx
          · exact (((fr4.trans fr5).trans fr6).trans e7.fr).set _ (by omega)
      · rintro σ S4 ⟨ds, v9, v10, v13, v14, v15, v17, rfl, hd4, hdl4, hds4, fr4, tp4, hw4, hsf4, hl34⟩
        exact ⟨ds, _, _, _, _, _, _, _, _, _, rfl, hd4, by simp only [List.length_cons, List.length_nil] at hdl4; omega, hds4, fr4, tp4⟩
    · rintro σ S1 ⟨ds, v7, v9, v10, v11, v12, v13, v14, v15, v17, rfl, hd, hdl, hds, fr1, tp1⟩
      rw [rgD_len] at hdl
      walk_at "m"
      exact q _ _ _ (Nat.le_refl _) hd (by omega) (fun d hd => by
        obtain ⟨c, pool, r1, r2, so, si, e, h1, h2, h3⟩ := hds d hd
        exact ⟨c, pool, r1, r2, so, si, e, by omega, by omega, h3⟩) fr1 tp1
abbrev gvD (g : Int × Option Ev × Int) : D := .tup [.int g.1, oeD g.2.1, .int g.2.2]
set_option maxHeartbeats 2000000 in
theorem game_scheme_ok {k : Nat} {S : St} {p : Pr} {r : Nat} {fs : List (List Int × List Int)} {Q : QD} (tp : Tp S) (ok : p.Ok) (hr : S[r]? = some (.lst (fs.map fun x => .tup [.tup (x.1.map .int), .tup (x.2.map .int)]))) (hr2 : r ≠ 2) (hfl : fs.length < 100000) (hfs : ∀ x ∈ fs, As p x.1 x.2)
    (q0 : ∀ S', Fr S S' → Tp S' → Q .non S') (q : ∀ ms ls ts S', (∃ bs, (ms, bs) ∈ fs) → ls.length ≤ 24 → ts.length ≤ 60 → (∀ l ∈ ls, LgK ms.length l) → (∀ t ∈ ts, TfOk ms.length t) → Fr S S' → Tp S' → Q (plnD ms ls ts) S') : callW T (k + 4) i__law_game_scheme [.ref 2, pjD p, .ref r] S Q := by
  refine call_of T__law_game_scheme rfl ?_
  dsimp only [f__law_game_scheme, b__law_game_scheme, startD, List.map, List.length_cons, List.length_nil, Nat.reduceAdd, Nat.reduceSub, List.replicate, List.cons_append, List.nil_append, List.append_nil]
  have hS := tp.len
  have hal := ok.al
  walk_at "m"
  refine c_eq (eqB_nilL (get_app hr) get_new (fun d hd => ?_)) ?_
  · obtain ⟨x, hx, rfl⟩ := List.mem_map.1 hd
    have := (hfs x hx).ml
    have := (hfs x hx).bl
    refine ⟨by simp, fun d hd => ?_⟩
    simp only [List.mem_cons, List.not_mem_nil, or_false] at hd
    rcases hd with rfl | rfl
    · exact ints_pl 58 (by omega)
    · exact ints_pl 58 (by omega)
  refine ex_truB ?_
  refine if_b (fun h => ?_) (fun h => ?_)
  · walk_at "m"
    exact q0 _ ((Ext.new ..).fr) (tp.app _)
  have hpos : 0 < fs.length := by cases fs with | nil => cases h | cons a b => exact Nat.succ_pos _
  walk_at "m"
  refine pickL (tp.app _) (get_app hr) hr2 (by rw [List.length_map]; exact hpos) (by rw [List.length_map]; omega) fun d S1 hd fr1 tp1 => ?_
  obtain ⟨⟨ms, bs⟩, hx, rfl⟩ := List.mem_map.1 hd
  have as := hfs _ hx
  dsimp only at as
  have hml := as.ml
  refine ⟨_, rfl, ?_⟩
  walk_at "m"
  refine w_takes_ok as.toCh (by omega) fun S2 e2 => ?_
  walk_at "m"
  have tp2 := tp1.ext e2
  have hS2 := tp2.len
  have fr02 : Fr S S2 := (((Ext.new S _).fr).trans fr1).trans e2.fr
  refine game_flows_ok (tp2.app _) ok as fun n ds S3 hn hds hdl hF fr3 tp3 => ?_
  have hh3 : S3[S2.length]? = some (.lst []) := fr3.get (by omega) get_new
  have fr03 : Fr S S3 := fr02.trans (((Ext.new S2 _).fr).trans fr3)
  have hSS2 := fr02.len
  refine ⟨_, seqOf_lst hds, ?_⟩
  have hds' := hds
  replace hF := fun d hd => (hF d hd).b
  have hN : n < S3.length := lt_of_get hds
  have hN3 : S3.length ≤ S3.length := Nat.le_refl _
  generalize hNd : S3.length = N at hF hN hN3
  rw [List.length_append, List.length_singleton] at hn
  have hh2 : S.length ≤ S2.length ∧ S2.length < n := ⟨hSS2, by omega⟩
  generalize S2.length = h0 at *
  clear fr3 hds fr02 e2 tp2 fr1 tp1 hd hr
  refine for_inv (callW_mono T _) (fun c σ S' => ∃ (ts : List Tf) (v9 v10 v11 v12 v13 v14 v17 v18 v19 v20 v22 : Option D), σ = [some (.ref 2), some (pjD p), some (.ref r), some (.tup ((tks p ms).map .int)), some (.ref h0), none, none, some (.tup (ms.map .int)), some (.tup (bs.map .int)), v9, v10, v11, v12, v13, v14, none, none, v17, v18, v19, v20, none, v22] ∧
      S'[h0]? = some (.lst (ts.map tfD)) ∧ ts.length ≤ c * 420 ∧ (∀ t ∈ ts, TfOk ms.length t) ∧ S'[n]? = some (.lst ds) ∧ (∀ d ∈ ds, FlB ms.length n N S' d) ∧ Fr S S' ∧ Tp S' ∧ N ≤ S'.length)
    ⟨[], _, _, _, _, _, _, _, _, _, _, _, rfl, hh3, by simp, by simp, hds', hF, fr03, tp3, by omega⟩ (fun _ _ _ h => by obtain ⟨_, _, _, _, _, _, _, _, _, _, _, _, _, _, _, _, h, _⟩ := h; exact seqOf_lst h) ?_ ?_
  · rintro c x σ S4 hx ⟨ts, v9, v10, v11, v12, v13, v14, v17, v18, v19, v20, v22, rfl, hh4, htl, htk, hn4, hF4, fr4, tp4, hN4⟩
    have hcl : c < ds.length := (List.getElem?_eq_some_iff.1 hx).1
    obtain ⟨cn, pool, r1, r2, so, si, rfl, hr1, hr2', hso, hsi, hsol, hsil, hsoK, hsiK⟩ := hF4 x (List.mem_of_getElem? hx)
    have hS4 := tp4.len
    refine ⟨_, rfl, ?_⟩
    walk_at "m"
    have hll : h0 < S4.length := lt_of_get hh4
    refine b_addL get_new (get_app hso) (by rw [List.length_map]; simp only [List.length_cons, List.length_nil]; unfold sizeLine; omega) ?_
    rw [show [D.tup [.int (-1), .non, .int pool]] ++ so.map fiD = (((-1, none, pool) : Int × Option Ev × Int) :: so.map fun x => (x.1, some x.2.1, x.2.2)).map gvD by rw [List.map_cons, List.map_map]; rfl]
    have hgl : (((-1, none, pool) : Int × Option Ev × Int) :: so.map fun x => (x.1, some x.2.1, x.2.2)).length ≤ 21 := by rw [List.length_cons, List.length_map]; omega
    have hgK : ∀ g ∈ (((-1, none, pool) : Int × Option Ev × Int) :: so.map fun x => (x.1, some x.2.1, x.2.2)), ∀ e, g.2.1 = some e → evK ms.length e := fun g hg e he => by
      rcases List.mem_cons.1 hg with rfl | hg
      · cases he
      · obtain ⟨x, hx, rfl⟩ := List.mem_map.1 hg
        cases he
        exact hsoK x hx
    generalize (((-1, none, pool) : Int × Option Ev × Int) :: so.map fun x => (x.1, some x.2.1, x.2.2)) = gs at *
    walk_at "m"
    refine shuffled_ok (xs := gs.map gvD) ((tp4.app _).app _) get_new (by simp only [List.length_append, List.length_singleton]; omega) (by rw [List.length_map]; omega) fun g ys S5 hg hys hyl hym fr5 tp5 => ?_
    obtain ⟨gs', rfl, hgs'⟩ : ∃ gs' : List (Int × Option Ev × Int), ys = gs'.map gvD ∧ ∀ x ∈ gs', x ∈ gs := by
      clear hys hyl
      induction ys with
      | nil => exact ⟨[], rfl, by simp⟩
      | cons y ys ih =>
        obtain ⟨gs', rfl, h2⟩ := ih fun d hd => hym d (List.mem_cons_of_mem _ hd)
        obtain ⟨x, hx, rfl⟩ := List.mem_map.1 (hym y (List.mem_cons_self ..))
        exact ⟨x :: gs', rfl, fun z hz => by rcases List.mem_cons.1 hz with rfl | hz; exact hx; exact h2 z hz⟩
    rw [List.length_map, List.length_map] at hyl
    have hgK' : ∀ g ∈ gs', ∀ e, g.2.1 = some e → evK ms.length e := fun g hg => hgK g (hgs' g hg)
    have fr45 : Fr S4 S5 := (((Ext.new ..).app _).fr).trans fr5
    simp only [List.length_append, List.length_singleton] at hg
    have hS5 := tp5.len
    walk_at "m"
    refine ⟨_, seqOf_lst hys, by rw [List.length_map]; unfold sizeLine; omega, ?_⟩
    refine lc_mapE (callW_mono T _) gvD (fun g => D.int g.2.2) (fun S' e => seqOf_lst (e.get hys)) ?_ ?_
    · intro g hg S6 e6
      refine ⟨_, rfl, ?_⟩
      walk_at "m"
      exact ⟨rfl, Ext.refl _⟩
    intro S6 e6
    have hL6 : (S6 ++ [MO.lst (gs'.map fun g => D.int g.2.2)])[S6.length]? = some (.lst ((gs'.map fun g => g.2.2).map D.int)) := by rw [get_new, List.map_map]; rfl
    have fr6 : Fr S4 (S6 ++ [MO.lst (gs'.map fun g => D.int g.2.2)]) := (fr45.trans e6.fr).app _
    have hys6 : (S6 ++ [MO.lst (gs'.map fun g => D.int g.2.2)])[g]? = some (.lst (gs'.map gvD)) := get_app (e6.get hys)
    have tp6 : Tp (S6 ++ [MO.lst (gs'.map fun g => D.int g.2.2)]) := (tp5.ext e6).app _
    have h56 := e6.len
    have hgS5 := lt_of_get hys
    generalize S6 ++ [MO.lst (gs'.map fun g => D.int g.2.2)] = S6' at *
    generalize S6.length = L at *
    walk_at "m"
    refine b_sortF (fr6.get (by omega) hsi) fun si' hperm => ?_
    have hsil' : si'.length ≤ 20 := by rw [hperm.length_eq]; exact hsil
    have hsiK' : ∀ x ∈ si', FiOk ms.length x := fun x hx => hsiK x (hperm.mem_iff.1 hx)
    refine ⟨_, seqOf_lst get_new, ?_⟩
    have hh6 : S6'[h0]? = some (.lst (ts.map tfD)) := fr6.get (by omega) hh4
    have hlenS : (gs'.map fun g => g.2.2).length = gs'.length := by rw [List.length_map]
    generalize (gs'.map fun g => g.2.2) = lf at *
    have hL6lt := lt_of_get hL6
    have h46 := fr45.len
    refine for_inv (callW_mono T _) (fun j σ S' => ∃ (ts : List Tf) (lf : List Int) (v17 v18 v19 v20 v22 : Option D), σ = [some (.ref 2), some (pjD p), some (.ref r), some (.tup ((tks p ms).map .int)), some (.ref h0), none, none, some (.tup (ms.map .int)), some (.tup (bs.map .int)), some (cnD cn), some (.int pool), some (.ref r1), some (.ref r2), some (.ref g), some (.ref L), none, none, v17, v18, v19, v20, none, v22] ∧
        S'[h0]? = some (.lst (ts.map tfD)) ∧ ts.length ≤ c * 420 + j * 21 ∧ (∀ t ∈ ts, TfOk ms.length t) ∧ S'[n]? = some (.lst ds) ∧ (∀ d ∈ ds, FlB ms.length n N S' d) ∧ Fr S S' ∧ Tp S' ∧
        S'[g]? = some (.lst (gs'.map gvD)) ∧ S'[L]? = some (.lst (lf.map D.int)) ∧ lf.length = gs'.length ∧ N ≤ S'.length ∧ S'[S6'.length]? = some (.lst (si'.map fiD)))
      ⟨ts, lf, _, _, _, _, _, rfl, get_app hh6, by omega, htk, get_app (fr6.get (by omega) hn4), fun d hd => (hF4 d hd).fr (by omega) (fr6.app _), (fr4.trans fr6).app _, tp6.app _, get_app hys6, get_app hL6, hlenS, by have := fr6.len; rw [List.length_append]; omega, get_new⟩
      (fun _ _ _ h => by obtain ⟨_, _, _, _, _, _, _, _, _, _, _, _, _, _, _, _, _, _, h⟩ := h; exact seqOf_lst h.2) ?_ ?_
    · rintro j x σ S7 hx ⟨ts, lf, v17, v18, v19, v20, v22, rfl, hh7, htl7, htk7, hn7, hF7, fr7, tp7, hg7, hL7, hll7, hN7, hs7⟩
      obtain ⟨fi, hfi, rfl⟩ := get_of_map hx
      have hj : j < si'.length := (List.getElem?_eq_some_iff.1 hfi).1
      have hfiK := hsiK' _ (List.mem_of_getElem? hfi)
      refine ⟨_, rfl, ?_⟩
      walk_at "m"
      rw [List.length_map]
      refine r_one (by omega) ?_
      refine for_inv (callW_mono T _) (fun i σ S' => ∃ (ts : List Tf) (lf : List Int) (lk : Int) (v20 v22 : Option D), σ = [some (.ref 2), some (pjD p), some (.ref r), some (.tup ((tks p ms).map .int)), some (.ref h0), none, none, some (.tup (ms.map .int)), some (.tup (bs.map .int)), some (cnD cn), some (.int pool), some (.ref r1), some (.ref r2), some (.ref g), some (.ref L), none, none, some (.int fi.1), some (pairD fi.2.1), some (.int lk), v20, none, v22] ∧
          S'[h0]? = some (.lst (ts.map tfD)) ∧ ts.length ≤ c * 420 + j * 21 + i ∧ (∀ t ∈ ts, TfOk ms.length t) ∧ S'[n]? = some (.lst ds) ∧ (∀ d ∈ ds, FlB ms.length n N S' d) ∧ Fr S S' ∧ Tp S' ∧
          S'[g]? = some (.lst (gs'.map gvD)) ∧ S'[L]? = some (.lst (lf.map D.int)) ∧ lf.length = gs'.length ∧ N ≤ S'.length ∧ S'[S6'.length]? = some (.lst (si'.map fiD)))
        ⟨ts, lf, _, _, _, rfl, hh7, by omega, htk7, hn7, hF7, fr7, tp7, hg7, hL7, hll7, hN7, hs7⟩ (fun _ _ _ _ => trivial) ?_ ?_
      · clear hh7 htl7 htk7 hn7 hF7 fr7 tp7 hg7 hL7 hll7 hN7 hs7 ts lf S7
        rintro i x σ S7 hx ⟨ts, lf, lk, v20, v22, rfl, hh7, htl7, htk7, hn7, hF7, fr7, tp7, hg7, hL7, hll7, hN7, hs7⟩
        obtain ⟨hi, rfl⟩ := rgD_get hx
        have hi : i < gs'.length := by omega
        have hgi : gs'[i]? = some (gs'[i]'hi) := List.getElem?_eq_getElem _
        have hli : lf[i]? = some (lf[i]'(by omega)) := List.getElem?_eq_getElem _
        have hgiK := hgK' _ (List.mem_of_getElem? hgi)
        generalize gs'[i]'hi = gv at *
        generalize lf[i]'(by omega) = li at *
        refine ⟨_, rfl, ?_⟩
        walk_at "m"
        refine ix_mapR0 hL7 hli ?_
        walk_at "m"
        refine ix_mapR0 hg7 hgi ?_
        walk_at "m"
        refine l_intB ?_
        refine b_mulI (Or.inr (by split <;> omega)) ?_
        walk_at "m"
        generalize min lk li * (if decide (gv.1 ≤ fi.1) = true then (1 : Int) else 0) = am
        refine if_d (fun h => ?_) (fun h => ?_)
        · walk_at "m"
          refine ⟨lstD_lst hh7, ?_⟩
          walk_at "m"
          refine ix_mapR0 hg7 hgi ?_
          walk_at "m"
          refine m_append hh7 (by rw [List.length_map]; unfold sizeLine; omega) ?_
          walk_at "m"
          have hL8 := get_set (m' := MO.lst (ts.map tfD ++ [D.tup [cnD cn, oeD gv.2.1, pairD fi.2.1, .int am]])) (show L ≠ h0 by omega) hL7
          refine ix_mapR0 hL8 hli ?_
          walk_at "m"
          refine st_ix hL8 (by rw [Int.zero_add]; exact ixN_nat (by rw [List.length_map]; omega)) ?_
          walk_at "m"
          rw [show D.int (li - am) = D.int (li - am) from rfl, ← List.map_set]
          refine ⟨ts ++ [⟨cn, gv.2.1, fi.2.1, am⟩], lf.set i (li - am), _, _, _, rfl, ?_, by rw [List.length_append]; simp only [List.length_singleton]; omega, all_snoc htk7 (show TfOk ms.length ⟨cn, gv.2.1, fi.2.1, am⟩ from ⟨hgiK, hfiK⟩), get_set (by omega) (get_set (by omega) hn7), fun d hd => ((hF7 d hd).set (by omega)).set (by omega), (fr7.set _ (by omega)).set _ (by omega), (tp7.set _ (by omega)).set _ (by omega), get_set (by omega) (get_set (by omega) hg7), get_set_self hL8, by rw [List.length_set]; exact hll7, by rw [List.length_set, List.length_set]; exact hN7, get_set (by omega) (get_set (by omega) hs7)⟩
          rw [List.map_append]
          exact get_set (by omega) (get_set_self hh7)
        · walk_at "m"
          exact ⟨ts, lf, _, _, _, rfl, hh7, by omega, htk7, hn7, hF7, fr7, tp7, hg7, hL7, hll7, hN7, hs7⟩
      · rintro σ S8 ⟨ts, lf, lk, v20, v22, rfl, hh8, htl8, htk8, hn8, hF8, fr8, tp8, hg8, hL8, hll8, hN8, hs8⟩
        rw [rgD_len] at htl8
        exact ⟨ts, lf, _, _, _, _, _, rfl, hh8, by omega, htk8, hn8, hF8, fr8, tp8, hg8, hL8, hll8, hN8, hs8⟩
    · rintro σ S7 ⟨ts, lf, v17, v18, v19, v20, v22, rfl, hh7, htl7, htk7, hn7, hF7, fr7, tp7, _, _, _, hN7, _⟩
      rw [List.length_map] at htl7
      exact ⟨ts, _, _, _, _, _, _, _, _, _, _, _, rfl, hh7, by omega, htk7, hn7, hF7, fr7, tp7, hN7⟩
  · rintro σ S4 ⟨ts, v9, v10, v11, v12, v13, v14, v17, v18, v19, v20, v22, rfl, hh4, htl, htk, hn4, hF4, fr4, tp4, hN4⟩
    clear hn4 hF4 hN4 hF hN hN3 hh3 hds' tp3
    have hS4 := tp4.len
    have htl4 : ts.length ≤ 2940 := by omega
    have hb4 := lt_of_get hh4
    walk_at "m"
    have hl5 : (S4 ++ [MO.lst []])[S4.length]? = some (.lst (([] : List Lg).map lgD)) := get_new
    have hh5 : (S4 ++ [MO.lst []])[h0]? = some (.lst (ts.map tfD)) := get_app hh4
    have fr5 : Fr S (S4 ++ [MO.lst []]) := fr4.app _
    have tp5 : Tp (S4 ++ [MO.lst []]) := tp4.app _
    have hSl := fr4.len
    clear hh4 fr4 tp4
    generalize S4 ++ [MO.lst []] = S5 at *
    generalize S4.length = l0 at *
    refine ⟨_, seqOf_lst hh5, ?_⟩
    refine for_inv (callW_mono T _) (fun c σ S' => ∃ (v6 : Option D), σ = [some (.ref 2), some (pjD p), some (.ref r), some (.tup ((tks p ms).map .int)), some (.ref h0), some (.ref l0), v6, some (.tup (ms.map .int)), some (.tup (bs.map .int)), v9, v10, v11, v12, v13, v14, none, none, v17, v18, v19, v20, none, v22] ∧
        S'[h0]? = some (.lst (ts.map tfD)) ∧ S'[l0]? = some (.lst (((ts.take c).foldl trS []).map lgD)) ∧ Fr S S' ∧ Tp S')
      ⟨_, rfl, hh5, hl5, fr5, tp5⟩ (fun _ _ _ h => by obtain ⟨_, _, h, _⟩ := h; exact seqOf_lst h) ?_ ?_
    · rintro c x σ S6 hx ⟨v6, rfl, hh6, hl6, fr6, tp6⟩
      obtain ⟨t, ht, rfl⟩ := get_of_map hx
      have hc := (List.getElem?_eq_some_iff.1 ht).1
      refine ⟨_, rfl, ?_⟩
      rw [foldl_take_succ _ _ ht]
      have hlen := foldl_trS_len (ts.take c) []
      rw [List.length_take, List.length_nil] at hlen
      generalize (ts.take c).foldl trS [] = acc at *
      obtain ⟨cn, so, si, un⟩ := t
      cases so with
      | none =>
        walk_at "m"
        exact ⟨_, rfl, hh6, hl6, fr6, tp6⟩
      | some so =>
        walk_at "m"
        unfold trS
        dsimp only
        refine if_nb (fun h => ?_) (fun h => ?_)
        · have hne : so.1 ≠ si.1 := of_decide_eq_false h
          walk_at "m"
          refine c_notinF (f := lgD) (x := (so, si, 0)) fa_lg (seqOf_lst hl6) (lg_pl 58 _) (fun l _ => lg_pl 58 l) ?_
          walk_at "m"
          refine if_n (fun h2 => ?_) (fun h2 => ?_)
          · walk_at "m"
            refine ⟨lstD_lst hl6, ?_⟩
            walk_at "m"
            refine m_append hl6 (by rw [List.length_map]; unfold sizeLine; omega) ?_
            walk_at "m"
            rw [if_pos ⟨hne, h2⟩, List.map_append]
            exact ⟨_, rfl, get_set (by omega) hh6, get_set_self hl6, fr6.set _ (by omega), tp6.set _ (by omega)⟩
          · walk_at "m"
            rw [if_neg (fun h3 => h3.2 h2)]
            exact ⟨_, rfl, hh6, hl6, fr6, tp6⟩
        · have hne : so.1 = si.1 := of_decide_eq_true h
          walk_at "m"
          rw [if_neg (fun h3 => h3.1 hne)]
          exact ⟨_, rfl, hh6, hl6, fr6, tp6⟩
    rintro σ S6 ⟨v6, rfl, hh6, hl6, fr6, tp6⟩
    rw [List.length_map, List.take_of_length_le (Nat.le_refl _)] at hl6
    have hlk := trL_ok (n := ms.length) htk
    have hll := trL_len ts
    rw [show ts.foldl trS [] = trL ts from rfl] at hl6
    generalize trL ts = ls at *
    refine ss_cut (callW_mono T _) (fun σ' S' => ∃ (ls : List Lg) (v15 v16 : Option D), σ' = [some (.ref 2), some (pjD p), some (.ref r), some (.tup ((tks p ms).map .int)), some (.ref h0), some (.ref l0), v6, some (.tup (ms.map .int)), some (.tup (bs.map .int)), v9, v10, v11, v12, v13, v14, v15, v16, v17, v18, v19, v20, none, v22] ∧
        S'[h0]? = some (.lst (ts.map tfD)) ∧ S'[l0]? = some (.lst (ls.map lgD)) ∧ ls.length ≤ 3000 ∧ (∀ l ∈ ls, LgK ms.length l) ∧ Fr S S' ∧ Tp S') ?_ ?_
    · walk_at "m"
      rw [List.length_map]
      have stay : ∀ S7, Fr S6 S7 → Tp S7 → ∃ (ls : List Lg) (v15 v16 : Option D), [some (D.ref 2), some (pjD p), some (.ref r), some (.tup ((tks p ms).map .int)), some (.ref h0), some (.ref l0), v6, some (.tup (ms.map .int)), some (.tup (bs.map .int)), v9, v10, v11, v12, v13, v14, none, none, v17, v18, v19, v20, none, v22] = [some (.ref 2), some (pjD p), some (.ref r), some (.tup ((tks p ms).map .int)), some (.ref h0), some (.ref l0), v6, some (.tup (ms.map .int)), some (.tup (bs.map .int)), v9, v10, v11, v12, v13, v14, v15, v16, v17, v18, v19, v20, none, v22] ∧
        S7[h0]? = some (.lst (ts.map tfD)) ∧ S7[l0]? = some (.lst (ls.map lgD)) ∧ ls.length ≤ 3000 ∧ (∀ l ∈ ls, LgK ms.length l) ∧ Fr S S7 ∧ Tp S7 := fun S7 fr7 tp7 => ⟨ls, _, _, rfl, fr7.get (by omega) hh6, fr7.get (by omega) hl6, by omega, hlk, fr6.trans fr7, tp7⟩
      refine if_d (fun h2 => ?_) (fun h2 => ?_)
      · walk_at "m"
        refine draw_ok tp6 (by decide) fun y S7 fr7 tp7 y0 y1 => ?_
        walk_at "m"
        refine if_d (fun h3 => ?_) (fun h3 => ?_)
        · walk_at "m"
          rw [List.length_map]
          refine draw_ok tp7 (by omega) fun i S8 fr8 tp8 i0 i1 => ?_
          walk_at "m"
          refine draw_ok tp8 (by decide) fun e S9 fr9 tp9 e0 e1 => ?_
          walk_at "m"
          rw [List.length_map]
          refine draw_ok tp9 (by omega) fun j S10 fr10 tp10 j0 j1 => ?_
          walk_at "m"
          rw [List.length_map]
          refine b_mod (by omega) ?_
          obtain ⟨m0, m1⟩ := fmod_rng (i + 1 + j) ms.length (by omega)
          generalize (i + 1 + j).fmod ms.length = jj at *
          walk_at "m"
          refine draw_ok tp10 (by decide) fun e' S11 fr11 tp11 e0' e1' => ?_
          have fr611 : Fr S6 S11 := (((fr7.trans fr8).trans fr9).trans fr10).trans fr11
          have hh11 := fr611.get (show h0 ≠ 2 by omega) hh6
          have hl11 := fr611.get (show l0 ≠ 2 by omega) hl6
          walk_at "m"
          refine ⟨lstD_lst hl11, ?_⟩
          have k1 : evK ms.length (i, e) := Or.inr ⟨i0, by dsimp only; omega, by dsimp only; omega⟩
          have k2 : evK ms.length (jj, e') := Or.inr ⟨m0, m1, by dsimp only; omega⟩
          walk_at "m"
          refine w_when_ok (e := (jj, e')) (by rw [tks_len, as.bl, hml]) (by rw [tks_len]; exact k2.ok) ?_
          generalize (shf (tks p ms) (jj, e') + if (jj, e').1 < 0 then (0 : Int) else (bs[(jj, e').1.toNat]?).getD 0) = w1
          walk_at "m"
          refine w_when_ok (e := (i, e)) (by rw [tks_len, as.bl, hml]) (by rw [tks_len]; exact k1.ok) ?_
          generalize (shf (tks p ms) (i, e) + if (i, e).1 < 0 then (0 : Int) else (bs[(i, e).1.toNat]?).getD 0) = w2
          walk_at "m"
          refine b_addT (by simp only [List.length_cons, List.length_nil]; decide) ?_
          walk_at "m"
          refine m_append hl11 (by rw [List.length_map]; unfold sizeLine; omega) ?_
          refine ⟨ls ++ [((i, e), (jj, e'), w1 - w2)], _, _, rfl, get_set (by omega) hh11, ?_, by rw [List.length_append]; simp only [List.length_singleton]; omega, all_snoc hlk ⟨k1, k2⟩, (fr6.trans fr611).set _ (by omega), tp11.set _ (by omega)⟩
          rw [List.map_append]
          exact get_set_self hl11
        · walk_at "m"
          exact stay _ fr7 tp7
      · refine ex_truB ?_
        refine if_dF h2 ?_
        walk_at "m"
        exact stay _ (Fr.refl _) tp6
    clear hl6 hh6 fr6 tp6 hlk hll ls S6
    rintro σ S6 ⟨ls, v15, v16, rfl, hh6, hl6, hll, hlk, fr6, tp6⟩
    walk_at "m"
    rw [List.length_map]
    have last : ls.length ≤ 24 → ts.length ≤ 60 → wSs (callW T (k + 3)) (.cons (.ret (.tup (.cons (.var 7) (.cons (.blt .tuple (.cons (.call i__law_shuffled (.cons (.var 0) (.cons (.var 5) .nil))) .nil)) (.cons (.blt .tuple (.cons (.call i__law_shuffled (.cons (.var 0) (.cons (.var 4) .nil))) .nil)) .nil))))) .nil)
        { nx := fun x S' => Q .non S', rt := Q } [some (.ref 2), some (pjD p), some (.ref r), some (.tup ((tks p ms).map .int)), some (.ref h0), some (.ref l0), v6, some (.tup (ms.map .int)), some (.tup (bs.map .int)), v9, v10, v11, v12, v13, v14, v15, v16, v17, v18, v19, v20, none, v22] S6 := fun b1 b2 => by
      walk_at "m"
      refine shuffled_ok (xs := ls.map lgD) tp6 hl6 (by omega) (by rw [List.length_map]; omega) fun n1 ys S7 _ hy7 hyl hym fr7 tp7 => ?_
      walk_at "m"
      refine shuffled_ok (xs := ts.map tfD) tp7 (fr7.get (by omega) hh6) (by omega) (by rw [List.length_map]; omega) fun n2 zs S8 _ hz8 hzl hzm fr8 tp8 => ?_
      walk_at "m"
      obtain ⟨ls', rfl, hls'⟩ := of_mems hym
      obtain ⟨ts', rfl, hts'⟩ := of_mems hzm
      rw [List.length_map, List.length_map] at hyl hzl
      exact q ms ls' ts' _ ⟨bs, hx⟩ (by omega) (by omega) (fun l hl => hlk l (hls' l hl)) (fun t ht => htk t (hts' t ht)) ((fr6.trans fr7).trans fr8) tp8
    refine if_d (fun h2 => ?_) (fun h2 => ?_)
    · refine ex_truB ?_
      refine if_dT h2 ?_
      walk_at "m"
      exact q0 _ fr6 tp6
    · walk_at "m"
      rw [List.length_map]
      refine if_d (fun h3 => ?_) (fun h3 => ?_)
      · walk_at "m"
        exact q0 _ fr6 tp6
      · exact last (by omega) (by omega)
theorem maxOf_all {b : Int} {x : Int} {xs : List Int} (h : maxOf (x :: xs) ≤ b) : ∀ y ∈ x :: xs, y ≤ b := by
  have key : ∀ (xs : List Int) (x : Int), xs.foldl max x ≤ b → x ≤ b ∧ ∀ y ∈ xs, y ≤ b := by
    intro xs
    induction xs with
    | nil => exact fun x h => ⟨h, fun y hy => by cases hy⟩
    | cons z zs ih =>
      intro x h
      rw [List.foldl_cons] at h
      obtain ⟨h1, h2⟩ := ih _ h
      refine ⟨by omega, fun y hy => ?_⟩
      rcases List.mem_cons.1 hy with rfl | hy
      · omega
      · exact h2 y hy
  obtain ⟨h1, h2⟩ := key xs x h
  intro y hy
  rcases List.mem_cons.1 hy with rfl | hy
  · exact h1
  · exact h2 y hy
theorem maxOf_first {x : Int} {xs : List Int} : x ≤ maxOf (x :: xs) := foldl_max_ge _ _
theorem minOf_first {x : Int} {xs : List Int} : minOf (x :: xs) ≤ x := by
  show xs.foldl min x ≤ x
  induction xs generalizing x with
  | nil => exact Int.le_refl _
  | cons y ys ih => rw [List.foldl_cons]; have := ih (x := min x y); omega
theorem l_minR {S : St} {Q : QD} {n : Nat} {is : List Int} (h : S[n]? = some (.lst (is.map D.int))) (h0 : 0 < is.length) (q : Q (.int (minOf is)) S) : bltW .min [.ref n] S Q := ⟨_, _, seqOf_lst h, intsOf_map _, h0, q⟩
set_option maxHeartbeats 1000000 in
theorem d_loose_ok {k : Nat} {S : St} {p : Pr} {ms bs : List Int} {Q : QD} (ok : p.Ok) (h : As p ms bs)
    (q0 : ∀ S', Ext S S' → Q .non S') (q : ∀ p' S', p'.Ok → p'.as = p.as → p'.dl = 30 → p'.ls = [] → p'.rs.length = p.rs.length → p'.vs.length = p.vs.length → Ext S S' → Q (pjD p') S') : callW T (k + 3) i__law_d_loose [pjD p, .tup (ms.map .int), .tup (bs.map .int)] S Q := by
  refine call_of T__law_d_loose rfl ?_
  dsimp only [f__law_d_loose, b__law_d_loose, startD, List.map, List.length_cons, List.length_nil, Nat.reduceAdd, Nat.reduceSub, List.replicate, List.cons_append, List.nil_append, List.append_nil]
  have hal := ok.al
  have hml := h.ml
  have hrl := ok.rl
  have hvl := ok.vl
  walk_at "m"
  refine w_takes_ok h.toCh (by omega) fun S1 e1 => ?_
  walk_at "m"
  rw [List.length_map]
  refine r_one (by omega) ?_
  have hS1 := e1.len
  refine for_inv (callW_mono T _) (fun c σ S' => ∃ (rs : List Rs) (v5 v8 : Option D), σ = [some (pjD p), some (.tup (ms.map .int)), some (.tup (bs.map .int)), some (.tup ((tks p ms).map .int)), some (.ref S1.length), v5, none, none, v8, none, none, none] ∧ S'[S1.length]? = some (.lst (rs.map rsD)) ∧ rs.length = c ∧ (∀ (i : Nat) R', rs[i]? = some R' → ∃ R, p.rs[i]? = some R ∧ R'.nm = R.nm ∧ R'.cl = R.cl ∧ 0 ≤ R'.cap) ∧ Ext S S')
    ⟨[], _, _, rfl, get_new, rfl, by simp, e1.app _⟩ (fun _ _ _ _ => trivial) ?_ ?_
  · rintro c x σ S2 hx ⟨rs, v5, v8, rfl, hr2, hrl2, hrs, e2⟩
    obtain ⟨hc, rfl⟩ := rgD_get hx
    have hc : c < p.rs.length := by omega
    have hrc : p.rs[c]? = some (p.rs[c]'hc) := List.getElem?_eq_getElem _
    have hcl := (ok.rs _ (List.mem_of_getElem? hrc)).cl
    generalize p.rs[c]'hc = R at *
    refine ⟨_, rfl, ?_⟩
    walk_at "m"
    rw [Int.zero_add]
    refine w_load_ok ok h hc fun n S3 hn hn3 e3 => ?_
    have hll : (loadF p ms bs c).length ≤ 20 := by
      unfold loadF clF
      rw [List.length_append, List.length_map, List.length_range, hrc]
      show ms.length + R.cl.length ≤ 20
      omega
    have hr3 := e3.get hr2
    have hlt := lt_of_get hr2
    generalize loadF p ms bs c = ws at *
    walk_at "m"
    refine ⟨lstD_lst hr3, ?_⟩
    walk_at "m"
    refine ix_mapN hrc ?_
    walk_at "m"
    refine ⟨_, seqOf_lst (get_app hn3), by rw [List.length_map]; unfold sizeLine; omega, ?_⟩
    refine lc_mapE (callW_mono T _) tripD (fun w => D.int (usedF ws w.1)) (fun S' e => seqOf_lst (e.get (get_app hn3))) ?_ ?_
    · intro w hw S4 e4
      refine ⟨_, rfl, ?_⟩
      walk_at "m"
      refine w_used_ok (e4.get (get_app hn3)) (by omega) fun S5 e5 => ?_
      exact ⟨rfl, e5⟩
    intro S4 e4
    have hz := e4.get (get_new (S := S3) (m := MO.lst [D.int 0]))
    walk_at "m"
    refine b_addL (get_app hz) get_new (by rw [List.length_map]; simp only [List.length_cons, List.length_nil]; unfold sizeLine; omega) ?_
    rw [show [D.int 0] ++ (ws.map fun w => D.int (usedF ws w.1)) = ((0 : Int) :: ws.map fun w => usedF ws w.1).map D.int by rw [List.map_cons, List.map_map]; rfl]
    walk_at "m"
    refine l_maxR (is := (0 : Int) :: ws.map fun w => usedF ws w.1) get_new (by rw [List.length_cons]; omega) ?_
    walk_at "m"
    refine ix_mapN hrc ?_
    walk_at "m"
    refine m_append (get_app (get_app (e4.get (get_app hr3)))) (by rw [List.length_map]; unfold sizeLine; omega) ?_
    walk_at "m"
    refine ⟨rs ++ [⟨R.nm, maxOf ((0 : Int) :: ws.map fun w => usedF ws w.1), R.cl⟩], _, _, rfl, ?_, by rw [List.length_append, hrl2]; rfl, fun i R' hR' => ?_, (((((e2.trans e3).app _).trans e4).app _).app _).set _ (by omega)⟩
    · rw [List.map_append]
      exact get_set_self (get_app (get_app (e4.get (get_app hr3))))
    · by_cases g : i < rs.length
      · rw [List.getElem?_append_left g] at hR'
        exact hrs i R' hR'
      · have hi := (List.getElem?_eq_some_iff.1 hR').1
        rw [List.length_append, List.length_singleton] at hi
        have : i = c := by omega
        subst this
        rw [List.getElem?_append_right (by omega), hrl2, Nat.sub_self] at hR'
        cases hR'
        exact ⟨R, hrc, rfl, rfl, maxOf_first⟩
  rintro σ S2 ⟨rs, v5, v8, rfl, hr2, hrl2, hrs, e2⟩
  rw [rgD_len] at hrl2
  walk_at "m"
  rw [List.length_map]
  refine r_one (by omega) ?_
  have hS2 := e2.len
  have hlt1 := lt_of_get hr2
  refine for_inv (callW_mono T _) (fun c σ S' => ∃ (vs : List Iv) (v7 v8 v9 : Option D), σ = [some (pjD p), some (.tup (ms.map .int)), some (.tup (bs.map .int)), some (.tup ((tks p ms).map .int)), some (.ref S1.length), v5, some (.ref S2.length), v7, v8, v9, none, none] ∧ S'[S1.length]? = some (.lst (rs.map rsD)) ∧ S'[S2.length]? = some (.lst (vs.map ivD)) ∧ vs.length = c ∧ (∀ (i : Nat) V', vs[i]? = some V' → ∃ V lo hi, p.vs[i]? = some V ∧ V' = ⟨V.nm, V.st, some lo, some hi⟩ ∧ lo ≤ hi) ∧ Ext S S')
    ⟨[], _, _, _, rfl, get_app hr2, get_new, rfl, by simp, e2.app _⟩ (fun _ _ _ _ => trivial) ?_ ?_
  · rintro c x σ S3 hx ⟨vs, v7, v8, v9, rfl, hr3, hv3, hvl3, hvs, e3⟩
    obtain ⟨hc, rfl⟩ := rgD_get hx
    have hc : c < p.vs.length := by omega
    have hvc : p.vs[c]? = some (p.vs[c]'hc) := List.getElem?_eq_getElem _
    generalize p.vs[c]'hc = V at *
    refine ⟨_, rfl, ?_⟩
    walk_at "m"
    rw [Int.zero_add]
    refine w_flow_ok ok h hc fun n S4 hn hn4 e4 => ?_
    have hfl : (flowF p ms bs c).length ≤ 20 := by
      unfold flowF
      rw [List.length_map, List.length_range]; omega
    have hv4 := e4.get hv3
    have hlt := lt_of_get hv3
    generalize flowF p ms bs c = js at *
    walk_at "m"
    refine ⟨_, seqOf_lst (get_app hn4), by rw [List.length_map]; unfold sizeLine; omega, ?_⟩
    refine lc_mapE (callW_mono T _) pairD (fun j => D.int j.1) (fun S' e => seqOf_lst (e.get (get_app hn4))) ?_ ?_
    · intro w hw S5 e5
      refine ⟨_, rfl, ?_⟩
      walk_at "m"
      exact ⟨rfl, Ext.refl _⟩
    intro S5 e5
    have hz := e5.get (get_new (S := S4) (m := MO.lst [D.int 0]))
    walk_at "m"
    refine b_addL (get_app hz) get_new (by rw [List.length_map]; simp only [List.length_cons, List.length_nil]; unfold sizeLine; omega) ?_
    rw [show [D.int 0] ++ (js.map fun w => D.int w.1) = ((0 : Int) :: js.map fun w => w.1).map D.int by rw [List.map_cons, List.map_map]; rfl]
    have hn6 := get_app (X := [MO.lst (((0 : Int) :: js.map fun w => w.1).map D.int)]) (get_app (X := [MO.lst (js.map fun j => D.int j.1)]) (e5.get (get_app (X := [MO.lst [D.int 0]]) hn4)))
    have hv6 := get_app (X := [MO.lst (((0 : Int) :: js.map fun w => w.1).map D.int)]) (get_app (X := [MO.lst (js.map fun j => D.int j.1)]) (e5.get (get_app (X := [MO.lst [D.int 0]]) hv4)))
    have hat6 := get_new (S := S5 ++ [MO.lst (js.map fun j => D.int j.1)]) (m := MO.lst (((0 : Int) :: js.map fun w => w.1).map D.int))
    have e6 : Ext S (S5 ++ [MO.lst (js.map fun j => D.int j.1)] ++ [MO.lst (((0 : Int) :: js.map fun w => w.1).map D.int)]) := ((((e3.trans e4).app _).trans e5).app _).app _
    have hr6 := get_app (X := [MO.lst (((0 : Int) :: js.map fun w => w.1).map D.int)]) (get_app (X := [MO.lst (js.map fun j => D.int j.1)]) (e5.get (get_app (X := [MO.lst [D.int 0]]) (e4.get hr3))))
    generalize S5 ++ [MO.lst (js.map fun j => D.int j.1)] ++ [MO.lst (((0 : Int) :: js.map fun w => w.1).map D.int)] = S6 at *
    generalize (S5 ++ [MO.lst (js.map fun j => D.int j.1)]).length = a6 at *
    refine ⟨_, seqOf_lst hat6, by rw [List.length_map, List.length_cons, List.length_map]; unfold sizeLine; omega, ?_⟩
    refine lc_mapE (callW_mono T _) D.int (fun t => D.int (jV (stF0 p c) js t)) (fun S' e => seqOf_lst (e.get hat6)) ?_ ?_
    · intro t ht S7 e7
      refine ⟨_, rfl, ?_⟩
      walk_at "m"
      refine w_stock_ok hc (e7.get hn6) (by omega) fun S8 e8 => ?_
      exact ⟨rfl, e8⟩
    intro S7 e7
    walk_at "m"
    have hv8 := get_app (X := [MO.lst (((0 : Int) :: js.map fun w => w.1).map fun t => D.int (jV (stF0 p c) js t))]) (e7.get hv6)
    have hr8 := get_app (X := [MO.lst (((0 : Int) :: js.map fun w => w.1).map fun t => D.int (jV (stF0 p c) js t))]) (e7.get hr6)
    have hh8 : (S7 ++ [MO.lst (((0 : Int) :: js.map fun w => w.1).map fun t => D.int (jV (stF0 p c) js t))])[S7.length]? = some (.lst ((((0 : Int) :: js.map fun w => w.1).map fun t => jV (stF0 p c) js t).map D.int)) := by rw [get_new, List.map_map]; rfl
    have e8 := (e6.trans e7).app [MO.lst (((0 : Int) :: js.map fun w => w.1).map fun t => D.int (jV (stF0 p c) js t))]
    refine ⟨lstD_lst hv8, ?_⟩
    walk_at "m"
    refine ix_mapN hvc ?_
    walk_at "m"
    rw [show cutD [D.str V.nm, .int V.st, oD V.lo, oD V.hi] none (some 2) = [D.str V.nm, .int V.st] from rfl]
    refine l_minR hh8 (by simp) ?_
    walk_at "m"
    refine l_maxR hh8 (by simp) ?_
    have hmm : minOf (((0 : Int) :: js.map fun w => w.1).map fun t => jV (stF0 p c) js t) ≤ maxOf (((0 : Int) :: js.map fun w => w.1).map fun t => jV (stF0 p c) js t) := Int.le_trans minOf_first maxOf_first
    generalize minOf (((0 : Int) :: js.map fun w => w.1).map fun t => jV (stF0 p c) js t) = lo at *
    generalize maxOf (((0 : Int) :: js.map fun w => w.1).map fun t => jV (stF0 p c) js t) = hi at *
    walk_at "m"
    refine b_addT (by simp only [List.length_cons, List.length_nil]; decide) ?_
    walk_at "m"
    show mthW .append (.ref S2.length) [ivD ⟨V.nm, V.st, some lo, some hi⟩] _ _
    refine m_append hv8 (by rw [List.length_map]; unfold sizeLine; omega) ?_
    walk_at "m"
    refine ⟨vs ++ [⟨V.nm, V.st, some lo, some hi⟩], _, _, _, rfl, get_set (by omega) hr8, ?_, by rw [List.length_append, hvl3]; rfl, fun i V' hV' => ?_, e8.set _ hS2⟩
    · rw [List.map_append]
      exact get_set_self hv8
    · by_cases g : i < vs.length
      · rw [List.getElem?_append_left g] at hV'
        exact hvs i V' hV'
      · have hi := (List.getElem?_eq_some_iff.1 hV').1
        rw [List.length_append, List.length_singleton] at hi
        have : i = c := by omega
        subst this
        rw [List.getElem?_append_right (by omega), hvl3, Nat.sub_self] at hV'
        cases hV'
        exact ⟨V, lo, _, hvc, rfl, hmm⟩
  rintro σ S3 ⟨vs, v7, v8, v9, rfl, hr3, hv3, hvl3, hvs, e3⟩
  rw [rgD_len] at hvl3
  refine ss_if (callW_mono T _) (fun b S' => Ext S3 S' ∧ (b = false → (∀ R ∈ rs, R.cap ≤ 9) ∧ ∀ V ∈ vs, ∀ lo hi, V.lo = some lo → V.hi = some hi → -lo ≤ 20 ∧ hi ≤ 20)) ?_ ?_ ?_
  · walk_at "m"
    refine w_ends_ok (by rw [tks_len]; omega) (by rw [tks_len, h.bl]; omega) fun S4 e4 => ?_
    walk_at "m"
    have hr5 := get_app (X := [MO.lst [D.int 0, .int (mkF (tks p ms) bs - 21)]]) (e4.get hr3)
    refine ⟨_, seqOf_lst hr5, by rw [List.length_map]; unfold sizeLine; omega, ?_⟩
    refine lc_mapE (callW_mono T _) rsD (fun R => D.int R.cap) (fun S' e => seqOf_lst (e.get hr5)) ?_ ?_
    · intro R hR S5 e5
      refine ⟨_, rfl, ?_⟩
      walk_at "m"
      exact ⟨rfl, Ext.refl _⟩
    intro S5 e5
    have hz := e5.get (get_new (S := S4) (m := MO.lst [D.int 0, .int (mkF (tks p ms) bs - 21)]))
    walk_at "m"
    refine b_addL (get_app hz) get_new (by rw [List.length_map]; simp only [List.length_cons, List.length_nil]; unfold sizeLine; omega) ?_
    rw [show [D.int 0, .int (mkF (tks p ms) bs - 21)] ++ (rs.map fun R => D.int R.cap) = ((0 : Int) :: (mkF (tks p ms) bs - 21) :: rs.map fun R => R.cap).map D.int by rw [List.map_cons, List.map_cons, List.map_map]; rfl]
    walk_at "m"
    refine l_maxR (is := (0 : Int) :: (mkF (tks p ms) bs - 21) :: rs.map fun R => R.cap) get_new (by rw [List.length_cons]; omega) ?_
    walk_at "m"
    have e6 := (((e4.app [MO.lst [D.int 0, .int (mkF (tks p ms) bs - 21)]]).trans e5).app [MO.lst (rs.map fun R => D.int R.cap)]).app [MO.lst (((0 : Int) :: (mkF (tks p ms) bs - 21) :: rs.map fun R => R.cap).map D.int)]
    refine if_d (fun g => ?_) (fun g => ?_)
    · refine ex_truB ?_
      exact ⟨e6, fun hb => by rw [decide_eq_false_iff_not] at hb; exact absurd g hb⟩
    · have hcap := maxOf_all (b := 9) (by omega : maxOf ((0 : Int) :: (mkF (tks p ms) bs - 21) :: rs.map fun R => R.cap) ≤ 9)
      generalize S5 ++ [MO.lst (rs.map fun R => D.int R.cap)] ++ [MO.lst (((0 : Int) :: (mkF (tks p ms) bs - 21) :: rs.map fun R => R.cap).map D.int)] = S6 at *
      walk_at "m"
      have hv7 := get_app (X := [MO.lst [D.int 0]]) (e6.get hv3)
      refine ⟨_, seqOf_lst hv7, by rw [List.length_map]; unfold sizeLine; omega, ?_⟩
      have hsome : ∀ V ∈ vs, ∃ lo hi, V.lo = some lo ∧ V.hi = some hi := fun V hV => by
        obtain ⟨i, hii⟩ := List.getElem?_of_mem hV
        obtain ⟨V0, lo, hi, _, rfl, _⟩ := hvs i V hii
        exact ⟨lo, hi, rfl, rfl⟩
      refine lc_mapE (callW_mono T _) ivD (fun V => D.int (max (-(V.lo.getD 0)) (V.hi.getD 0))) (fun S' e => seqOf_lst (e.get hv7)) ?_ ?_
      · intro V hV S7 e7
        obtain ⟨lo, hi, h1, h2⟩ := hsome V hV
        refine ⟨_, rfl, ?_⟩
        unfold ivD
        rw [h1, h2, show oD (some lo) = D.int lo from rfl, show oD (some hi) = D.int hi from rfl]
        walk_at "m"
        exact ⟨rfl, Ext.refl _⟩
      intro S7 e7
      have hz := e7.get (get_new (S := S6) (m := MO.lst [D.int 0]))
      walk_at "m"
      refine b_addL (get_app hz) get_new (by rw [List.length_map]; simp only [List.length_cons, List.length_nil]; unfold sizeLine; omega) ?_
      rw [show [D.int 0] ++ (vs.map fun V => D.int (max (-(V.lo.getD 0)) (V.hi.getD 0))) = ((0 : Int) :: vs.map fun V => max (-(V.lo.getD 0)) (V.hi.getD 0)).map D.int by rw [List.map_cons, List.map_map]; rfl]
      walk_at "m"
      walk_at "m"
      refine l_maxR (is := (0 : Int) :: vs.map fun V => max (-(V.lo.getD 0)) (V.hi.getD 0)) get_new (by rw [List.length_cons]; omega) ?_
      walk_at "m"
      refine ⟨(((e6.app _).trans e7).app _).app _, fun hb => ?_⟩
      rw [decide_eq_false_iff_not] at hb
      have hst := maxOf_all (b := 20) (by omega : maxOf ((0 : Int) :: vs.map fun V => max (-(V.lo.getD 0)) (V.hi.getD 0)) ≤ 20)
      refine ⟨fun R hR => hcap _ (List.mem_cons_of_mem _ (List.mem_cons_of_mem _ (List.mem_map.2 ⟨R, hR, rfl⟩))), fun V hV lo hi h1 h2 => ?_⟩
      have := hst _ (List.mem_cons_of_mem _ (List.mem_map.2 ⟨V, hV, rfl⟩))
      rw [h1, h2] at this
      simp only [Option.getD_some] at this
      omega
  · rintro S4 ⟨e4, -⟩
    walk_at "m"
    exact q0 _ (e3.trans e4)
  · rintro S4 ⟨e4, hb⟩
    obtain ⟨hcap, hst⟩ := hb rfl
    have hr4 := e4.get hr3
    have hv4 := e4.get hv3
    walk_at "m"
    have hrl' : rs.length = p.rs.length := by omega
    have hvl' : vs.length = p.vs.length := by omega
    refine q ⟨30, rs, vs, p.as, []⟩ _ ⟨(by show (0 : Int) ≤ 30; decide), (by show (30 : Int) ≤ 30; decide), by dsimp only; omega, fun R hR => ?_, by dsimp only; omega, fun V hV => ?_, hal, ?_, Nat.zero_le _, fun l hl => by cases hl⟩ rfl rfl rfl hrl' hvl' (e3.trans e4)
    · obtain ⟨i, hi⟩ := List.getElem?_of_mem hR
      obtain ⟨R0, h1, h2, h3, h4⟩ := hrs i R hi
      have o := ok.rs _ (List.mem_of_getElem? h1)
      exact ⟨by rw [h2]; exact o.nm, h4, hcap R hR, by rw [h3]; exact o.cl, by rw [h3]; exact o.cs⟩
    · obtain ⟨i, hi⟩ := List.getElem?_of_mem hV
      obtain ⟨V0, lo, hi', h1, h2, h3⟩ := hvs i V hi
      have o := ok.vs _ (List.mem_of_getElem? h1)
      have := hst V hV lo hi' (by rw [h2]) (by rw [h2])
      subst h2
      exact ⟨o.nm, o.s0, o.s1, fun x hx => by cases hx; omega, fun x hx => by cases hx; omega⟩
    · dsimp only
      rw [hrl', hvl']
      exact ok.as
theorem k43_lag_ok {k : Nat} {S : St} {tk bs : List Int} {odd : Bool} {Q : QD} (tp : Tp S) (hl : bs.length = tk.length) (h0 : 0 < tk.length) (h6 : tk.length ≤ 6) (hb : ∀ b ∈ bs, 0 ≤ b ∧ b ≤ 8) (ht : ∀ t ∈ tk, 0 ≤ t ∧ t ≤ 12)
    (q : ∀ l S', LgOk tk.length l → Fr S S' → Tp S' → Q (lgD l) S') : callW T (k + 3) i__law_k43_lag [.ref 2, .tup (tk.map .int), .tup (bs.map .int), .bl odd] S Q := by
  refine call_of T__law_k43_lag rfl ?_
  dsimp only [f__law_k43_lag, b__law_k43_lag, startD, List.map, List.length_cons, List.length_nil, Nat.reduceAdd, Nat.reduceSub, List.replicate, List.cons_append, List.nil_append, List.append_nil]
  have hS := tp.len
  walk_at "m"
  rw [List.length_map]
  refine draw_ok tp (by omega) fun j S1 fr1 tp1 j0 j1 => ?_
  walk_at "m"
  rw [List.length_map]
  refine draw_ok tp1 (by omega) fun i S2 fr2 tp2 i0 i1 => ?_
  walk_at "m"
  refine draw_ok tp2 (by decide) fun e S3 fr3 tp3 e0 e1 => ?_
  have hbj : bs[j.toNat]? = some (bs[j.toNat]'(by omega)) := List.getElem?_eq_getElem _
  have hbj2 := hb _ (List.mem_of_getElem? hbj)
  have htj : tk[j.toNat]? = some (tk[j.toNat]'(by omega)) := List.getElem?_eq_getElem _
  have htj2 := ht _ (List.mem_of_getElem? htj)
  generalize bs[j.toNat]'(by omega) = bj at *
  generalize tk[j.toNat]'(by omega) = tj at *
  have fr03 := (fr1.trans fr2).trans fr3
  have kj0 : evK tk.length (j, 0) := Or.inr ⟨j0, by dsimp only; omega, Or.inl rfl⟩
  have kj1 : evK tk.length (j, 1) := Or.inr ⟨j0, by dsimp only; omega, Or.inr rfl⟩
  walk_at "m"
  refine ss_cut (callW_mono T _) (fun σ' S' => ∃ f : Ev, σ' = [some (.ref 2), some (.tup (tk.map .int)), some (.tup (bs.map .int)), some (.bl odd), some (.int j), some (.int i), some (pairD f), none, none, none] ∧ evK tk.length f ∧ Fr S S' ∧ Tp S') ?_ ?_
  · refine s_if (callW_mono T _) (fun _ S' => Fr S S' ∧ Tp S') ?_ ?_ ?_
    · walk_at "m"
      refine if_d (fun h => ?_) (fun h => ?_)
      · refine ex_truB ?_
        exact ⟨fr03, tp3⟩
      · walk_at "m"
        refine draw_ok tp3 (by decide) fun z S4 fr4 tp4 z0 z1 => ?_
        walk_at "m"
        exact ⟨fr03.trans fr4, tp4⟩
    · rintro S4 ⟨fr4, tp4⟩
      walk_at "m"
      refine ix_mapT j0 hbj ?_
      walk_at "m"
      refine draw_ok tp4 (by omega) fun z S5 fr5 tp5 z0 z1 => ?_
      walk_at "m"
      exact ⟨(-1, z), rfl, Or.inl ⟨rfl, z0, by dsimp only; omega⟩, fr4.trans fr5, tp5⟩
    · rintro S4 ⟨fr4, tp4⟩
      refine ss_nil ?_
      exact ⟨(i, e), rfl, Or.inr ⟨i0, by dsimp only; omega, by dsimp only; omega⟩, fr4, tp4⟩
  · rintro σ S4 ⟨f, rfl, hf, fr4, tp4⟩
    walk_at "m"
    refine w_when_ok (e := f) hl hf.ok ?_
    have hat : 0 ≤ shf tk f + (if f.1 < 0 then (0 : Int) else (bs[f.1.toNat]?).getD 0) ∧ shf tk f + (if f.1 < 0 then (0 : Int) else (bs[f.1.toNat]?).getD 0) ≤ 30 := by
      unfold shf
      rcases hf with ⟨h1, h2, h3⟩ | ⟨h1, h2, h3⟩
      · rw [if_pos (by omega), if_pos (by omega)]; omega
      · rw [if_neg (by omega), if_neg (by omega)]
        have g1 : tk[f.1.toNat]? = some (tk[f.1.toNat]'(by omega)) := List.getElem?_eq_getElem _
        have g2 : bs[f.1.toNat]? = some (bs[f.1.toNat]'(by omega)) := List.getElem?_eq_getElem _
        have g3 := ht _ (List.mem_of_getElem? g1)
        have g4 := hb _ (List.mem_of_getElem? g2)
        rw [g1, g2]
        show 0 ≤ _ * f.2 + _ ∧ _ * f.2 + _ ≤ 30
        simp only [Option.getD_some]
        rcases h3 with h3 | h3 <;> rw [h3] <;> omega
    generalize shf tk f + (if f.1 < 0 then (0 : Int) else (bs[f.1.toNat]?).getD 0) = at' at *
    walk_at "m"
    refine ix_mapT j0 hbj ?_
    refine e_var (d := .int at') rfl ?_
    refine b_sub ?_
    show wSs _ _ _ _ _
    refine ss_if (callW_mono T _) (fun _ S' => Fr S S' ∧ Tp S') ?_ ?_ ?_
    · walk_at "m"
      refine if_b (fun h => ?_) (fun h => ?_)
      · walk_at "m"
        refine draw_ok tp4 (by decide) fun z S5 fr5 tp5 z0 z1 => ?_
        walk_at "m"
        exact ⟨fr4.trans fr5, tp5⟩
      · walk_at "m"
        exact ⟨fr4, tp4⟩
    · rintro S5 ⟨fr5, tp5⟩
      walk_at "m"
      refine ix_mapT j0 htj ?_
      walk_at "m"
      refine draw_ok tp5 (by decide) fun z S6 fr6 tp6 z0 z1 => ?_
      walk_at "m"
      exact q (f, (j, 1), bj - at' + tj - z) _ ⟨hf, kj1, by dsimp only; omega, by dsimp only; omega⟩ (fr5.trans fr6) tp6
    · rintro S5 ⟨fr5, tp5⟩
      refine ss_if (callW_mono T _) (fun _ S' => Fr S S' ∧ Tp S') ?_ ?_ ?_
      · walk_at "m"
        refine if_b (fun h => ?_) (fun h => ?_)
        · walk_at "m"
          refine if_d (fun h2 => ?_) (fun h2 => ?_)
          · walk_at "m"
            refine draw_ok tp5 (by decide) fun z S6 fr6 tp6 z0 z1 => ?_
            walk_at "m"
            exact ⟨fr5.trans fr6, tp6⟩
          · walk_at "m"
            exact ⟨fr5, tp5⟩
        · walk_at "m"
          exact ⟨fr5, tp5⟩
      · rintro S6 ⟨fr6, tp6⟩
        walk_at "m"
        refine draw_ok tp6 (by decide) fun z S7 fr7 tp7 z0 z1 => ?_
        walk_at "m"
        exact q (f, (j, 0), min (bj - at') (-1 - z)) _ ⟨hf, kj0, by dsimp only; omega, by dsimp only; omega⟩ (fr6.trans fr7) tp7
      · rintro S6 ⟨fr6, tp6⟩
        walk_at "m"
        refine if_d (fun h => ?_) (fun h => ?_)
        · walk_at "a"
          rename_i z S7 fr7 tp7 hS7 hz
          exact q (f, (j, 0), bj - at' - z) _ ⟨hf, kj0, by dsimp only; omega, by dsimp only; omega⟩ (fr6.trans fr7) tp7
        · walk_at "m"
          refine if_d (fun h2 => ?_) (fun h2 => ?_)
          · walk_at "m"
            refine draw_ok (tp6) (by omega) fun z S7 fr7 tp7 z0 z1 => ?_
            walk_at "a"
            rename_i y S8 fr8 tp8 hS8 hy
            exact q (f, (j, 0), y) _ ⟨hf, kj0, by dsimp only; omega, by dsimp only; omega⟩ ((fr6.trans fr7).trans fr8) tp8
          · walk_at "a"
            rename_i z S7 fr7 tp7 hS7 hz y S8 fr8 tp8 hS8 hy
            have hlt : 0 ≤ min (at' + z) 30 ∧ min (at' + z) 30 ≤ 30 := by omega
            exact q (f, (-1, min (at' + z) 30), min (at' + z) 30 - at' - y) _ ⟨hf, Or.inl ⟨rfl, hlt.1, hlt.2⟩, by dsimp only; omega, by dsimp only; omega⟩ ((fr6.trans fr7).trans fr8) tp8
structure W43 (p : Pr) (ms bs : List Int) : Prop where
  ok : p.Ok
  as : As p ms bs
  ls : p.ls = []
  dl : p.dl ≤ 30
  b8 : ∀ b ∈ bs, b ≤ 8
  t12 : ∀ a ∈ p.as, ∀ m ∈ a.ms, m.tk ≤ 12
set_option maxHeartbeats 2000000 in
theorem k43_world_ok {k : Nat} {S : St} {Q : QD} (tp : Tp S)
    (q : ∀ p ms bs S', W43 p ms bs → Fr S S' → Tp S' → Q (.tup [pjD p, .tup (ms.map .int), .tup (bs.map .int)]) S') : callW T (k + 6) i__law_k43_world [.ref 2] S Q := by
  refine call_of T__law_k43_world rfl ?_
  dsimp only [f__law_k43_world, b__law_k43_world, startD, List.map, List.length_cons, List.length_nil, Nat.reduceAdd, Nat.reduceSub, List.replicate, List.cons_append, List.nil_append, List.append_nil]
  have hS := tp.len
  generalize hg : ("abcdef" : Str) = letters
  have hs1 : letters.length = 6 := by rw [← hg]; decide +kernel
  have hs2 : ∀ c ∈ letters.cps.toList, c < 0x110000 := by rw [← hg]; decide +kernel
  have hs3 : letters.cps.toList.length = 6 := by rw [← hs1]; simp [Str.length]
  clear hg
  walk_at "m"
  refine pickN tp (by simp) (by simp) fun d S1 hd fr1 tp1 => ?_
  obtain ⟨many, goods, rfl, m0, m1, g0, g1⟩ : ∃ many goods : Int, d = .tup [.int many, .int goods] ∧ 0 ≤ many ∧ many ≤ 3 ∧ 0 ≤ goods ∧ goods ≤ 2 := by
    simp only [List.mem_cons, List.not_mem_nil, or_false] at hd
    rcases hd with rfl | rfl | rfl | rfl | rfl | rfl | rfl <;> exact ⟨_, _, rfl, by decide, by decide, by decide, by decide⟩
  clear hd
  refine ⟨_, rfl, ?_⟩
  walk_at "a"
  rename_i top S2 fr2 tp2 hS2 htop y S3 fr3 tp3 y0 y1 hS3 n S4 fr4 tp4 hS4 hn y' S5 fr5 tp5 y0' y1' hS5
  generalize decide (0 < y) = flat
  have fr03 := (fr1.trans fr2).trans fr3
  have l3 : S3.length < S4.length := by have := fr4.len; simp at this; omega
  have l03 := fr03.len
  have hA5 : S5[S3.length]? = some (.lst (([] : List Ac).map acD)) := fr5.get (by omega) (fr4.get (by omega) (get_app (get_app get_new)))
  have hB5 : S5[S3.length + 1]? = some (.lst (([] : List Int).map D.int)) := fr5.get (by omega) (fr4.get (by omega) (get_app (get_new' (by simp))))
  have hM5 : S5[S3.length + 2]? = some (.lst (([] : List Int).map D.int)) := fr5.get (by omega) (fr4.get (by omega) (get_new' (by simp)))
  have fr05 : Fr S S5 := (fr03.trans ((((Ext.new ..).app _).app _).fr.trans fr4)).trans fr5
  clear fr4 fr03 fr1 fr2 fr3 tp1 tp2 tp3 tp4 fr5
  refine b_mulI (Or.inr (by omega)) ?_
  have hz : n * min y' 1 ≤ 6 := by
    have : min y' 1 = 0 ∨ min y' 1 = 1 := by omega
    rcases this with h | h <;> rw [h] <;> omega
  have hz0 : 0 ≤ n * min y' 1 := by
    have : min y' 1 = 0 ∨ min y' 1 = 1 := by omega
    rcases this with h | h <;> rw [h] <;> omega
  generalize n * min y' 1 = num at *
  walk_at "m"
  refine r_one (by omega) ?_
  have e1 : (S3 ++ [MO.lst []]).length = S3.length + 1 := by simp
  have e2 : (S3 ++ [MO.lst []] ++ [MO.lst []]).length = S3.length + 2 := by simp
  rw [e1, e2]
  clear e1 e2
  refine for_inv (callW_mono T _) (fun c σ S' => ∃ (as : List Ac) (ms bs : List Int) (v6 v12 v13 v14 : Option D), σ = [some (.ref 2), some (.int top), some (.bl flat), some (.ref S3.length), some (.ref (S3.length + 1)), some (.ref (S3.length + 2)), v6, none, none, none, some (.int many), some (.int goods), v12, v13, v14, none, none, none] ∧
      S'[S3.length]? = some (.lst (as.map acD)) ∧ S'[S3.length + 1]? = some (.lst (bs.map D.int)) ∧ S'[S3.length + 2]? = some (.lst (ms.map D.int)) ∧ as.length = c ∧ ms.length = c ∧ bs.length = c ∧
      (∀ a ∈ as, a.Ok many.toNat goods.toNat ∧ ∀ m ∈ a.ms, m.tk ≤ 12) ∧ (∀ (i : Nat) a, as[i]? = some a → ∃ m : Int, ms[i]? = some m ∧ 0 ≤ m ∧ m < a.ms.length) ∧ (∀ b ∈ bs, 0 ≤ b ∧ b ≤ 8) ∧ Fr S S' ∧ Tp S')
    ⟨[], [], [], _, _, _, _, rfl, hA5, hB5, hM5, rfl, rfl, rfl, by simp, by simp, by simp, fr05, tp5⟩ (fun _ _ _ _ => trivial) ?_ ?_
  · clear hA5 hB5 hM5 fr05 tp5
    rintro c x σ S6 hx ⟨as, ms, bs, v6, v12, v13, v14, rfl, hA6, hB6, hM6, hal, hml, hbl, hao, hmo, hbo, fr6, tp6⟩
    obtain ⟨hc, rfl⟩ := rgD_get hx
    have hS6 := tp6.len
    have lA := lt_of_get hA6
    have lB := lt_of_get hB6
    have lM := lt_of_get hM6
    refine ⟨_, rfl, ?_⟩
    walk_at "a"
    rename_i n2 S7 fr7 tp7 hS7 hn2
    refine r_one (by omega) ?_
    have hR7 : S7[S6.length]? = some (.lst (([] : List Md).map mdD)) := fr7.get (by omega) get_new
    have hA7 := fr7.get (show S3.length ≠ 2 by omega) (get_app (X := [MO.lst []]) hA6)
    have hB7 := fr7.get (show S3.length + 1 ≠ 2 by omega) (get_app (X := [MO.lst []]) hB6)
    have hM7 := fr7.get (show S3.length + 2 ≠ 2 by omega) (get_app (X := [MO.lst []]) hM6)
    have fr07 : Fr S S7 := fr6.trans ((Ext.new ..).fr.trans fr7)
    refine for_inv (callW_mono T _) (fun j σ S' => ∃ (rs : List Md) (v13 v14 : Option D), σ = [some (.ref 2), some (.int top), some (.bl flat), some (.ref S3.length), some (.ref (S3.length + 1)), some (.ref (S3.length + 2)), some (.int (0 + (c : Int))), none, none, none, some (.int many), some (.int goods), some (.ref S6.length), v13, v14, none, none, none] ∧
        S'[S3.length]? = some (.lst (as.map acD)) ∧ S'[S3.length + 1]? = some (.lst (bs.map D.int)) ∧ S'[S3.length + 2]? = some (.lst (ms.map D.int)) ∧ S'[S6.length]? = some (.lst (rs.map mdD)) ∧ rs.length = j ∧ (∀ m ∈ rs, m.Ok many.toNat goods.toNat ∧ m.tk ≤ 12) ∧ Fr S S' ∧ Tp S')
      ⟨[], _, _, rfl, hA7, hB7, hM7, hR7, rfl, by simp, fr07, tp7⟩ (fun _ _ _ _ => trivial) ?_ ?_
    · clear hA7 hB7 hM7 hR7 fr07 fr7 tp7 fr6 tp6 hA6 hB6 hM6
      rintro j x σ S8 hx ⟨rs, v13, v14, rfl, hA8, hB8, hM8, hR8, hrl, hro, fr8, tp8⟩
      obtain ⟨hj, rfl⟩ := rgD_get hx
      refine ⟨_, rfl, ?_⟩
      walk_at "a"
      rename_i tk S9 fr9 tp9 t0 t1 hS9
      refine game_mode_ok tp9 t0 (by omega) m0 m1 g0 g1 fun md S10 hmd htk fr10 tp10 => ?_
      have fr810 := fr9.trans fr10
      have hA10 := fr810.get (show S3.length ≠ 2 by omega) hA8
      have hB10 := fr810.get (show S3.length + 1 ≠ 2 by omega) hB8
      have hM10 := fr810.get (show S3.length + 2 ≠ 2 by omega) hM8
      have hR10 := fr810.get (show S6.length ≠ 2 by omega) hR8
      have fr010 := fr8.trans fr810
      have mtk : md.tk ≤ 12 := by omega
      clear hA8 hB8 hM8 hR8 fr8 tp8 fr9 tp9 fr10 fr810 htk t0 t1 tk
      walk_at "m"
      refine ss_cut (callW_mono T _) (fun σ' S' => ∃ md : Md, σ' = [some (.ref 2), some (.int top), some (.bl flat), some (.ref S3.length), some (.ref (S3.length + 1)), some (.ref (S3.length + 2)), some (.int (0 + (c : Int))), none, none, none, some (.int many), some (.int goods), some (.ref S6.length), some (.int (0 + (j : Int))), some (mdD md), none, none, none] ∧ md.Ok many.toNat goods.toNat ∧ md.tk ≤ 12 ∧ Ext S10 S') ?_ ?_
      · walk_at "m"
        cases flat with
        | false =>
          walk_at "m"
          exact ⟨md, rfl, hmd, mtk, Ext.refl _⟩
        | true =>
          walk_at "m"
          have hcl := hmd.cl
          refine ⟨_, rfl, by rw [List.length_map]; unfold sizeLine; omega, ?_⟩
          refine lc_mapE (callW_mono T _) pairD (fun x => pairD (0, x.2)) (fun _ _ => rfl) ?_ ?_
          · intro x hx S11 e11
            refine ⟨_, rfl, ?_⟩
            walk_at "m"
            exact ⟨rfl, Ext.refl _⟩
          intro S11 e11
          walk_at "m"
          refine b_addT (by simp only [List.length_cons, List.length_nil]; have := cut_len [D.int md.tk, .tup (md.dm.map .int), .tup (md.ch.map pairD), .int md.co] none (some 2); simp only [List.length_cons, List.length_nil] at this; unfold sizeLine; omega) ?_
          refine ⟨⟨md.tk, md.dm, md.ch.map fun x => (0, x.2), md.co⟩, ?_, ⟨hmd.tk0, hmd.tk1, hmd.dl, hmd.dm, by dsimp only; rw [List.length_map]; exact hmd.cl, fun x hx => ?_, hmd.co0, hmd.co1⟩, mtk, e11.app _⟩
          · unfold mdD
            rw [List.map_map]
            rfl
          · obtain ⟨y, hy, rfl⟩ := List.mem_map.1 hx
            exact ⟨Or.inl rfl, (hmd.ch y hy).2⟩
      · rintro σ S11 ⟨md', rfl, hmd', mtk', e11⟩
        have hR11 := e11.get hR10
        walk_at "a"
        refine ⟨rs ++ [md'], _, _, rfl, get_set (by omega) (e11.get hA10), get_set (by omega) (e11.get hB10), get_set (by omega) (e11.get hM10), ?_, by rw [List.length_append, hrl]; rfl, all_snoc hro ⟨hmd', mtk'⟩, (fr010.trans e11.fr).set _ (by omega), (tp10.ext e11).set _ (by omega)⟩
        rw [List.map_append]
        exact get_set_self hR11
    · clear hA7 hB7 hM7 hR7 fr07 fr7 tp7 fr6 tp6 hA6 hB6 hM6
      rintro σ S8 ⟨rs, v13, v14, rfl, hA8, hB8, hM8, hR8, hrl, hro, fr8, tp8⟩
      rw [rgD_len] at hrl
      walk_at "m"
      refine ⟨lstD_lst hA8, ?_⟩
      walk_at "m"
      refine ix_str (by rw [hs1]; decide) (atI_int (by omega) (List.getElem?_eq_getElem (show (0 + (c : Int)).toNat < letters.cps.toList.length by omega))) ?_
      have hch : letters.cps.toList[(0 + (c : Int)).toNat]'(by omega) < 0x110000 := hs2 _ (List.getElem_mem _)
      generalize letters.cps.toList[(0 + (c : Int)).toNat]'(by omega) = ch at *
      walk_at "m"
      refine m_append hA8 (by rw [List.length_map]; unfold sizeLine; omega) ?_
      walk_at "m"
      have hA9 : (S8.set S3.length (MO.lst (as.map acD ++ [.tup [.str ⟨#[ch]⟩, .tup (rs.map mdD)]])))[S3.length]? = some (.lst ((as ++ [(⟨(⟨#[ch]⟩ : Str), rs⟩ : Ac)]).map acD)) := by rw [List.map_append]; exact get_set_self hA8
      have hB9 := get_set (m' := MO.lst (as.map acD ++ [.tup [.str ⟨#[ch]⟩, .tup (rs.map mdD)]])) (show S3.length + 1 ≠ S3.length by omega) hB8
      have hM9 := get_set (m' := MO.lst (as.map acD ++ [.tup [.str ⟨#[ch]⟩, .tup (rs.map mdD)]])) (show S3.length + 2 ≠ S3.length by omega) hM8
      have hR9 := get_set (m' := MO.lst (as.map acD ++ [.tup [.str ⟨#[ch]⟩, .tup (rs.map mdD)]])) (show S6.length ≠ S3.length by omega) hR8
      have fr9 := fr8.set (MO.lst (as.map acD ++ [.tup [.str ⟨#[ch]⟩, .tup (rs.map mdD)]])) (show S.length ≤ S3.length by omega)
      have tp9 := tp8.set (MO.lst (as.map acD ++ [.tup [.str ⟨#[ch]⟩, .tup (rs.map mdD)]])) (show 3 ≤ S3.length by omega)
      generalize S8.set S3.length (MO.lst (as.map acD ++ [.tup [.str ⟨#[ch]⟩, .tup (rs.map mdD)]])) = S9 at *
      have hrl2 : 1 ≤ rs.length ∧ rs.length ≤ 2 := by omega
      refine ⟨lstD_lst hM9, ?_⟩
      walk_at "m"
      rw [List.length_map]
      refine draw_ok tp9 (by omega) fun mo S10 fr10 tp10 mo0 mo1 => ?_
      have hM10 := fr10.get (show S3.length + 2 ≠ 2 by omega) hM9
      walk_at "a"
      rename_i z S11 fr11 tp11 hS11 hz w S12 fr12 tp12 w0 w1 hS12
      have fr1112 := fr11.trans fr12
      have hA12 := fr1112.get (show S3.length ≠ 2 by omega) (get_set (m' := MO.lst (ms.map D.int ++ [.int mo])) (show S3.length ≠ S3.length + 2 by omega) (fr10.get (show S3.length ≠ 2 by omega) hA9))
      have hM12 := fr1112.get (show S3.length + 2 ≠ 2 by omega) (get_set_self (m' := MO.lst (ms.map D.int ++ [.int mo])) hM10)
      have hB12 := fr1112.get (show S3.length + 1 ≠ 2 by omega) (get_set (m' := MO.lst (ms.map D.int ++ [.int mo])) (show S3.length + 1 ≠ S3.length + 2 by omega) (fr10.get (show S3.length + 1 ≠ 2 by omega) hB9))
      have fr012 : Fr S S12 := ((fr9.trans fr10).set _ (by omega)).trans fr1112
      refine ⟨as ++ [⟨⟨#[ch]⟩, rs⟩], ms ++ [mo], bs ++ [w], _, _, _, _, rfl, get_set (by omega) hA12, ?_, ?_, by rw [List.length_append, hal]; rfl, by rw [List.length_append, hml]; rfl, by rw [List.length_append, hbl]; rfl, all_snoc hao ⟨⟨⟨by show (1 : Nat) ≤ 12; decide, shaped_one hch⟩, by dsimp only; omega, by dsimp only; omega, fun m hm => (hro m hm).1⟩, fun m hm => (hro m hm).2⟩, fun i a ha => ?_, all_snoc hbo ⟨w0, by omega⟩, fr012.set _ (by omega), tp12.set _ (by omega)⟩
      · rw [List.map_append]; exact get_set_self hB12
      · rw [List.map_append]; exact get_set (by omega) hM12
      · by_cases g : i < as.length
        · rw [List.getElem?_append_left g] at ha
          obtain ⟨m, h1, h2⟩ := hmo i a ha
          exact ⟨m, by rw [List.getElem?_append_left (by omega)]; exact h1, h2⟩
        · have hi := (List.getElem?_eq_some_iff.1 ha).1
          rw [List.length_append, List.length_singleton] at hi
          have : i = c := by omega
          subst this
          rw [List.getElem?_append_right (by omega), hal, Nat.sub_self] at ha
          cases ha
          exact ⟨mo, by rw [List.getElem?_append_right (by omega), hml, Nat.sub_self]; rfl, mo0, by dsimp only; omega⟩
  · clear hA5 hB5 hM5 fr05 tp5
    rintro σ S6 ⟨as, ms, bs, v6, v12, v13, v14, rfl, hA6, hB6, hM6, hal, hml, hbl, hao, hmo, hbo, fr6, tp6⟩
    rw [rgD_len] at hal hml hbl
    have hS6 := tp6.len
    refine ss_cut (callW_mono T _) (fun σ' S' => ∃ bs : List Int, σ' = [some (.ref 2), some (.int top), some (.bl flat), some (.ref S3.length), some (.ref (S3.length + 1)), some (.ref (S3.length + 2)), v6, none, none, none, some (.int many), some (.int goods), v12, v13, v14, none, none, none] ∧
      S'[S3.length]? = some (.lst (as.map acD)) ∧ S'[S3.length + 1]? = some (.lst (bs.map D.int)) ∧ S'[S3.length + 2]? = some (.lst (ms.map D.int)) ∧ bs.length = as.length ∧ (∀ b ∈ bs, 0 ≤ b ∧ b ≤ 8) ∧ Fr S S' ∧ Tp S') ?_ ?_
    · refine s_if (callW_mono T _) (fun b S' => Fr S6 S' ∧ Tp S' ∧ (b = true → 2 ≤ as.length)) ?_ ?_ ?_
      · walk_at "a"
        · rename_i h1 y S7 fr7 tp7 y0 y1 hS7
          rw [List.length_map] at h1
          exact ⟨fr7, tp7, fun _ => by omega⟩
        · rename_i h1
          rw [List.length_map] at h1
          exact ⟨Fr.refl _, tp6, fun hb => by rw [decide_eq_true_iff, List.length_map] at hb; exact absurd hb h1⟩
      · rintro S7 ⟨fr7, tp7, h2⟩
        have h2 := h2 rfl
        have hB7 := fr7.get (show S3.length + 1 ≠ 2 by omega) hB6
        have hb0 : bs[0]? = some (bs[0]'(by omega)) := List.getElem?_eq_getElem _
        walk_at "m"
        refine ix_ref hB7 (atI_map (atI_int (by decide) hb0)) ?_
        walk_at "m"
        refine st_ix hB7 (j := 1) (by rw [List.length_map]; exact ixN_nat (n := bs.length) (i := 1) (by omega)) ?_
        refine ⟨bs.set 1 (bs[0]'(by omega)), rfl, get_set (by omega) (fr7.get (by omega) hA6), ?_, get_set (by omega) (fr7.get (by omega) hM6), by rw [List.length_set]; omega, fun b hb => ?_, (fr6.trans fr7).set _ (by omega), tp7.set _ (by omega)⟩
        · rw [List.map_set]; exact get_set_self hB7
        · rcases List.mem_or_eq_of_mem_set hb with hb | hb
          · exact hbo b hb
          · rw [hb]; exact hbo _ (List.getElem_mem _)
      · rintro S7 ⟨fr7, tp7, -⟩
        refine ss_nil ?_
        exact ⟨bs, rfl, fr7.get (by omega) hA6, fr7.get (by omega) hB6, fr7.get (by omega) hM6, by omega, hbo, fr6.trans fr7, tp7⟩
    clear hA6 hB6 hM6 hbo hbl fr6 tp6 hS6
    rintro σ S7 ⟨bs, rfl, hA7, hB7, hM7, hbl, hbo, fr7, tp7⟩
    walk_at "m"
    refine r_one (by omega) ⟨by rw [rgD_len]; unfold sizeLine; omega, ?_⟩
    refine lc_gen (callW_mono T _) rsD (fun _ r => r.Ok) tp7 (fun _ _ => trivial) ?_ fun rs S8 hrsl hrsP fr8 tp8 => ?_
    · intro j x S' hx fr' tp'
      obtain ⟨hj, rfl⟩ := rgD_get hx
      have nm := nmR ⟨j, by omega⟩
      dsimp only at nm
      refine ⟨_, rfl, ?_⟩
      walk_at "m"
      refine l_strI (by have : (0 + (j : Int)).natAbs < 2 ^ 10 := by omega
                        exact Nat.lt_of_lt_of_le this (Nat.pow_le_pow_right (by decide) (by decide))) ?_
      rw [Int.zero_add]
      refine b_addS (Nat.le_trans nm.1 (by decide)) ?_
      walk_at "m"
      refine game_closures_ok tp' (by decide) fun cl S9 hcl hcs fr9 tp9 => ?_
      walk_at "m"
      exact ⟨⟨_, 0, cl⟩, rfl, ⟨nm.2, (by show (0 : Int) ≤ 0; decide), (by show (0 : Int) ≤ 9; decide), hcl, hcs⟩, fr9, tp9⟩
    rw [rgD_len] at hrsl
    walk_at "m"
    have hA8 := get_app (X := [MO.lst (rs.map rsD)]) (fr8.get (show S3.length ≠ 2 by omega) hA7)
    have hB8 := get_app (X := [MO.lst (rs.map rsD)]) (fr8.get (show S3.length + 1 ≠ 2 by omega) hB7)
    have hM8 := get_app (X := [MO.lst (rs.map rsD)]) (fr8.get (show S3.length + 2 ≠ 2 by omega) hM7)
    have fr8' : Fr S (S8 ++ [MO.lst (rs.map rsD)]) := (fr7.trans fr8).app _
    have tp8' := tp8.app [MO.lst (rs.map rsD)]
    clear fr8 tp8 hA7 hB7 hM7 fr7 tp7
    generalize S8 ++ [MO.lst (rs.map rsD)] = S8' at *
    refine r_one (by omega) ⟨by rw [rgD_len]; unfold sizeLine; omega, ?_⟩
    refine lc_gen (callW_mono T _) ivD (fun _ v => v.Ok) tp8' (fun _ _ => trivial) ?_ fun vs S9 hvsl hvsP fr9 tp9 => ?_
    · intro j x S' hx fr' tp'
      obtain ⟨hj, rfl⟩ := rgD_get hx
      have nm := nmV ⟨j, by omega⟩
      dsimp only at nm
      refine ⟨_, rfl, ?_⟩
      walk_at "m"
      refine l_strI (by have : (0 + (j : Int)).natAbs < 2 ^ 10 := by omega
                        exact Nat.lt_of_lt_of_le this (Nat.pow_le_pow_right (by decide) (by decide))) ?_
      rw [Int.zero_add]
      refine b_addS (Nat.le_trans nm.1 (by decide)) ?_
      walk_at "m"
      refine draw_ok tp' (by decide) fun st S9 fr9 tp9 s0 s1 => ?_
      walk_at "m"
      exact ⟨⟨_, st - 1, none, none⟩, rfl, ⟨nm.2, by dsimp only; omega, by dsimp only; omega, fun _ h => (by cases h), fun _ h => (by cases h)⟩, fr9, tp9⟩
    rw [rgD_len] at hvsl
    walk_at "m"
    have hA9 := get_app (X := [MO.lst (vs.map ivD)]) (fr9.get (show S3.length ≠ 2 by omega) hA8)
    have hB9 := get_app (X := [MO.lst (vs.map ivD)]) (fr9.get (show S3.length + 1 ≠ 2 by omega) hB8)
    have hM9 := get_app (X := [MO.lst (vs.map ivD)]) (fr9.get (show S3.length + 2 ≠ 2 by omega) hM8)
    have fr9' : Fr S (S9 ++ [MO.lst (vs.map ivD)]) := (fr8'.trans fr9).app _
    have tp9' := tp9.app [MO.lst (vs.map ivD)]
    clear fr9 tp9 hA8 hB8 hM8 fr8' tp8'
    generalize S9 ++ [MO.lst (vs.map ivD)] = S9' at *
    have pok : (⟨30, rs, vs, as, []⟩ : Pr).Ok := ⟨(by show (0 : Int) ≤ 30; decide), (by show (30 : Int) ≤ 30; decide), by dsimp only; omega, all_of hrsP fun _ _ h => h, by dsimp only; omega, all_of hvsP fun _ _ h => h, by dsimp only; omega, fun a ha => by
      dsimp only
      rw [show rs.length = many.toNat by omega, show vs.length = goods.toNat by omega]
      exact (hao a ha).1, Nat.zero_le _, fun l hl => by cases hl⟩
    have pch : Ch (⟨30, rs, vs, as, []⟩ : Pr) ms := ⟨by dsimp only; omega, fun i a ha => hmo i a ha⟩
    have pas : As (⟨30, rs, vs, as, []⟩ : Pr) ms bs := ⟨pch, hbl, fun i b hb => (hbo b (List.mem_of_getElem? hb)).1, fun i b hb => by
      have hil : i < ms.length := by have := (List.getElem?_eq_some_iff.1 hb).1; omega
      obtain ⟨a, m, h1, h2, h3, h4, h5⟩ := pch.get hil
      have h6 := (hao a (List.mem_of_getElem? h1)).2 _ (List.mem_of_getElem? h5)
      have := (hbo b (List.mem_of_getElem? hb)).2
      show _ ≤ (30 : Int)
      omega⟩
    walk_at "m"
    refine d_loose_ok (p := ⟨30, rs, vs, as, []⟩) pok pas (fun S10 e10 => ?_) fun p' S10 ok' h1 h2 h3 h4 h5 e10 => ?_
    · walk_at "m"
      refine q ⟨9, [], [], [], []⟩ [] [] _ ⟨⟨by decide, by decide, by decide, (by simp), by decide, (by simp), by decide, (by simp), by decide, (by simp)⟩, ⟨⟨rfl, by simp⟩, rfl, by simp, by simp⟩, rfl, by decide, by simp, by simp⟩ (fr9'.trans e10.fr) (tp9'.ext e10)
    · walk_at "m"
      have := e10.get hM9
      have := e10.get hB9
      walk_at "m"
      exact q p' ms bs _ ⟨ok', pas.like h1 (by rw [h2]), h3, by omega, fun b hb => (hbo b hb).2, fun a ha => by rw [h1] at ha; exact (hao a ha).2⟩ (fr9'.trans e10.fr) (tp9'.ext e10)
set_option maxHeartbeats 1000000 in
theorem k43_lags_ok {k : Nat} {S : St} {p : Pr} {ms bs : List Int} {odd : Bool} {Q : QD} (tp : Tp S) (W : W43 p ms bs)
    (q : ∀ p' S', p'.Ok → p'.as = p.as → mkF (tks p ms) bs ≤ p'.dl → Fr S S' → Tp S' → Q (pjD p') S') : callW T (k + 4) i__law_k43_lags [.ref 2, pjD p, .tup (ms.map .int), .tup (bs.map .int), .bl odd] S Q := by
  refine call_of T__law_k43_lags rfl ?_
  dsimp only [f__law_k43_lags, b__law_k43_lags, startD, List.map, List.length_cons, List.length_nil, Nat.reduceAdd, Nat.reduceSub, List.replicate, List.cons_append, List.nil_append, List.append_nil]
  have hS := tp.len
  have ok := W.ok
  have hal := ok.al
  have hml := W.as.ml
  have hbl := W.as.bl
  have hvl := ok.vl
  have hb8 : ∀ b ∈ bs, 0 ≤ b ∧ b ≤ 8 := fun b hb => by
    obtain ⟨i, hi⟩ := List.getElem?_of_mem hb
    exact ⟨W.as.b0 i b hi, W.b8 b hb⟩
  have ht12 : ∀ t ∈ tks p ms, 0 ≤ t ∧ t ≤ 12 := fun t ht => by
    unfold tks at ht
    obtain ⟨i, hi, rfl⟩ := List.mem_map.1 ht
    rw [List.mem_range] at hi
    obtain ⟨a, m, h1, h2, h3, h4, h5⟩ := W.as.toCh.get hi
    exact ⟨(W.as.toCh.md_ok ok hi).tk0, W.t12 a (List.mem_of_getElem? h1) _ (List.mem_of_getElem? h5)⟩
  walk_at "m"
  refine w_takes_ok W.as.toCh (by omega) fun S1 e1 => ?_
  have hS1 := (tp.ext e1).len
  walk_at "m"
  refine pickJ ((tp.ext e1).app _) (by walk_at "allz") (by simp) (by simp) fun n S2 hn fr2 tp2 => ?_
  simp only [memI, or_false] at hn
  have hf2 : S2[S1.length]? = some (.lst (([] : List Lg).map lgD)) := fr2.get (by omega) get_new
  have fr02 : Fr S S2 := e1.fr.trans ((Ext.new ..).fr.trans fr2)
  have h12 := fr2.len
  simp only [List.length_append, List.length_singleton] at h12
  walk_at "m"
  rw [List.length_map]
  have hz : 0 ≤ n * min (ms.length : Int) 1 ∧ n * min (ms.length : Int) 1 ≤ 8 ∧ (0 < n * min (ms.length : Int) 1 → 0 < ms.length) := by
    have : min (ms.length : Int) 1 = 0 ∨ (min (ms.length : Int) 1 = 1 ∧ 0 < ms.length) := by omega
    rcases this with h | ⟨h, h'⟩ <;> rw [h] <;> omega
  refine b_mulI (Or.inr (by omega)) ?_
  walk_at "m"
  generalize n * min (ms.length : Int) 1 = num at *
  refine r_one (by omega) ?_
  have h01 := e1.len
  refine for_inv (callW_mono T _) (fun c σ S' => ∃ (ls : List Lg) (v7 : Option D), σ = [some (.ref 2), some (pjD p), some (.tup (ms.map .int)), some (.tup (bs.map .int)), some (.bl odd), some (.tup ((tks p ms).map .int)), some (.ref S1.length), v7, none, none, none, none, none, none] ∧ S'[S1.length]? = some (.lst (ls.map lgD)) ∧ ls.length = c ∧ (∀ l ∈ ls, LgOk ms.length l) ∧ Fr S S' ∧ Tp S')
    ⟨[], _, rfl, hf2, rfl, by simp, fr02, tp2⟩ (fun _ _ _ _ => trivial) ?_ ?_
  · rintro c x σ S3 hx ⟨ls, v7, rfl, hf3, hl3, hk3, fr3, tp3⟩
    obtain ⟨hc, rfl⟩ := rgD_get hx
    refine ⟨_, rfl, ?_⟩
    walk_at "m"
    refine ⟨lstD_lst hf3, ?_⟩
    walk_at "m"
    refine k43_lag_ok tp3 (by rw [tks_len]; omega) (by rw [tks_len]; omega) (by rw [tks_len]; omega) hb8 ht12 fun l S4 hl fr4 tp4 => ?_
    rw [tks_len] at hl
    have hf4 := fr4.get (show S1.length ≠ 2 by omega) hf3
    walk_at "a"
    refine ⟨ls ++ [l], _, rfl, by rw [List.map_append]; exact get_set_self hf4, by rw [List.length_append, hl3]; rfl, all_snoc hk3 hl, (fr3.trans fr4).set _ (by omega), tp4.set _ (by omega)⟩
  clear hf2 fr02 tp2 fr2
  rintro σ S3 ⟨ls, v7, rfl, hf3, hl3, hk3, fr3, tp3⟩
  rw [rgD_len] at hl3
  have hl3 : ls.length ≤ 8 := by omega
  have hS3 := tp3.len
  have h13 := lt_of_get hf3
  refine ss_cut (callW_mono T _) (fun σ' S' => ∃ (ls : List Lg) (r : Nat), σ' = [some (.ref 2), some (pjD p), some (.tup (ms.map .int)), some (.tup (bs.map .int)), some (.bl odd), some (.tup ((tks p ms).map .int)), some (.ref r), v7, none, none, none, none, none, none] ∧ 3 ≤ r ∧ S'[r]? = some (.lst (ls.map lgD)) ∧ ls.length ≤ 10 ∧ (∀ l ∈ ls, LgOk ms.length l) ∧ Fr S S' ∧ Tp S') ?_ ?_
  · refine s_if (callW_mono T _) (fun b S' => S' = S3 ∧ (b = true → 2 ≤ ms.length)) ?_ ?_ ?_
    · walk_at "m"
      rw [List.length_map]
      refine if_d (fun h => ?_) (fun h => ?_)
      · have hb0 : bs[0]? = some (bs[0]'(by omega)) := List.getElem?_eq_getElem _
        have hb1 : bs[1]? = some (bs[1]'(by omega)) := List.getElem?_eq_getElem _
        walk_at "m"
        refine ix_mapT (by decide) hb0 ?_
        walk_at "m"
        refine ix_mapT (by decide) hb1 ?_
        walk_at "m"
        exact ⟨rfl, fun _ => by omega⟩
      · refine ex_truB ?_
        exact ⟨rfl, fun hb => absurd (of_decide_eq_true hb) h⟩
    · rintro S4 ⟨rfl, h2⟩
      have h2 := h2 rfl
      have ht0 : (tks p ms)[0]? = some (md p ms 0).tk := tks_get (by omega)
      have k00 : evK ms.length (0, 0) := Or.inr ⟨by decide, by dsimp only; omega, Or.inl rfl⟩
      have k01 : evK ms.length (0, 1) := Or.inr ⟨by decide, by dsimp only; omega, Or.inr rfl⟩
      have k10 : evK ms.length (1, 0) := Or.inr ⟨by decide, by dsimp only; omega, Or.inl rfl⟩
      have k11 : evK ms.length (1, 1) := Or.inr ⟨by decide, by dsimp only; omega, Or.inr rfl⟩
      have mk : ∀ e f : Ev, evK ms.length e → evK ms.length f → LgOk ms.length (e, f, 0) := fun e f h1 h2 => ⟨h1, h2, (by show (-60 : Int) ≤ 0; decide), (by show (0 : Int) ≤ 60; decide)⟩
      walk_at "m"
      refine ix_mapT (by decide) ht0 ?_
      walk_at "m"
      refine l_intB ?_
      refine ex_int ?_
      walk_at "m"
      obtain ⟨cs, hcs, hcl, hck⟩ : ∃ cs : List Lg, cutD [D.tup [.tup [.int 0, .int 1], .tup [.int 1, .int 0], .int 0], .tup [.tup [.int 1, .int 0], .tup [.int 0, .int 0], .int 0]] (some (if decide (0 < (md p ms 0).tk) = true then 1 else 0)) none = cs.map lgD ∧ cs.length ≤ 2 ∧ ∀ l ∈ cs, LgOk ms.length l := by
        by_cases g : 0 < (md p ms 0).tk
        · rw [decide_eq_true g]
          exact ⟨[((1, 0), (0, 0), 0)], rfl, by decide, fun l hl => by rw [List.mem_singleton.1 hl]; exact mk _ _ k10 k00⟩
        · rw [decide_eq_false g]
          exact ⟨[((0, 1), (1, 0), 0), ((1, 0), (0, 0), 0)], rfl, by decide, fun l hl => by
            simp only [List.mem_cons, List.not_mem_nil, or_false] at hl
            rcases hl with rfl | rfl
            · exact mk _ _ k01 k10
            · exact mk _ _ k10 k00⟩
      rw [hcs]
      clear hcs
      have hA : (S4 ++ [MO.lst []] ++ [MO.lst [D.tup [.tup [.int 0, .int 0], .tup [.int 1, .int 0], .int 0], .tup [.tup [.int 1, .int 0], .tup [.int 0, .int 0], .int 0]]] ++ [MO.lst [D.tup [.tup [.int 0, .int 1], .tup [.int 1, .int 0], .int 0], .tup [.tup [.int 1, .int 0], .tup [.int 0, .int 0], .int 0]]] ++ [MO.lst (cs.map lgD)])[S4.length]? = some (.lst (([] : List Lg).map lgD)) := get_app (get_app (get_app get_new))
      have hB : (S4 ++ [MO.lst []] ++ [MO.lst [D.tup [.tup [.int 0, .int 0], .tup [.int 1, .int 0], .int 0], .tup [.tup [.int 1, .int 0], .tup [.int 0, .int 0], .int 0]]] ++ [MO.lst [D.tup [.tup [.int 0, .int 1], .tup [.int 1, .int 0], .int 0], .tup [.tup [.int 1, .int 0], .tup [.int 0, .int 0], .int 0]]] ++ [MO.lst (cs.map lgD)])[(S4 ++ [MO.lst []]).length]? = some (.lst (([((0, 0), (1, 0), 0), ((1, 0), (0, 0), 0)] : List Lg).map lgD)) := get_app (get_app get_new)
      have hC := get_new (S := S4 ++ [MO.lst []] ++ [MO.lst [D.tup [.tup [.int 0, .int 0], .tup [.int 1, .int 0], .int 0], .tup [.tup [.int 1, .int 0], .tup [.int 0, .int 0], .int 0]]] ++ [MO.lst [D.tup [.tup [.int 0, .int 1], .tup [.int 1, .int 0], .int 0], .tup [.tup [.int 1, .int 0], .tup [.int 0, .int 0], .int 0]]]) (m := MO.lst (cs.map lgD))
      have e5 : Ext S4 (S4 ++ [MO.lst []] ++ [MO.lst [D.tup [.tup [.int 0, .int 0], .tup [.int 1, .int 0], .int 0], .tup [.tup [.int 1, .int 0], .tup [.int 0, .int 0], .int 0]]] ++ [MO.lst [D.tup [.tup [.int 0, .int 1], .tup [.int 1, .int 0], .int 0], .tup [.tup [.int 1, .int 0], .tup [.int 0, .int 0], .int 0]]] ++ [MO.lst (cs.map lgD)]) := (((Ext.new ..).app _).app _).app _
      have l1 : (S4 ++ [MO.lst []]).length = S4.length + 1 := by simp
      have l2 : S4.length < (S4 ++ [MO.lst []] ++ [MO.lst [D.tup [.tup [.int 0, .int 0], .tup [.int 1, .int 0], .int 0], .tup [.tup [.int 1, .int 0], .tup [.int 0, .int 0], .int 0]]] ++ [MO.lst [D.tup [.tup [.int 0, .int 1], .tup [.int 1, .int 0], .int 0], .tup [.tup [.int 1, .int 0], .tup [.int 0, .int 0], .int 0]]]).length := by simp only [List.length_append, List.length_cons, List.length_nil]; omega
      generalize S4 ++ [MO.lst []] ++ [MO.lst [D.tup [.tup [.int 0, .int 0], .tup [.int 1, .int 0], .int 0], .tup [.tup [.int 1, .int 0], .tup [.int 0, .int 0], .int 0]]] ++ [MO.lst [D.tup [.tup [.int 0, .int 1], .tup [.int 1, .int 0], .int 0], .tup [.tup [.int 1, .int 0], .tup [.int 0, .int 0], .int 0]]] ++ [MO.lst (cs.map lgD)] = S5 at *
      generalize (S4 ++ [MO.lst []] ++ [MO.lst [D.tup [.tup [.int 0, .int 0], .tup [.int 1, .int 0], .int 0], .tup [.tup [.int 1, .int 0], .tup [.int 0, .int 0], .int 0]]] ++ [MO.lst [D.tup [.tup [.int 0, .int 1], .tup [.int 1, .int 0], .int 0], .tup [.tup [.int 1, .int 0], .tup [.int 0, .int 0], .int 0]]]).length = rc at *
      generalize (S4 ++ [MO.lst []]).length = rb at *
      refine pickN (tp3.ext e5) (by simp) (by simp) fun d S6 hd fr6 tp6 => ?_
      obtain ⟨rx, xs, rfl, hx3, hx, hxl, hxk⟩ : ∃ (rx : Nat) (xs : List Lg), d = .ref rx ∧ 3 ≤ rx ∧ S5[rx]? = some (.lst (xs.map lgD)) ∧ xs.length ≤ 2 ∧ ∀ l ∈ xs, LgOk ms.length l := by
        simp only [List.mem_cons, List.not_mem_nil, or_false] at hd
        rcases hd with rfl | rfl | rfl
        · exact ⟨_, [], rfl, by omega, hA, by decide, by simp⟩
        · exact ⟨_, _, rfl, by omega, hB, by decide, fun l hl => by
            simp only [List.mem_cons, List.not_mem_nil, or_false] at hl
            rcases hl with rfl | rfl
            · exact mk _ _ k00 k10
            · exact mk _ _ k10 k00⟩
        · exact ⟨_, cs, rfl, by omega, hC, hcl, hck⟩
      refine b_addL (fr6.get (by omega) (e5.get hf3)) (fr6.get (by omega) hx) (by rw [List.length_map, List.length_map]; unfold sizeLine; omega) ?_
      rw [← List.map_append]
      have l6 := tp6.len
      refine ⟨ls ++ xs, S6.length, rfl, l6, get_new, by rw [List.length_append]; omega, fun l hl => ?_, ((fr3.trans e5.fr).trans fr6).app _, tp6.app _⟩
      rcases List.mem_append.1 hl with hl | hl
      · exact hk3 l hl
      · exact hxk l hl
    · rintro S4 ⟨rfl, -⟩
      refine ss_nil ?_
      exact ⟨ls, _, rfl, by omega, hf3, by omega, hk3, fr3, tp3⟩
  clear hf3 hl3 hk3 fr3 tp3 hS3 h13
  rintro σ S3 ⟨ls, r, rfl, hr3, hf3, hl3, hk3, fr3, tp3⟩
  have hS3 := tp3.len
  walk_at "m"
  rw [List.length_map]
  refine r_one (by omega) ?_
  have hg3 := get_app (X := [MO.lst []]) hf3
  have hg2 := lt_of_get hf3
  refine for_inv (callW_mono T _) (fun c σ S' => ∃ (vs : List Iv) (v9 v10 v11 v12 v13 : Option D), σ = [some (.ref 2), some (pjD p), some (.tup (ms.map .int)), some (.tup (bs.map .int)), some (.bl odd), some (.tup ((tks p ms).map .int)), some (.ref r), v7, some (.ref S3.length), v9, v10, v11, v12, v13] ∧ S'[r]? = some (.lst (ls.map lgD)) ∧ S'[S3.length]? = some (.lst (vs.map ivD)) ∧ vs.length = c ∧ (∀ v ∈ vs, v.Ok) ∧ Fr S S' ∧ Tp S')
    ⟨[], _, _, _, _, _, rfl, hg3, get_new, rfl, by simp, fr3.app _, tp3.app _⟩ (fun _ _ _ _ => trivial) ?_ ?_
  · rintro c x σ S4 hx ⟨vs, v9, v10, v11, v12, v13, rfl, hr4, hv4, hvl4, hvk4, fr4, tp4⟩
    obtain ⟨hc, rfl⟩ := rgD_get hx
    have hc : c < p.vs.length := by omega
    have hvc : p.vs[c]? = some (p.vs[c]'hc) := List.getElem?_eq_getElem _
    have hvo := ok.vs _ (List.mem_of_getElem? hvc)
    generalize p.vs[c]'hc = V at *
    have hS4 := tp4.len
    have hS34 := lt_of_get hv4
    refine ⟨_, rfl, ?_⟩
    walk_at "m"
    refine ix_map0 hvc ?_
    refine ⟨_, rfl, ?_⟩
    walk_at "m"
    refine ⟨lstD_lst hv4, ?_⟩
    walk_at "m"
    refine pickN tp4 (by simp) (by simp) fun d S5 hd fr5 tp5 => ?_
    obtain ⟨lo, hi, rfl, hlo, hhi⟩ : ∃ lo hi : Option Int, d = .tup [oD lo, oD hi] ∧ inO (-20) 20 lo ∧ inO (-20) 20 hi := by
      have hno : inO (-20) 20 none := fun _ h => by cases h
      simp only [List.mem_cons, List.not_mem_nil, or_false] at hd
      rcases hd with rfl | rfl | rfl | rfl
      · exact ⟨V.lo, none, rfl, hvo.lo, hno⟩
      · exact ⟨V.lo, none, rfl, hvo.lo, hno⟩
      · exact ⟨none, V.hi, rfl, hno, hvo.hi⟩
      · exact ⟨V.lo, V.hi, rfl, hvo.lo, hvo.hi⟩
    have hv5 := fr5.get (show S3.length ≠ 2 by omega) hv4
    refine b_addT (by simp only [List.length_cons, List.length_nil]; decide) ?_
    walk_at "m"
    show mthW .append (.ref S3.length) [ivD ⟨V.nm, V.st, lo, hi⟩] _ _
    refine m_append hv5 (by rw [List.length_map]; unfold sizeLine; omega) ?_
    refine ⟨vs ++ [⟨V.nm, V.st, lo, hi⟩], _, _, _, _, _, rfl, get_set (by omega) (fr5.get (by omega) hr4), by rw [List.map_append]; exact get_set_self hv5, by rw [List.length_append, hvl4]; rfl, all_snoc hvk4 ⟨hvo.nm, hvo.s0, hvo.s1, hlo, hhi⟩, (fr4.trans fr5).set _ (by have := fr3.len; omega), tp5.set _ (by omega)⟩
  · rintro σ S4 ⟨vs, v9, v10, v11, v12, v13, rfl, hr4, hv4, hvl4, hvk4, fr4, tp4⟩
    rw [rgD_len] at hvl4
    walk_at "m"
    refine w_ends_ok (by rw [tks_len]; omega) (by rw [tks_len]; omega) fun S5 e5 => ?_
    have hmk := W.as.mk_le ok
    have hmk0 := mkF_ge (tks p ms) bs
    have hdl := W.dl
    generalize mkF (tks p ms) bs = en at *
    have tp5 := tp4.ext e5
    walk_at "a"
    rename_i y S6 fr6 tp6 hS6 hy
    have hr6 := fr6.get (show r ≠ 2 by omega) (e5.get hr4)
    have hv6 := fr6.get (show S3.length ≠ 2 by omega) (e5.get hv4)
    walk_at "m"
    refine q ⟨max en y, p.rs, vs, p.as, ls⟩ _ ⟨by dsimp only; omega, by dsimp only; omega, ok.rl, ok.rs, by dsimp only; omega, hvk4, ok.al, ?_, by dsimp only; omega, fun l hl => by dsimp only; rw [← hml]; exact hk3 l hl⟩ rfl (by dsimp only; omega) ((fr4.trans e5.fr).trans fr6) tp6
    dsimp only
    rw [show vs.length = p.vs.length by omega]
    exact ok.as
theorem k43_is_ok {k n : Nat} {S : St} {l : Lg} {Q : QD} (hl : LgK n l) (q : Q (.bl (isW l || isU l)) S) : callW T (k + 1) i__law_k43_is [lgD l] S Q := by
  refine call_of T__law_k43_is rfl ?_
  dsimp only [f__law_k43_is, b__law_k43_is, startD, List.map, List.length_cons, List.length_nil, Nat.reduceAdd, Nat.reduceSub, List.replicate, List.cons_append, List.nil_append, List.append_nil]
  obtain ⟨⟨a, b⟩, ⟨c, d⟩, w⟩ := l
  obtain ⟨h1, h2⟩ := hl
  unfold evK at h1 h2
  dsimp only at h1 h2
  have e : (isW ((a, b), (c, d), w) || isU ((a, b), (c, d), w)) = (decide (c < 0) || (decide (d = 0) && (decide (0 ≤ w) || decide (a < 0)))) := by
    unfold isW isU
    dsimp only
    rw [Bool.eq_iff_iff]
    simp only [Bool.or_eq_true, Bool.and_eq_true, decide_eq_true_eq]
    omega
  rw [e] at q
  walk_at "r"
  refine if_d (fun h => ?_) (fun h => ?_)
  · walk_at "r"
    simpa [h] using q
  · walk_at "r"
    refine if_d (fun h2 => ?_) (fun h2 => ?_)
    · walk_at "r"
      refine if_d (fun h3 => ?_) (fun h3 => ?_)
      · walk_at "r"
        simpa [h, h2, h3] using q
      · walk_at "r"
        simpa [h, h2, h3] using q
    · walk_at "r"
      simpa [h, h2] using q
theorem k43_plain_ok {k : Nat} {S : St} {n : Nat} {p : Pr} {ms : List Int} {ls : List Lg} {ts : List Tf} {Q : QD} (h1 : p.ls.length < 10000) (hl : ts.length < 10000) (hK : ∀ l ∈ lagsF p ts, LgK n l) (q : ∀ S', Ext S S' → Q (.bl (plainF p ts)) S') : callW T (k + 3) i__law_k43_plain [pjD p, plnD ms ls ts] S Q := by
  refine call_of T__law_k43_plain rfl ?_
  dsimp only [f__law_k43_plain, b__law_k43_plain, startD, List.map, List.length_cons, List.length_nil, Nat.reduceAdd, Nat.reduceSub, List.replicate, List.cons_append, List.nil_append, List.append_nil]
  have hn := lagsF_len h1 hl
  walk_at "r"
  refine hand_lags_ok hl fun S1 e1 => ?_
  have := trL_len ts
  walk_at "r"
  refine b_addL (get_app (e1.get get_new)) get_new (by rw [List.length_map, List.length_map]; unfold sizeLine; omega) ?_
  rw [← List.map_append]
  have hn1 : (S1 ++ [MO.lst ((trL ts).map lgD)] ++ [MO.lst ((p.ls ++ trL ts).map lgD)])[(S1 ++ [MO.lst ((trL ts).map lgD)]).length]? = some (.lst ((lagsF p ts).map lgD)) := get_new
  have e1 : Ext S (S1 ++ [MO.lst ((trL ts).map lgD)] ++ [MO.lst ((p.ls ++ trL ts).map lgD)]) := (((Ext.new ..).trans e1).app _).app _
  generalize S1 ++ [MO.lst ((trL ts).map lgD)] ++ [MO.lst ((p.ls ++ trL ts).map lgD)] = S1 at *
  generalize (S1 ++ [MO.lst ((trL ts).map lgD)]).length = n at *
  refine ⟨_, seqOf_lst hn1, by rw [List.length_map]; unfold sizeLine; omega, ?_⟩
  refine lc_mapE (callW_mono T _) lgD (fun l => .bl (isW l || isU l)) (fun S' e => seqOf_lst (e.get hn1)) ?_ ?_
  · intro l hl S2 e2
    refine ⟨_, rfl, ?_⟩
    walk_at "r"
    exact k43_is_ok (hK l hl) ⟨rfl, Ext.refl _⟩
  · intro S2 e2
    rw [show ((lagsF p ts).map fun l => D.bl (isW l || isU l)) = ((lagsF p ts).map fun l => isW l || isU l).map D.bl by rw [List.map_map]; rfl]
    refine l_allR get_new ?_
    rw [List.all_map]
    exact q _ ((e1.trans e2).app _)
theorem k43_over_ok {k : Nat} {S : St} {p : Pr} {ms : List Int} {now : Int} {mk : List (List Int)} {n : Nat} {R : List Int} {l : Lg} {Q : QD} (hm : mk.length = ms.length) (hn : S[n]? = some (.lst (R.map D.int))) (hR : ∀ a ∈ R, a ∈ unF mk) (hl : LgK ms.length l)
    (q : Q (.bl (ovF p ms now mk R l)) S) : callW T (k + 1) i__law_k43_over [runD now mk, .ref n, .tup ((tks p ms).map .int), lgD l] S Q := by
  refine call_of T__law_k43_over rfl ?_
  dsimp only [f__law_k43_over, b__law_k43_over, startD, List.map, List.length_cons, List.length_nil, Nat.reduceAdd, Nat.reduceSub, List.replicate, List.cons_append, List.nil_append, List.append_nil]
  obtain ⟨⟨a, b⟩, f, w⟩ := l
  have h1 : evK ms.length (a, b) := hl.1
  unfold evK at h1
  dsimp only at h1
  unfold ovF tcF tiF at q
  dsimp only at q
  walk_at "r"
  refine if_d (fun h => ?_) (fun h => ?_)
  · have ha : a = -1 := by omega
    subst ha
    walk_at "r"
    rw [if_neg (fun g => by have := (unF_in (hR _ g.1)).1; omega), if_pos rfl] at q
    exact q
  · have ha : 0 ≤ a ∧ a < ms.length ∧ (b = 0 ∨ b = 1) := by omega
    obtain ⟨a0, a1, hb⟩ := ha
    walk_at "r"
    refine c_inF (f := D.int) fa_int (seqOf_lst hn) trivial (fun _ _ => trivial) ?_
    refine ex_truB ?_
    obtain ⟨m, hmk⟩ : ∃ m, mk[a.toNat]? = some m := ⟨_, List.getElem?_eq_getElem (by omega)⟩
    refine if_d (fun g => ?_) (fun g => ?_)
    · have hmt := (unF_in (hR _ g)).2.2
      rw [hmt] at hmk
      cases hmk
      walk_at "r"
      have htk : (tks p ms)[a.toNat]? = some (md p ms a.toNat).tk := tks_get (by omega)
      rw [hmt, if_neg (show ¬ a = -1 by omega), show ((some ([] : List Int)).getD [])[(b + 1).toNat]? = none from rfl] at q
      refine if_d (fun g2 => ?_) (fun g2 => ?_)
      · walk_at "r"
        refine if_d (fun g3 => ?_) (fun g3 => ?_)
        · walk_at "r"
          rw [if_pos ⟨g, Or.inl g3⟩] at q
          dsimp only at q
          rw [decide_eq_true (by omega)] at q
          rw [decide_eq_true g3]
          exact q
        · walk_at "r"
          refine ix_mapT a0 htk ?_
          walk_at "r"
          by_cases g4 : (md p ms a.toNat).tk = 0
          · rw [if_pos ⟨g, Or.inr g4⟩] at q
            dsimp only at q
            rw [decide_eq_true (by omega)] at q
            rw [decide_eq_true g4]
            exact q
          · rw [if_neg (fun x => by rcases x.2 with x | x; exact g3 x; exact g4 x)] at q
            rw [decide_eq_false g4]
            exact q
      · walk_at "r"
        by_cases g4 : b = 0 ∨ (md p ms a.toNat).tk = 0
        · rw [if_pos ⟨g, g4⟩] at q
          dsimp only at q
          rw [decide_eq_false (by omega)] at q
          rw [decide_eq_false g2]
          exact q
        · rw [if_neg (fun x => g4 x.2)] at q
          rw [decide_eq_false g2]
          exact q
    · rw [if_neg (fun x => g x.1), if_neg (show ¬ a = -1 by omega), hmk] at q
      walk_at "r"
      refine ix_mapT a0 hmk ?_
      walk_at "r"
      rw [List.length_map]
      rw [show (some m).getD [] = m from rfl] at q
      refine if_d (fun g2 => ?_) (fun g2 => ?_)
      · have hmb : m[(b + 1).toNat]? = some (m[(b + 1).toNat]'(by omega)) := List.getElem?_eq_getElem _
        rw [hmb] at q
        walk_at "r"
        rw [Int.add_comm 1 b]
        refine ix_mapT (by omega) hmb ?_
        walk_at "r"
        exact q
      · rw [List.getElem?_eq_none (by omega)] at q
        walk_at "r"
        rw [decide_eq_false g2]
        exact q
theorem ov_late {p : Pr} {ms : List Int} {now : Int} {mk : List (List Int)} {L : List Lg} {R : List Int} (hK : ∀ l ∈ L, LgK ms.length l) (hP : ∀ l ∈ L, (isW l || isU l) = true) (hR : ∀ a ∈ R, a ∈ unF mk) :
    R.filter (fun a => !decide (a ∈ (((L.filter fun l => decide (l.2.1.2 = 0 ∧ 0 ≤ l.2.1.1)).filter fun l => !ovF p ms now mk R l).map fun l => l.2.1.1))) = stpF p ms now mk L R := by
  unfold stpF
  refine List.filter_congr fun a ha => ?_
  have a0 := (unF_in (hR a ha)).1
  rw [Bool.eq_iff_iff, Bool.not_eq_true', decide_eq_false_iff_not, List.all_eq_true]
  constructor
  · intro h l hl
    unfold wtF at hl
    obtain ⟨h1, h2⟩ := List.mem_filter.1 hl
    simp only [Bool.and_eq_true, decide_eq_true_eq] at h2
    cases hb : ovF p ms now mk R l with
    | true => rfl
    | false =>
      refine absurd (List.mem_map.2 ⟨l, List.mem_filter.2 ⟨List.mem_filter.2 ⟨h1, ?_⟩, by rw [hb]; rfl⟩, h2.1⟩) h
      exact decide_eq_true ⟨h2.2.1, by omega⟩
  · intro h hm
    obtain ⟨l, hl, e⟩ := List.mem_map.1 hm
    obtain ⟨h1, h2⟩ := List.mem_filter.1 hl
    obtain ⟨h3, h4⟩ := List.mem_filter.1 h1
    have h4 := of_decide_eq_true h4
    have hw : isW l = true := by
      have := hP l h3
      rw [Bool.or_eq_true] at this
      rcases this with h | h
      · exact h
      · unfold isU at h
        have := of_decide_eq_true h
        omega
    have := h l (List.mem_filter.2 ⟨h3, by rw [decide_eq_true e, decide_eq_true h4.1, hw]; rfl⟩)
    rw [this] at h2
    cases h2
theorem k43_eager_ok {k : Nat} {S : St} {p : Pr} {ms : List Int} {ls : List Lg} {ts : List Tf} {now : Int} {mk : List (List Int)} {Q : QD} (h : Ch p ms) (hm : mk.length = ms.length) (hml : ms.length < 1000) (h1 : p.ls.length < 10000) (hl : ts.length < 10000) (hK : ∀ l ∈ lagsF p ts, LgK ms.length l) (hP : plainF p ts = true)
    (q : ∀ S', Ext S S' → Q (.tup ((eagF p ms now mk (lagsF p ts)).map fun a => pairD (a, (ms[a.toNat]?).getD 0))) S') : callW T (k + 4) i__law_k43_eager [pjD p, runD now mk, plnD ms ls ts] S Q := by
  refine call_of T__law_k43_eager rfl ?_
  dsimp only [f__law_k43_eager, b__law_k43_eager, startD, List.map, List.length_cons, List.length_nil, Nat.reduceAdd, Nat.reduceSub, List.replicate, List.cons_append, List.nil_append, List.append_nil]
  have hLn := lagsF_len h1 hl
  have hunl := unF_len mk
  walk_at "r"
  refine w_takes_ok h (by omega) fun S0 e0 => ?_
  walk_at "r"
  refine hand_lags_ok hl fun S1 e1 => ?_
  have := trL_len ts
  walk_at "r"
  refine b_addL (get_app (e1.get get_new)) get_new (by rw [List.length_map, List.length_map]; unfold sizeLine; omega) ?_
  rw [← List.map_append]
  have hn1 : (S1 ++ [MO.lst ((trL ts).map lgD)] ++ [MO.lst ((p.ls ++ trL ts).map lgD)])[(S1 ++ [MO.lst ((trL ts).map lgD)]).length]? = some (.lst ((lagsF p ts).map lgD)) := get_new
  have e1 : Ext S0 (S1 ++ [MO.lst ((trL ts).map lgD)] ++ [MO.lst ((p.ls ++ trL ts).map lgD)]) := (((Ext.new ..).trans e1).app _).app _
  generalize S1 ++ [MO.lst ((trL ts).map lgD)] ++ [MO.lst ((p.ls ++ trL ts).map lgD)] = S1 at *
  generalize (S1 ++ [MO.lst ((trL ts).map lgD)]).length = n at *
  have hP' : ∀ l ∈ lagsF p ts, (isW l || isU l) = true := List.all_eq_true.1 hP
  clear hP
  generalize lagsF p ts = L at *
  refine ⟨_, seqOf_lst hn1, by rw [List.length_map]; unfold sizeLine; omega, ?_⟩
  refine lc_filtE (callW_mono T _) lgD lgD (fun l => decide (l.2.1.2 = 0 ∧ 0 ≤ l.2.1.1)) (fun S' e => seqOf_lst (e.get hn1)) ?_ ?_
  · intro l hl S2 e2
    refine ⟨_, rfl, ?_, fun _ S3 _ => ?_⟩
    · walk_at "r"
      refine if_d (fun g => ?_) (fun g => ?_)
      · walk_at "r"
        exact ⟨by simp [g], Ext.refl _⟩
      · walk_at "r"
        exact ⟨by simp [g], Ext.refl _⟩
    · walk_at "r"
      exact ⟨rfl, Ext.refl _⟩
  intro S2 e2
  have hwl := List.length_filter_le (fun l : Lg => decide (l.2.1.2 = 0 ∧ 0 ≤ l.2.1.1)) L
  generalize hWd : L.filter (fun l => decide (l.2.1.2 = 0 ∧ 0 ≤ l.2.1.1)) = W at *
  have hw3 : (S2 ++ [MO.lst (W.map lgD)])[S2.length]? = some (.lst (W.map lgD)) := get_new
  have e3 : Ext S (S2 ++ [MO.lst (W.map lgD)]) := ((e0.trans e1).trans e2).app _
  generalize S2 ++ [MO.lst (W.map lgD)] = S3 at *
  generalize S2.length = w at *
  walk_at "r"
  rw [List.length_map, tks_len]
  refine r_one (by omega) ⟨by rw [rgD_len]; unfold sizeLine; omega, ?_⟩
  unfold rgD
  refine lc_filtE (callW_mono T _) (fun i : Nat => D.int (0 + (i : Int))) (fun i : Nat => D.int (0 + (i : Int))) (fun i => ((mk[i]?).getD []).isEmpty) (fun _ _ => trivial) ?_ ?_
  · intro i hi S4 e4
    rw [List.mem_range] at hi
    have hmi : mk[i]? = some (mk[i]'(by omega)) := List.getElem?_eq_getElem _
    refine ⟨_, rfl, ?_, fun _ S5 _ => ?_⟩
    · walk_at "r"
      refine ix_map0 hmi ?_
      walk_at "r"
      refine c_eqU (f := D.int) (fun _ _ => trivial) ?_
      walk_at "r"
      exact ⟨by rw [hmi]; rfl, Ext.refl _⟩
    · walk_at "r"
      exact ⟨rfl, Ext.refl _⟩
  intro S4 e4
  rw [show (((List.range ((ms.length : Int) - 0).toNat).filter fun i => ((mk[i]?).getD []).isEmpty).map fun i : Nat => D.int (0 + (i : Int))) = (unF mk).map D.int by
    unfold unF; rw [List.map_map, show ((ms.length : Int) - 0).toNat = mk.length by omega]; simp only [Int.zero_add]; rfl]
  walk_at "r"
  rw [List.length_map, tks_len]
  refine r_one (by omega) ?_
  have hstep := fun R hR => ov_late (p := p) (now := now) (L := L) (R := R) (mk := mk) hK hP' hR
  rw [hWd] at hstep
  generalize hfd : stpF p ms now mk L = f at *
  have hf : ∀ R, ∃ p : Int → Bool, f R = R.filter p := fun R => by rw [← hfd]; exact stpF_f p ms now mk L R
  have hWK : ∀ l ∈ W, LgK ms.length l := fun l hl => by rw [← hWd] at hl; exact hK l (List.mem_filter.1 hl).1
  refine for_inv (callW_mono T _) (fun c σ S' => ∃ (r : Nat) (v6 v7 : Option D), σ = [some (pjD p), some (runD now mk), some (plnD ms ls ts), some (.tup ((tks p ms).map .int)), some (.ref w), some (.ref r), v6, v7, none, none] ∧ S'[r]? = some (.lst ((itF f c (unF mk)).map D.int)) ∧ S'[w]? = some (.lst (W.map lgD)) ∧ Ext S S')
    ⟨_, _, _, rfl, get_new, get_app (e4.get hw3), (e3.trans e4).app _⟩ (fun _ _ _ _ => trivial) ?_ ?_
  · rintro c x σ S5 hx ⟨r, v6, v7, rfl, hr5, hw5, e5⟩
    obtain ⟨hi, rfl⟩ := rgD_get hx
    refine ⟨_, rfl, ?_⟩
    have hsub : ∀ a ∈ itF f c (unF mk), a ∈ unF mk := it_sub hf c
    have hlen := it_len hf (R := unF mk) c
    walk_at "r"
    refine ⟨_, seqOf_lst hw5, by rw [List.length_map]; unfold sizeLine; omega, ?_⟩
    refine lc_filtE (callW_mono T _) lgD (fun l => D.int l.2.1.1) (fun l => !ovF p ms now mk (itF f c (unF mk)) l) (fun S' e => seqOf_lst (e.get hw5)) ?_ ?_
    · intro l hl S6 e6
      refine ⟨_, rfl, ?_, fun _ S7 _ => ?_⟩
      · walk_at "r"
        refine k43_over_ok hm (e6.get hr5) hsub (hWK l hl) ?_
        walk_at "r"
        exact ⟨rfl, Ext.refl _⟩
      · walk_at "r"
        exact ⟨rfl, Ext.refl _⟩
    · intro S6 e6
      have hr7 := get_app (X := [MO.lst ((W.filter fun l => !ovF p ms now mk (itF f c (unF mk)) l).map fun l => D.int l.2.1.1)]) (e6.get hr5)
      have hl7 := get_new (S := S6) (m := MO.lst ((W.filter fun l => !ovF p ms now mk (itF f c (unF mk)) l).map fun l => D.int l.2.1.1))
      walk_at "r"
      refine ⟨_, seqOf_lst hr7, by rw [List.length_map]; unfold sizeLine; omega, ?_⟩
      refine lc_filtE (callW_mono T _) D.int D.int (fun a => !decide (a ∈ ((W.filter fun l => !ovF p ms now mk (itF f c (unF mk)) l).map fun l => l.2.1.1))) (fun S' e => seqOf_lst (e.get hr7)) ?_ ?_
      · intro a ha S8 e8
        refine ⟨_, rfl, ?_, fun _ S9 _ => ?_⟩
        · walk_at "r"
          refine c_notinF (f := D.int) (xs := (W.filter fun l => !ovF p ms now mk (itF f c (unF mk)) l).map fun l => l.2.1.1) fa_int ?_ trivial (fun _ _ => trivial) ?_
          · rw [List.map_map]; exact seqOf_lst (e8.get hl7)
          · walk_at "r"
            exact ⟨rfl, Ext.refl _⟩
        · walk_at "r"
          exact ⟨rfl, Ext.refl _⟩
      · intro S8 e8
        walk_at "r"
        rw [hstep _ hsub]
        exact ⟨_, _, _, rfl, get_new, get_app (e8.get (get_app (e6.get hw5))), ((e5.trans e6).app _).trans (e8.app _)⟩
  · rintro σ S5 ⟨r, v6, v7, rfl, hr5, hw5, e5⟩
    rw [rgD_len] at hr5
    walk_at "r"
    have hsub : ∀ a ∈ itF f ((ms.length : Int) + 1 - 0).toNat (unF mk), a ∈ unF mk := it_sub hf _
    have hlen := it_len hf (R := unF mk) ((ms.length : Int) + 1 - 0).toNat
    refine ⟨_, seqOf_lst hr5, by rw [List.length_map]; unfold sizeLine; omega, ?_⟩
    refine lc_mapE (callW_mono T _) D.int (fun a => pairD (a, (ms[a.toNat]?).getD 0)) (fun S' e => seqOf_lst (e.get hr5)) ?_ ?_
    · intro a ha S8 e8
      obtain ⟨a0, a1, a2⟩ := unF_in (hsub a ha)
      refine ⟨_, rfl, ?_⟩
      walk_at "r"
      have hmi : ms[a.toNat]? = some (ms[a.toNat]'(by omega)) := List.getElem?_eq_getElem _
      refine ix_mapT a0 hmi ?_
      walk_at "r"
      exact ⟨by rw [hmi]; rfl, Ext.refl _⟩
    · intro S8 e8
      walk_at "r"
      have : eagF p ms now mk L = itF f ((ms.length : Int) + 1 - 0).toNat (unF mk) := by
        unfold eagF
        rw [hfd]
        have hfix : f (itF f mk.length (unF mk)) = itF f mk.length (unF mk) := by
          rcases it_down hf mk.length (R := unF mk) with h' | h'
          · exact h'
          · have : itF f mk.length (unF mk) = [] := List.length_eq_zero_iff.1 (by omega)
            obtain ⟨p, hp⟩ := hf (itF f mk.length (unF mk))
            rw [hp, this]; rfl
        exact (it_end hf hfix (by omega)).symm
      rw [this] at q
      exact q _ ((e5.trans e8).app _)
theorem k43_moment_ok {k : Nat} {S : St} {p : Pr} {ms bs : List Int} {ls : List Lg} {ts : List Tf} {Q : QD} (tp : Tp S) (ok : p.Ok) (as : As p ms bs) (hml : ms.length ≤ 6) (hdl : p.dl ≤ 30) (hdl0 : 0 ≤ p.dl)
    (q : ∀ now mk S', mk.length = ms.length → Fr S S' → Tp S' → Q (runD now mk) S') : callW T (k + 4) i__law_k43_moment [.ref 2, pjD p, plnD ms ls ts, .tup (bs.map .int)] S Q := by
  refine call_of T__law_k43_moment rfl ?_
  dsimp only [f__law_k43_moment, b__law_k43_moment, startD, List.map, List.length_cons, List.length_nil, Nat.reduceAdd, Nat.reduceSub, List.replicate, List.cons_append, List.nil_append, List.append_nil]
  have hS := tp.len
  have hm := as.ml
  have hb := as.bl
  walk_at "m"
  refine w_takes_ok as.toCh (by omega) fun S1 e1 => ?_
  walk_at "m"
  refine w_ends_ok (by rw [tks_len]; omega) (by rw [tks_len]; omega) fun S2 e2 => ?_
  generalize mkF (tks p ms) bs = en
  have tp2 := (tp.ext e1).ext e2
  walk_at "a"
  rename_i now S3 fr3 tp3 n0 n1 hS3 near S4 fr4 tp4 r0 r1 hS4
  rw [List.length_map, tks_len]
  refine r_one (by omega) ?_
  have fr04 : Fr S S4 := ((e1.trans e2).fr.trans fr3).trans fr4
  have h04 := fr04.len
  refine for_inv (callW_mono T _) (fun c σ S' => ∃ (mk : List (List Int)) (v8 v9 v10 v11 : Option D), σ = [some (.ref 2), some (pjD p), some (plnD ms ls ts), some (.tup (bs.map .int)), some (.tup ((tks p ms).map .int)), some (.int now), some (.int near), some (.ref S4.length), v8, v9, v10, v11] ∧ S'[S4.length]? = some (.lst (mk.map mkD)) ∧ mk.length = c ∧ Fr S S' ∧ Tp S')
    ⟨[], _, _, _, _, rfl, get_new, rfl, fr04.app _, tp4.app _⟩ (fun _ _ _ _ => trivial) ?_ ?_
  · rintro c x σ S5 hx ⟨mk, v8, v9, v10, v11, rfl, hm5, hl5, fr5, tp5⟩
    obtain ⟨hc, rfl⟩ := rgD_get hx
    have hc : c < ms.length := by omega
    have htc := tks_get (p := p) hc
    have htc0 := (as.toCh.md_ok ok hc).tk0
    obtain ⟨b, hbc, -⟩ := as.get hc
    have hmc : ms[c]? = some (ms[c]'hc) := List.getElem?_eq_getElem _
    generalize ms[c]'hc = mc at *
    generalize (md p ms c).tk = tc at *
    refine ⟨_, rfl, ?_⟩
    walk_at "a"
    rename_i u S6 fr6 tp6 hS6 hu w S7 fr7 tp7 hS7 hw
    refine b_mulI (Or.inl (by omega)) ?_
    refine b_add ?_
    show wSs _ _ _ _ _
    have fr57 := fr6.trans fr7
    refine ss_cut (callW_mono T _) (fun σ' S' => ∃ st en : Int, σ' = [some (.ref 2), some (pjD p), some (plnD ms ls ts), some (.tup (bs.map .int)), some (.tup ((tks p ms).map .int)), some (.int now), some (.int near), some (.ref S4.length), some (.int (0 + (c : Int))), some (.int st), some (.int en), v11] ∧ Fr S5 S' ∧ Tp S') ?_ ?_
    · walk_at "a"
      · rename_i h0 y S8 fr8 tp8 y0 y1 hS8 z S9 fr9 tp9 hS9 hz
        refine b_mulI (Or.inr (by omega)) ?_
        walk_at "m"
        exact ⟨_, _, rfl, (fr57.trans fr8).trans fr9, tp9⟩
      · exact ⟨_, _, rfl, fr57, tp7⟩
    clear fr6 tp6 fr7 tp7 hu hw fr57 hS6 hS7
    rintro σ S8 ⟨st, en', rfl, fr8, tp8⟩
    walk_at "m"
    refine ss_cut (callW_mono T _) (fun σ' S' => ∃ m : List Int, σ' = [some (.ref 2), some (pjD p), some (plnD ms ls ts), some (.tup (bs.map .int)), some (.tup ((tks p ms).map .int)), some (.int now), some (.int near), some (.ref S4.length), some (.int (0 + (c : Int))), some (.int st), some (.int en'), some (mkD m)] ∧ m.length ≤ 2 ∧ S' = S8) ?_ ?_
    · refine s_if (callW_mono T _) (fun b S' => S' = S8) ?_ ?_ ?_
      · walk_at "a" <;> first | rfl | (walk_at "m"; rfl)
      · rintro S9 rfl
        walk_at "m"
        refine ix_map0 hmc ?_
        walk_at "m"
        exact ⟨[mc, st], rfl, Nat.le_refl _, rfl⟩
      · rintro S9 rfl
        refine ss_nil ?_
        exact ⟨[], rfl, Nat.zero_le _, rfl⟩
    rintro σ S9 ⟨m, rfl, hm2, rfl⟩
    refine ss_cut (callW_mono T _) (fun σ' S' => ∃ m : List Int, σ' = [some (.ref 2), some (pjD p), some (plnD ms ls ts), some (.tup (bs.map .int)), some (.tup ((tks p ms).map .int)), some (.int now), some (.int near), some (.ref S4.length), some (.int (0 + (c : Int))), some (.int st), some (.int en'), some (mkD m)] ∧ S' = S9) ?_ ?_
    · refine s_if (callW_mono T _) (fun b S' => S' = S9) ?_ ?_ ?_
      · walk_at "m"
        refine c_neU (f := D.int) (fun _ _ => trivial) ?_
        refine ex_truB ?_
        cases m with
        | nil => walk_at "m"
        | cons a r => refine if_bT rfl ?_; walk_at "m"
      · rintro S10 rfl
        walk_at "m"
        refine b_addT (by rw [List.length_map]; simp only [List.length_cons, List.length_nil]; unfold sizeLine; omega) ?_
        exact ⟨m ++ [en'], by unfold mkD; rw [List.map_append]; rfl, rfl⟩
      · rintro S10 rfl
        refine ss_nil ?_
        exact ⟨m, rfl, rfl⟩
    rintro σ S10 ⟨m, rfl, rfl⟩
    have hm8 := fr8.get (show S4.length ≠ 2 by omega) hm5
    walk_at "a"
    refine ⟨mk ++ [m], _, _, _, _, rfl, by rw [List.map_append]; exact get_set_self hm8, by rw [List.length_append, hl5]; rfl, (fr5.trans fr8).set _ (by omega), tp8.set _ (by omega)⟩
  · rintro σ S5 ⟨mk, v8, v9, v10, v11, rfl, hm5, hl5, fr5, tp5⟩
    rw [rgD_len] at hl5
    walk_at "m"
    exact q now mk _ (by omega) fr5 tp5
theorem cut_lags {n : Nat} {ls : List Lg} {k : Int} (h0 : 0 ≤ k) (h : k < ls.length) (hk : ∀ l ∈ ls, LgOk n l) :
    ∃ ls' : List Lg, cutD (ls.map lgD) none (some k) ++ cutD (ls.map lgD) (some (k + 1)) none = ls'.map lgD ∧ ls'.length ≤ ls.length ∧ (∀ l ∈ ls', LgOk n l) ∧ (cutD (ls.map lgD) none (some k)).length + (cutD (ls.map lgD) (some (k + 1)) none).length ≤ 2 * ls.length := by
  have h1 := cut_len (ls.map lgD) none (some k)
  have h2 := cut_len (ls.map lgD) (some (k + 1)) none
  rw [List.length_map] at h1 h2
  have e2 : cutD (ls.map lgD) (some (k + 1)) none = (ls.map lgD).drop (k + 1).toNat := by
    unfold cutD
    show ((ls.map lgD).drop (HT.sIx (ls.map lgD).length 0 (some (k + 1)))).take ((ls.map lgD).length - HT.sIx (ls.map lgD).length 0 (some (k + 1))) = _
    have e : HT.sIx (ls.map lgD).length 0 (some (k + 1)) = min (k + 1).toNat (ls.map lgD).length := by
      show (if k + 1 < 0 then (k + 1 + (ls.map lgD).length).toNat else min (k + 1).toNat (ls.map lgD).length) = _
      rw [if_neg (by omega)]
    rw [e, List.length_map, Nat.min_eq_left (by omega), List.take_of_length_le (by rw [List.length_drop, List.length_map]; omega)]
  refine ⟨ls.take k.toNat ++ ls.drop (k + 1).toNat, ?_, ?_, fun l hl => ?_, by omega⟩
  · rw [cut_to _ h0, e2, List.map_append, List.map_take, List.map_drop]
  · rw [List.length_append, List.length_take, List.length_drop]; omega
  · rcases List.mem_append.1 hl with hl | hl
    · exact hk l (List.mem_of_mem_take hl)
    · exact hk l (List.mem_of_mem_drop hl)
theorem k43_changed_ok {k : Nat} {S : St} {p : Pr} {ms bs : List Int} {ls : List Lg} {ts : List Tf} {Q : QD} (tp : Tp S) (ok : p.Ok) (as : As p ms bs) (hb : ∀ b ∈ bs, b ≤ 8) (ht : ∀ t ∈ tks p ms, t ≤ 12) (hts : ts.length ≤ 60) (htk : ∀ t ∈ ts, TfOk ms.length t)
    (q : ∀ p' ls' ts' S', p'.Ok → p'.as = p.as → p'.dl = p.dl → ts'.length ≤ 60 → (∀ t ∈ ts', TfOk ms.length t) → Fr S S' → Tp S' → Q (.tup [pjD p', plnD ms ls' ts']) S') : callW T (k + 6) i__law_k43_changed [.ref 2, pjD p, .tup (ms.map .int), .tup (bs.map .int), plnD ms ls ts] S Q := by
  refine call_of T__law_k43_changed rfl ?_
  dsimp only [f__law_k43_changed, b__law_k43_changed, startD, List.map, List.length_cons, List.length_nil, Nat.reduceAdd, Nat.reduceSub, List.replicate, List.cons_append, List.nil_append, List.append_nil]
  have hS := tp.len
  have hal := ok.al
  have hml := as.ml
  have hbl := as.bl
  have hll := ok.ll
  walk_at "m"
  refine draw_ok tp (by decide) fun c S1 fr1 tp1 c0 c1 => ?_
  refine ss_cut (callW_mono T _) (fun σ' S' => ∃ v7, σ' = [some (.ref 2), some (pjD p), some (.tup (ms.map .int)), some (.tup (bs.map .int)), some (plnD ms ls ts), some (.tup (p.ls.map lgD)), some (.int c), v7, none, none] ∧ Fr S S' ∧ Tp S') ?_ ?_
  · walk_at "m"
    refine if_d (fun h => ?_) (fun h => ?_)
    · walk_at "m"
      refine game_scheme_ok (fs := [(ms, bs)]) (tp1.app _) ok get_new (by have := tp1.len; omega) (by show 1 < 100000; decide) (fun x hx => by rw [List.mem_singleton.1 hx]; exact as) (fun S2 fr2 tp2 => ?_) fun ms' ls' ts' S2 hm hl' ht' hlk' htk' fr2 tp2 => ?_
      · walk_at "m"
        exact ⟨_, rfl, fr1.trans ((Ext.new ..).fr.trans fr2), tp2⟩
      · obtain ⟨bs', hm⟩ := hm
        have hm := List.mem_singleton.1 hm
        cases hm
        walk_at "m"
        exact q p ls' ts' _ ok rfl rfl ht' htk' (fr1.trans ((Ext.new ..).fr.trans fr2)) tp2
    · walk_at "m"
      exact ⟨_, rfl, fr1, tp1⟩
  · rintro σ S2 ⟨v7, rfl, fr2, tp2⟩
    refine ss_if (callW_mono T _) (fun b S' => S' = S2 ∧ (b = true → 0 < p.ls.length)) ?_ ?_ ?_
    · walk_at "m"
      refine if_d (fun h => ?_) (fun h => ?_)
      · walk_at "m"
        refine c_neU (f := lgD) (fun l _ => lg_pl 58 l) ?_
        walk_at "m"
        exact ⟨rfl, fun hb => by cases hp : p.ls with | nil => rw [hp] at hb; cases hb | cons a r => exact Nat.succ_pos _⟩
      · refine ex_truB ?_
        exact ⟨rfl, fun hb => absurd (of_decide_eq_true hb) h⟩
    · rintro S3 ⟨rfl, hpos⟩
      have hpos := hpos rfl
      walk_at "m"
      rw [List.length_map]
      refine draw_ok tp2 (by omega) fun j S4 fr4 tp4 j0 j1 => ?_
      walk_at "m"
      obtain ⟨ls', he, hl', hk', hlen⟩ := cut_lags j0 (by omega) ok.ls
      refine b_addT (by unfold sizeLine; omega) ?_
      rw [he]
      walk_at "m"
      rw [show cutD [D.int p.dl, .tup (p.rs.map rsD), .tup (p.vs.map ivD), .tup (p.as.map acD), .tup (p.ls.map lgD)] none (some 4) = [D.int p.dl, .tup (p.rs.map rsD), .tup (p.vs.map ivD), .tup (p.as.map acD)] from rfl]
      refine b_addT (by simp only [List.length_cons, List.length_nil]; decide) ?_
      walk_at "m"
      exact q { p with ls := ls' } ls ts _ ⟨ok.d0, ok.d1, ok.rl, ok.rs, ok.vl, ok.vs, ok.al, ok.as, by dsimp only; omega, hk'⟩ rfl rfl hts htk (fr2.trans fr4) tp4
    · rintro S3 ⟨rfl, -⟩
      refine ss_cons ?_
      walk_at "m"
      rw [List.length_map]
      refine if_d (fun h => ?_) (fun h => ?_)
      · walk_at "m"
        rw [List.length_map]
        refine if_d (fun h2 => ?_) (fun h2 => ?_)
        · walk_at "m"
          refine w_takes_ok as.toCh (by omega) fun S4 e4 => ?_
          walk_at "m"
          refine k43_lag_ok (tp2.ext e4) (by rw [tks_len]; omega) (by rw [tks_len]; omega) (by rw [tks_len]; omega) (fun b hb' => ?_) (fun t ht' => ?_) fun l S5 hl fr5 tp5 => ?_
          · obtain ⟨i, hi⟩ := List.getElem?_of_mem hb'
            exact ⟨as.b0 i b hi, hb b hb'⟩
          · refine ⟨?_, ht t ht'⟩
            unfold tks at ht'
            obtain ⟨i, hi, rfl⟩ := List.mem_map.1 ht'
            exact (as.toCh.md_ok ok (List.mem_range.1 hi)).tk0
          · rw [tks_len] at hl
            walk_at "m"
            refine b_addT (by rw [List.length_map]; simp only [List.length_cons, List.length_nil]; unfold sizeLine; omega) ?_
            walk_at "m"
            rw [show cutD [D.int p.dl, .tup (p.rs.map rsD), .tup (p.vs.map ivD), .tup (p.as.map acD), .tup (p.ls.map lgD)] none (some 4) = [D.int p.dl, .tup (p.rs.map rsD), .tup (p.vs.map ivD), .tup (p.as.map acD)] from rfl, show p.ls.map lgD ++ [lgD l] = (p.ls ++ [l]).map lgD by rw [List.map_append]; rfl]
            refine b_addT (by simp only [List.length_cons, List.length_nil]; decide) ?_
            walk_at "m"
            exact q { p with ls := p.ls ++ [l] } ls ts _ ⟨ok.d0, ok.d1, ok.rl, ok.rs, ok.vl, ok.vs, ok.al, ok.as, by dsimp only; rw [List.length_append]; simp only [List.length_singleton]; omega, all_snoc ok.ls (by rw [← hml]; exact hl)⟩ rfl rfl hts htk ((fr2.trans e4.fr).trans fr5) tp5
        · walk_at "m"
          exact q p ls ts _ ok rfl rfl hts htk fr2 tp2
      · refine ex_truB ?_
        refine if_dF h ?_
        walk_at "m"
        exact q p ls ts _ ok rfl rfl hts htk fr2 tp2
structure A43 (ms : List Int) (p : Pr) (ts : List Tf) : Prop where
  ok : p.Ok
  ch : Ch p ms
  t60 : ts.length ≤ 60
  tk : ∀ t ∈ ts, TfOk ms.length t
theorem A43.lk {ms : List Int} {p : Pr} {ts : List Tf} (A : A43 ms p ts) : ∀ l ∈ lagsF p ts, LgK ms.length l := fun l hl => by
  unfold lagsF at hl
  rcases List.mem_append.1 hl with hl | hl
  · have := (A.ok.ls l hl).k; rw [A.ch.ml]; exact this
  · exact trL_ok A.tk l hl
theorem A43.l1 {ms : List Int} {p : Pr} {ts : List Tf} (A : A43 ms p ts) : p.ls.length < 10000 := by have := A.ok.ll; omega
theorem A43.l2 {ms : List Int} {p : Pr} {ts : List Tf} (A : A43 ms p ts) : ts.length < 10000 := by have := A.t60; omega
theorem A43.l3 {ms : List Int} {p : Pr} {ts : List Tf} (A : A43 ms p ts) : ms.length ≤ 6 := by have := A.ok.al; rw [A.ch.ml]; exact this
abbrev Tri := Pr × Int × List (List Int) × List Lg × List Tf
abbrev triD (ms : List Int) (x : Tri) : D := .tup [pjD x.1, runD x.2.1 x.2.2.1, plnD ms x.2.2.2.1 x.2.2.2.2]
structure T43 (ms : List Int) (x : Tri) : Prop where
  A : A43 ms x.1 x.2.2.2.2
  pl : plainF x.1 x.2.2.2.2 = true
  ml : x.2.2.1.length = ms.length
set_option maxHeartbeats 2000000 in
theorem main (ns : List Int) (hl : ns.length ≤ 63) : callW T (60 + 1) i_law [.ref 0] [.fro (ns.map D.int)] fun d _ => d = .bl true := by
  refine call_of T_law rfl ?_
  dsimp only [f_law, b_law, startD, List.map, List.length_cons, List.length_nil, Nat.reduceAdd, Nat.reduceSub, List.replicate, List.cons_append, List.nil_append, List.append_nil]
  walk_at "q"
  refine tape_ok fun S0 tp0 => ?_
  walk_at "q"
  refine k43_world_ok (k := 54) tp0 fun p0 ms bs S1 W fr1 tp1 => ?_
  refine ⟨_, rfl, ?_⟩
  walk_at "m"
  refine draw_ok (k := 59) tp1 (by decide) fun y S2 fr2 tp2 y0 y1 => ?_
  walk_at "m"
  refine k43_lags_ok (k := 56) tp2 W fun p S3 ok has hmk fr3 tp3 => ?_
  have as := W.as.of_mk has hmk
  have htk : tks p ms = tks p0 ms := tks_like has
  have ht12 : ∀ t ∈ tks p ms, t ≤ 12 := fun t ht => by
    unfold tks at ht
    obtain ⟨i, hi, rfl⟩ := List.mem_map.1 ht
    rw [List.mem_range] at hi
    obtain ⟨a, m, h1, h2, h3, h4, h5⟩ := as.toCh.get hi
    exact W.t12 a (by rw [← has]; exact List.mem_of_getElem? h1) _ (List.mem_of_getElem? h5)
  have hb8 := W.b8
  clear hmk htk
  walk_at "m"
  refine game_scheme_ok (k := 56) (fs := [(ms, bs)]) (tp3.app _) ok get_new (by have := tp3.len; omega) (by show 1 < 100000; decide) (fun x hx => by rw [List.mem_singleton.1 hx]; exact as) (fun S4 fr4 tp4 => ?_) fun ms' ls ts S4 hm hl' ht' hlk' htk' fr4 tp4 => ?_
  · walk_at "m"
  obtain ⟨bs', hm⟩ := hm
  have hm := List.mem_singleton.1 hm
  cases hm
  have A : A43 ms p ts := ⟨ok, as.toCh, ht', htk'⟩
  walk_at "m"
  refine draw_ok (k := 59) tp4 (by decide) fun part S5 fr5 tp5 q0 q1 => ?_
  walk_at "m"
  refine k43_plain_ok (k := 57) A.l1 A.l2 A.lk fun S6 e6 => ?_
  have tp6 := tp5.ext e6
  walk_at "m"
  refine k43_changed_ok (k := 54) tp6 ok as hb8 ht12 ht' htk' fun p' ls' ts' S7 ok' has' hdl' hts' htk2 fr7 tp7 => ?_
  have A' : A43 ms p' ts' := ⟨ok', (as.like has' hdl').toCh, hts', htk2⟩
  refine ⟨_, rfl, ?_⟩
  have hS7 := tp7.len
  have S7b := fr7.len
  clear fr1 tp1 fr2 tp2 fr3 tp3 fr4 tp4 fr5 tp5 e6 tp6
  refine ss_cut (callW_mono T _) (fun σ' S' => σ' = [some (.ref 0), some (.ref 2), some (pjD p), some (plnD ms ls ts), some (.int part), some (.bl (plainF p ts)), some (.tup (ms.map .int)), some (.tup (bs.map .int)), some (pjD p'), some (plnD ms ls' ts'), none, none, none, none, none] ∧ Ext S7 S') ?_ ?_
  · have go : ∀ S8, Ext S7 S8 → callW T 60 i_is_plain [pjD p, plnD ms ls ts] S8 (fun d S9 => d = .bl (plainF p ts) ∧ Ext S7 S9) := fun S8 e8 => is_plain_ok (k := 57) A.l1 A.l2 fun S9 e9 => ⟨rfl, e8.trans e9⟩
    refine s_if (callW_mono T _) (fun b S' => S' = S7) ?_ ?_ ?_
    · walk_at "m"
      refine if_d (fun h => ?_) (fun h => ?_)
      · walk_at "m"
      · walk_at "m"
    · rintro S8 rfl
      walk_at "m"
      refine callW_mono T _ _ _ _ _ _ ?_ (go _ (Ext.refl _))
      rintro d S9 ⟨rfl, e9⟩
      walk_at "m"
      refine same_ok _ _ _ _ (bl_pl 59 _) ?_
      walk_at "m"
      refine is_plain_ok (k := 57) A'.l1 A'.l2 fun S10 e10 => ?_
      walk_at "m"
      refine k43_plain_ok (k := 57) A'.l1 A'.l2 A'.lk fun S11 e11 => ?_
      walk_at "m"
      refine same_ok _ _ _ _ (bl_pl 59 _) ?_
      walk_at "m"
      refine callW_mono T _ _ _ _ _ _ ?_ (go _ ((e9.trans e10).trans e11))
      rintro d S12 ⟨rfl, e12⟩
      walk_at "m"
      refine same_ok _ _ _ _ (bl_pl 59 _) ?_
      walk_at "m"
      exact ⟨rfl, e12⟩
    · rintro S8 rfl
      refine ss_nil ?_
      exact ⟨rfl, Ext.refl _⟩
  rintro σ S8 ⟨rfl, e8⟩
  have tp8 := tp7.ext e8
  refine ss_cut (callW_mono T _) (fun _ _ => True) ?_ ?_
  · refine s_if (callW_mono T _) (fun b S' => S' = S8 ∧ (b = true → plainF p ts = true)) ?_ ?_ ?_
    · walk_at "m"
      refine if_b (fun h => ?_) (fun h => ?_)
      · walk_at "m"
        exact ⟨rfl, fun _ => h⟩
      · refine ex_truB ?_
        exact ⟨rfl, fun h' => h'⟩
    · rintro S9 ⟨rfl, hp⟩
      have hp := hp rfl
      walk_at "m"
      refine k43_moment_ok (k := 56) tp8 ok as A.l3 ok.d1 ok.d0 fun now mk S10 hmk fr10 tp10 => ?_
      walk_at "m"
      refine k43_moment_ok (k := 56) tp10 ok as A.l3 ok.d1 ok.d0 fun now2 mk2 S11 hmk2 fr11 tp11 => ?_
      walk_at "m"
      have q0 : T43 ms (p, now, mk, ls, ts) := ⟨A, hp, hmk⟩
      have q1 : T43 ms (p, now2, mk2, ls, ts) := ⟨A, hp, hmk2⟩
      have hr : (S11 ++ [MO.lst [D.tup [pjD p, runD now mk, plnD ms ls ts], .tup [pjD p, runD now2 mk2, plnD ms ls ts]]])[S11.length]? = some (.lst ([(p, now, mk, ls, ts), (p, now2, mk2, ls, ts)].map (triD ms))) := get_new
      refine ss_cut (callW_mono T _) (fun σ' S' => ∃ xs : List Tri, σ' = [some (.ref 0), some (.ref 2), some (pjD p), some (plnD ms ls ts), some (.int part), some (.bl (plainF p ts)), some (.tup (ms.map .int)), some (.tup (bs.map .int)), some (pjD p'), some (plnD ms ls' ts'), some (runD now mk), some (.ref S11.length), none, none, none] ∧ S'[S11.length]? = some (.lst (xs.map (triD ms))) ∧ xs.length ≤ 3 ∧ ∀ x ∈ xs, T43 ms x) ?_ ?_
      · refine s_if (callW_mono T _) (fun b S' => Ext (S11 ++ [MO.lst [D.tup [pjD p, runD now mk, plnD ms ls ts], .tup [pjD p, runD now2 mk2, plnD ms ls ts]]]) S' ∧ (b = true → plainF p' ts' = true)) ?_ ?_ ?_
        · walk_at "m"
          refine k43_plain_ok (k := 57) A'.l1 A'.l2 A'.lk fun S12 e12 => ?_
          walk_at "m"
          exact ⟨e12, fun h => h⟩
        · rintro S12 ⟨e12, hp'⟩
          have hr12 := e12.get hr
          walk_at "a"
          refine ⟨[(p, now, mk, ls, ts), (p, now2, mk2, ls, ts), (p', now, mk, ls', ts')], rfl, get_set_self hr12, Nat.le_refl 3, fun x hx => ?_⟩
          simp only [List.mem_cons, List.not_mem_nil, or_false] at hx
          rcases hx with rfl | rfl | rfl
          · exact q0
          · exact q1
          · exact ⟨A', hp' rfl, hmk⟩
        · rintro S12 ⟨e12, -⟩
          refine ss_nil ?_
          refine ⟨_, rfl, e12.get hr, Nat.le_succ 2, fun x hx => ?_⟩
          simp only [List.mem_cons, List.not_mem_nil, or_false] at hx
          rcases hx with rfl | rfl
          · exact q0
          · exact q1
      · rintro σ S12 ⟨xs, rfl, hr12, hxl, hxk⟩
        walk_at "m"
        have hc1 := cut_len (xs.map (triD ms)) none (some 1)
        rw [List.length_map] at hc1
        refine b_addL (get_app hr12) get_new (by rw [List.length_map]; unfold sizeLine; omega) ?_
        refine ⟨_, seqOf_lst get_new, ?_⟩
        refine for_inv (callW_mono T _) (fun c σ S' => ∃ v12 v13 v14, σ = [some (.ref 0), some (.ref 2), some (pjD p), some (plnD ms ls ts), some (.int part), some (.bl (plainF p ts)), some (.tup (ms.map .int)), some (.tup (bs.map .int)), some (pjD p'), some (plnD ms ls' ts'), some (runD now mk), some (.ref S11.length), v12, v13, v14] ∧ Ext (S12 ++ [MO.lst (cutD (xs.map (triD ms)) none (some 1))] ++ [MO.lst (xs.map (triD ms) ++ cutD (xs.map (triD ms)) none (some 1))]) S')
          ⟨_, _, _, rfl, Ext.refl _⟩ (fun _ _ _ h => by obtain ⟨_, _, _, _, e⟩ := h; exact still_ref (e.get get_new)) ?_ (fun _ _ _ => trivial)
        rintro c x σ S13 hx ⟨v12, v13, v14, rfl, e13⟩
        obtain ⟨⟨p2, now2, mk2, ls2, ts2⟩, hx2, rfl⟩ : ∃ y ∈ xs, x = triD ms y := by
          have hm := List.mem_of_getElem? hx
          rcases List.mem_append.1 hm with hm | hm
          · obtain ⟨y, hy, rfl⟩ := List.mem_map.1 hm; exact ⟨y, hy, rfl⟩
          · obtain ⟨y, hy, rfl⟩ := List.mem_map.1 (mem_cut hm); exact ⟨y, hy, rfl⟩
        obtain ⟨B, hpl, hml⟩ := hxk _ hx2
        refine ⟨_, rfl, ?_⟩
        walk_at "m"
        have hel : (eagF p2 ms now2 mk2 (lagsF p2 ts2)).length < 1000 := by
          have := it_len (stpF_f p2 ms now2 mk2 (lagsF p2 ts2)) (R := unF mk2) mk2.length
          have := unF_len mk2
          have := B.l3
          unfold eagF
          dsimp only at hml
          omega
        refine eager_starts_ok (k := 56) B.ch hml (by have := B.l3; omega) B.l1 B.l2 B.lk fun S14 e14 => ?_
        walk_at "m"
        refine k43_eager_ok (k := 56) B.ch hml (by have := B.l3; omega) B.l1 B.l2 B.lk hpl fun S15 e15 => ?_
        walk_at "m"
        refine same_ok _ _ _ _ (map_pl 58 (by omega) fun a _ => pair_pl 57 _) ?_
        walk_at "m"
        exact ⟨_, _, _, rfl, (e13.trans e14).trans e15⟩
    · rintro S9 ⟨rfl, -⟩
      exact ss_nil trivial
  · intro σ S9 _
    walk_at "m"

end Law

set_option Elab.async false
set_option linter.all false
set_option autoImplicit false
set_option maxRecDepth 100000
namespace Law
open PySem PySem.Spec PyProof.Rows Flx
set_option maxHeartbeats 0 in
theorem bindsAll : ∀ q ∈ T.zip ps, BindsAll q.2.st q.1.name q.1.np (q.2.ns.take q.1.np) := by
  intro q hq
  simp only [T, ps, List.zip_cons_cons, List.zip_nil_left, List.mem_cons, List.not_mem_nil, or_false] at hq
  rcases hq with rfl | rfl | rfl | rfl | rfl | rfl | rfl | rfl | rfl | rfl | rfl | rfl | rfl | rfl | rfl | rfl | rfl | rfl | rfl | rfl | rfl | rfl | rfl | rfl | rfl | rfl | rfl | rfl | rfl | rfl | rfl | rfl | rfl | rfl | rfl | rfl | rfl | rfl
  · exact fun _ _ _ _ _ _ us hl => match us, hl with | [_, _], _ => rfl
  · exact fun _ _ _ _ _ _ us hl => match us, hl with | [_, _, _], _ => rfl
  · exact fun _ _ _ _ _ _ us hl => match us, hl with | [_], _ => rfl
  · exact fun _ _ _ _ _ _ us hl => match us, hl with | [_, _], _ => rfl
  · exact fun _ _ _ _ _ _ us hl => match us, hl with | [_], _ => rfl
  · exact fun _ _ _ _ _ _ us hl => match us, hl with | [_], _ => rfl
  · exact fun _ _ _ _ _ _ us hl => match us, hl with | [_, _], _ => rfl
  · exact fun _ _ _ _ _ _ us hl => match us, hl with | [_, _, _, _, _], _ => rfl
  · exact fun _ _ _ _ _ _ us hl => match us, hl with | [_, _, _, _, _], _ => rfl
  · exact fun _ _ _ _ _ _ us hl => match us, hl with | [_, _, _], _ => rfl
  · exact fun _ _ _ _ _ _ us hl => match us, hl with | [_], _ => rfl
  · exact fun _ _ _ _ _ _ us hl => match us, hl with | [_, _], _ => rfl
  · exact fun _ _ _ _ _ _ us hl => match us, hl with | [_, _], _ => rfl
  · exact fun _ _ _ _ _ _ us hl => match us, hl with | [_, _], _ => rfl
  · exact fun _ _ _ _ _ _ us hl => match us, hl with | [_, _], _ => rfl
  · exact fun _ _ _ _ _ _ us hl => match us, hl with | [_, _], _ => rfl
  · exact fun _ _ _ _ _ _ us hl => match us, hl with | [_, _], _ => rfl
  · exact fun _ _ _ _ _ _ us hl => match us, hl with | [_, _, _], _ => rfl
  · exact fun _ _ _ _ _ _ us hl => match us, hl with | [_, _, _, _, _], _ => rfl
  · exact fun _ _ _ _ _ _ us hl => match us, hl with | [_, _], _ => rfl
  · exact fun _ _ _ _ _ _ us hl => match us, hl with | [_, _, _, _, _], _ => rfl
  · exact fun _ _ _ _ _ _ us hl => match us, hl with | [_, _, _, _], _ => rfl
  · exact fun _ _ _ _ _ _ us hl => match us, hl with | [_], _ => rfl
  · exact fun _ _ _ _ _ _ us hl => match us, hl with | [_, _, _, _], _ => rfl
  · exact fun _ _ _ _ _ _ us hl => match us, hl with | [_, _, _], _ => rfl
  · exact fun _ _ _ _ _ _ us hl => match us, hl with | [_, _, _, _], _ => rfl
  · exact fun _ _ _ _ _ _ us hl => match us, hl with | [_, _, _], _ => rfl
  · exact fun _ _ _ _ _ _ us hl => match us, hl with | [_, _, _], _ => rfl
  · exact fun _ _ _ _ _ _ us hl => match us, hl with | [_, _, _, _], _ => rfl
  · exact fun _ _ _ _ _ _ us hl => match us, hl with | [_], _ => rfl
  · exact fun _ _ _ _ _ _ us hl => match us, hl with | [_, _, _, _, _], _ => rfl
  · exact fun _ _ _ _ _ _ us hl => match us, hl with | [_], _ => rfl
  · exact fun _ _ _ _ _ _ us hl => match us, hl with | [_, _], _ => rfl
  · exact fun _ _ _ _ _ _ us hl => match us, hl with | [_, _, _, _], _ => rfl
  · exact fun _ _ _ _ _ _ us hl => match us, hl with | [_, _, _], _ => rfl
  · exact fun _ _ _ _ _ _ us hl => match us, hl with | [_, _, _, _], _ => rfl
  · exact fun _ _ _ _ _ _ us hl => match us, hl with | [_, _, _, _, _], _ => rfl
  · exact fun _ _ _ _ _ _ us hl => match us, hl with | [_], _ => rfl
theorem allHere {K : K'}
    (h0 : HereK K "time_in" p_time_in.st)
    (h1 : HereK K "mode_at" p_mode_at.st)
    (h2 : HereK K "transfer_lags" p_transfer_lags.st)
    (h3 : HereK K "lags_of" p_lags_of.st)
    (h4 : HereK K "is_wait" p_is_wait.st)
    (h5 : HereK K "is_due" p_is_due.st)
    (h6 : HereK K "is_plain" p_is_plain.st)
    (h7 : HereK K "time_counting" p_time_counting.st)
    (h8 : HereK K "has_waited" p_has_waited.st)
    (h9 : HereK K "eager_starts" p_eager_starts.st)
    (h10 : HereK K "_law_tape" p__law_tape.st)
    (h11 : HereK K "_law_draw" p__law_draw.st)
    (h12 : HereK K "_law_pick" p__law_pick.st)
    (h13 : HereK K "_law_shuffled" p__law_shuffled.st)
    (h14 : HereK K "_law_same" p__law_same.st)
    (h15 : HereK K "_law_w_takes" p__law_w_takes.st)
    (h16 : HereK K "_law_w_ends" p__law_w_ends.st)
    (h17 : HereK K "_law_w_when" p__law_w_when.st)
    (h18 : HereK K "_law_w_load" p__law_w_load.st)
    (h19 : HereK K "_law_w_used" p__law_w_used.st)
    (h20 : HereK K "_law_w_flow" p__law_w_flow.st)
    (h21 : HereK K "_law_w_stock" p__law_w_stock.st)
    (h22 : HereK K "_law_hand_lags" p__law_hand_lags.st)
    (h23 : HereK K "_law_game_mode" p__law_game_mode.st)
    (h24 : HereK K "_law_game_closures" p__law_game_closures.st)
    (h25 : HereK K "_law_game_flows" p__law_game_flows.st)
    (h26 : HereK K "_law_game_scheme" p__law_game_scheme.st)
    (h27 : HereK K "_law_d_loose" p__law_d_loose.st)
    (h28 : HereK K "_law_k43_lag" p__law_k43_lag.st)
    (h29 : HereK K "_law_k43_world" p__law_k43_world.st)
    (h30 : HereK K "_law_k43_lags" p__law_k43_lags.st)
    (h31 : HereK K "_law_k43_is" p__law_k43_is.st)
    (h32 : HereK K "_law_k43_plain" p__law_k43_plain.st)
    (h33 : HereK K "_law_k43_over" p__law_k43_over.st)
    (h34 : HereK K "_law_k43_eager" p__law_k43_eager.st)
    (h35 : HereK K "_law_k43_moment" p__law_k43_moment.st)
    (h36 : HereK K "_law_k43_changed" p__law_k43_changed.st)
    (h37 : HereK K "law" p_law.st)
    : ∀ q ∈ T.zip ps, HereK K q.1.name q.2.st := by
  intro q hq
  simp only [T, ps, List.zip_cons_cons, List.zip_nil_left, List.mem_cons, List.not_mem_nil, or_false] at hq
  rcases hq with rfl | rfl | rfl | rfl | rfl | rfl | rfl | rfl | rfl | rfl | rfl | rfl | rfl | rfl | rfl | rfl | rfl | rfl | rfl | rfl | rfl | rfl | rfl | rfl | rfl | rfl | rfl | rfl | rfl | rfl | rfl | rfl | rfl | rfl | rfl | rfl | rfl | rfl
  · exact h0
  · exact h1
  · exact h2
  · exact h3
  · exact h4
  · exact h5
  · exact h6
  · exact h7
  · exact h8
  · exact h9
  · exact h10
  · exact h11
  · exact h12
  · exact h13
  · exact h14
  · exact h15
  · exact h16
  · exact h17
  · exact h18
  · exact h19
  · exact h20
  · exact h21
  · exact h22
  · exact h23
  · exact h24
  · exact h25
  · exact h26
  · exact h27
  · exact h28
  · exact h29
  · exact h30
  · exact h31
  · exact h32
  · exact h33
  · exact h34
  · exact h35
  · exact h36
  · exact h37
theorem allFree {K : K'}
    (z0 : PySem.W.nsIn K mainGlobals "len" = some none)
    (z1 : PySem.W.nsIn K mainGlobals "abs" = some none)
    (z2 : PySem.W.nsIn K mainGlobals "int" = some none)
    (z3 : PySem.W.nsIn K mainGlobals "max" = some none)
    (z4 : PySem.W.nsIn K mainGlobals "min" = some none)
    (z5 : PySem.W.nsIn K mainGlobals "sum" = some none)
    (z6 : PySem.W.nsIn K mainGlobals "tuple" = some none)
    (z7 : PySem.W.nsIn K mainGlobals "list" = some none)
    (z8 : PySem.W.nsIn K mainGlobals "any" = some none)
    (z9 : PySem.W.nsIn K mainGlobals "all" = some none)
    (z10 : PySem.W.nsIn K mainGlobals "str" = some none)
    (z11 : PySem.W.nsIn K mainGlobals "sorted" = some none)
    (z12 : PySem.W.nsIn K mainGlobals "bool" = some none)
    (z13 : PySem.W.nsIn K mainGlobals "isinstance" = some none)
    (z14 : PySem.W.nsIn K mainGlobals "range" = some none)
    (z15 : PySem.W.nsIn K mainGlobals "enumerate" = some none)
    (z16 : PySem.W.nsIn K mainGlobals "zip" = some none)
    (z17 : PySem.W.nsIn K mainGlobals "reversed" = some none)
    : ∀ x ∈ builtins, PySem.W.nsIn K mainGlobals x = some none := by
  intro x hx
  simp only [builtins, List.mem_cons, List.not_mem_nil, or_false] at hx
  rcases hx with rfl | rfl | rfl | rfl | rfl | rfl | rfl | rfl | rfl | rfl | rfl | rfl | rfl | rfl | rfl | rfl | rfl | rfl
  · exact z0
  · exact z1
  · exact z2
  · exact z3
  · exact z4
  · exact z5
  · exact z6
  · exact z7
  · exact z8
  · exact z9
  · exact z10
  · exact z11
  · exact z12
  · exact z13
  · exact z14
  · exact z15
  · exact z16
  · exact z17
end Law
open PySem PySem.W PyProof.Rows
set_option maxHeartbeats 0 in
theorem PySem.Challenge.cw_flexplan_k43_plain_plans_and_eager_start_holds : PySem.Challenge.rw_flexplan_k43_plain_plans_and_eager_start.Holds := by
  w_on; o_law; k_head; (case hw => w_witness2)
  k_fill
  refine L2.walk_of (l := PySem.Challenge.rw_flexplan_k43_plain_plans_and_eager_start) (n := 63) (k := 60 + 1) (x := "script") (CX := fun _ => L2.CX0) (sp := fun w => Flx.liftSp _ (Flx.callW Law.T (60 + 1) 37)) rfl (by decide) rfl ⟨rfl, by decide, by decide⟩ (fun w h Y => PySem.W.kIn_of Y) ?F (fun _ H a ns hl hO hS => Flx.law_sp hO hS (Law.main ns hl)) (fun _ _ _ _ _ h => h)
  case F =>
    intro w mg fa h KX G hmg
    refine Flx.law_fn (T := Law.T) (ps := Law.ps) (f := 37) (fd := Law.f_law) (p := Law.p_law) 60 KX G hmg rfl Law.looks rfl rfl rfl Law.bindsAll (Law.allHere ?h0 ?h1 ?h2 ?h3 ?h4 ?h5 ?h6 ?h7 ?h8 ?h9 ?h10 ?h11 ?h12 ?h13 ?h14 ?h15 ?h16 ?h17 ?h18 ?h19 ?h20 ?h21 ?h22 ?h23 ?h24 ?h25 ?h26 ?h27 ?h28 ?h29 ?h30 ?h31 ?h32 ?h33 ?h34 ?h35 ?h36 ?h37) (Law.allFree ?z0 ?z1 ?z2 ?z3 ?z4 ?z5 ?z6 ?z7 ?z8 ?z9 ?z10 ?z11 ?z12 ?z13 ?z14 ?z15 ?z16 ?z17)
    case h0 => exact ⟨_, _, _, _, _, _, _, _, _, _, by k_is, by k_is, by k_is, by k_is⟩
    case h1 => exact ⟨_, _, _, _, _, _, _, _, _, _, by k_is, by k_is, by k_is, by k_is⟩
    case h2 => exact ⟨_, _, _, _, _, _, _, _, _, _, by k_is, by k_is, by k_is, by k_is⟩
    case h3 => exact ⟨_, _, _, _, _, _, _, _, _, _, by k_is, by k_is, by k_is, by k_is⟩
    case h4 => exact ⟨_, _, _, _, _, _, _, _, _, _, by k_is, by k_is, by k_is, by k_is⟩
    case h5 => exact ⟨_, _, _, _, _, _, _, _, _, _, by k_is, by k_is, by k_is, by k_is⟩
    case h6 => exact ⟨_, _, _, _, _, _, _, _, _, _, by k_is, by k_is, by k_is, by k_is⟩
    case h7 => exact ⟨_, _, _, _, _, _, _, _, _, _, by k_is, by k_is, by k_is, by k_is⟩
    case h8 => exact ⟨_, _, _, _, _, _, _, _, _, _, by k_is, by k_is, by k_is, by k_is⟩
    case h9 => exact ⟨_, _, _, _, _, _, _, _, _, _, by k_is, by k_is, by k_is, by k_is⟩
    case h10 => exact ⟨_, _, _, _, _, _, _, _, _, _, by k_is, by k_is, by k_is, by k_is⟩
    case h11 => exact ⟨_, _, _, _, _, _, _, _, _, _, by k_is, by k_is, by k_is, by k_is⟩
    case h12 => exact ⟨_, _, _, _, _, _, _, _, _, _, by k_is, by k_is, by k_is, by k_is⟩
    case h13 => exact ⟨_, _, _, _, _, _, _, _, _, _, by k_is, by k_is, by k_is, by k_is⟩
    case h14 => exact ⟨_, _, _, _, _, _, _, _, _, _, by k_is, by k_is, by k_is, by k_is⟩
    case h15 => exact ⟨_, _, _, _, _, _, _, _, _, _, by k_is, by k_is, by k_is, by k_is⟩
    case h16 => exact ⟨_, _, _, _, _, _, _, _, _, _, by k_is, by k_is, by k_is, by k_is⟩
    case h17 => exact ⟨_, _, _, _, _, _, _, _, _, _, by k_is, by k_is, by k_is, by k_is⟩
    case h18 => exact ⟨_, _, _, _, _, _, _, _, _, _, by k_is, by k_is, by k_is, by k_is⟩
    case h19 => exact ⟨_, _, _, _, _, _, _, _, _, _, by k_is, by k_is, by k_is, by k_is⟩
    case h20 => exact ⟨_, _, _, _, _, _, _, _, _, _, by k_is, by k_is, by k_is, by k_is⟩
    case h21 => exact ⟨_, _, _, _, _, _, _, _, _, _, by k_is, by k_is, by k_is, by k_is⟩
    case h22 => exact ⟨_, _, _, _, _, _, _, _, _, _, by k_is, by k_is, by k_is, by k_is⟩
    case h23 => exact ⟨_, _, _, _, _, _, _, _, _, _, by k_is, by k_is, by k_is, by k_is⟩
    case h24 => exact ⟨_, _, _, _, _, _, _, _, _, _, by k_is, by k_is, by k_is, by k_is⟩
    case h25 => exact ⟨_, _, _, _, _, _, _, _, _, _, by k_is, by k_is, by k_is, by k_is⟩
    case h26 => exact ⟨_, _, _, _, _, _, _, _, _, _, by k_is, by k_is, by k_is, by k_is⟩
    case h27 => exact ⟨_, _, _, _, _, _, _, _, _, _, by k_is, by k_is, by k_is, by k_is⟩
    case h28 => exact ⟨_, _, _, _, _, _, _, _, _, _, by k_is, by k_is, by k_is, by k_is⟩
    case h29 => exact ⟨_, _, _, _, _, _, _, _, _, _, by k_is, by k_is, by k_is, by k_is⟩
    case h30 => exact ⟨_, _, _, _, _, _, _, _, _, _, by k_is, by k_is, by k_is, by k_is⟩
    case h31 => exact ⟨_, _, _, _, _, _, _, _, _, _, by k_is, by k_is, by k_is, by k_is⟩
    case h32 => exact ⟨_, _, _, _, _, _, _, _, _, _, by k_is, by k_is, by k_is, by k_is⟩
    case h33 => exact ⟨_, _, _, _, _, _, _, _, _, _, by k_is, by k_is, by k_is, by k_is⟩
    case h34 => exact ⟨_, _, _, _, _, _, _, _, _, _, by k_is, by k_is, by k_is, by k_is⟩
    case h35 => exact ⟨_, _, _, _, _, _, _, _, _, _, by k_is, by k_is, by k_is, by k_is⟩
    case h36 => exact ⟨_, _, _, _, _, _, _, _, _, _, by k_is, by k_is, by k_is, by k_is⟩
    case h37 => exact ⟨_, _, _, _, _, _, _, _, _, _, by k_is, by k_is, by k_is, by k_is⟩
    case z0 => k_is
    case z1 => k_is
    case z2 => k_is
    case z3 => k_is
    case z4 => k_is
    case z5 => k_is
    case z6 => k_is
    case z7 => k_is
    case z8 => k_is
    case z9 => k_is
    case z10 => k_is
    case z11 => k_is
    case z12 => k_is
    case z13 => k_is
    case z14 => k_is
    case z15 => k_is
    case z16 => k_is
    case z17 => k_is
