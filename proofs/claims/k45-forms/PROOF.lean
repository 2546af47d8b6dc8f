import PyProof.Rows.All
import Wide.All
import OpenK.AllK
import Wide.FinOn
import HandS.ForMost
import HandS.Flow
import HandS.Style
import HandS.Deep
import HandS.Conv
import HandS.IsInst
import HandS.Wide
import HandS.TupAny
import HandS.TupMul
import HandS.DictComp
import HandS.SortRule
import HandS.Zip
import PyProof.Conv_int
import PyProof.Conv_int_bool
import HandS.SortInts
import HandS.SortOrd
import HandS.More
import KE.KSortTupG
import HandS.Codes
import HandS.Words
import HandS.Ends
import PySem.Challenge.RW_fewkinds_k45_forms_as_great_numbers
set_option Elab.async false
set_option linter.all false
set_option maxRecDepth 100000
/-! PS1: the pure part of Python as plain data, and a reference evaluator over it. -/
namespace PS
open PySem L2

/-- plain data: tuples hold data; a list or a dict is a place in the store -/
inductive D where
  | non | bl (b : Bool) | int (i : Int) | str (s : Str) | tup (ds : List D) | ref (n : Nat)
  deriving Inhabited, Repr

mutual
def D.beq : D → D → Bool
  | .non, .non => true
  | .bl a, .bl b => a == b
  | .int a, .int b => a == b
  | .str a, .str b => decide (a = b)
  | .tup a, .tup b => D.beqs a b
  | .ref a, .ref b => a == b
  | _, _ => false
def D.beqs : List D → List D → Bool
  | [], [] => true
  | a :: as, b :: bs => D.beq a b && D.beqs as bs
  | _, _ => false
end
mutual
theorem D.beq_eq : ∀ a b : D, D.beq a b = true → a = b
  | .non, .non, _ => rfl
  | .bl a, .bl b, h => by simp [D.beq] at h; rw [h]
  | .int a, .int b, h => by simp [D.beq] at h; rw [h]
  | .str a, .str b, h => by simp [D.beq] at h; rw [h]
  | .tup a, .tup b, h => by rw [D.beqs_eq a b (by simpa [D.beq] using h)]
  | .ref a, .ref b, h => by simp [D.beq] at h; rw [h]
  | .non, .bl _, h | .non, .int _, h | .non, .str _, h | .non, .tup _, h | .non, .ref _, h => by simp [D.beq] at h
  | .bl _, .non, h | .bl _, .int _, h | .bl _, .str _, h | .bl _, .tup _, h | .bl _, .ref _, h => by simp [D.beq] at h
  | .int _, .non, h | .int _, .bl _, h | .int _, .str _, h | .int _, .tup _, h | .int _, .ref _, h => by simp [D.beq] at h
  | .str _, .non, h | .str _, .bl _, h | .str _, .int _, h | .str _, .tup _, h | .str _, .ref _, h => by simp [D.beq] at h
  | .tup _, .non, h | .tup _, .bl _, h | .tup _, .int _, h | .tup _, .str _, h | .tup _, .ref _, h => by simp [D.beq] at h
  | .ref _, .non, h | .ref _, .bl _, h | .ref _, .int _, h | .ref _, .str _, h | .ref _, .tup _, h => by simp [D.beq] at h
theorem D.beqs_eq : ∀ a b : List D, D.beqs a b = true → a = b
  | [], [], _ => rfl
  | a :: as, b :: bs, h => by
    simp [D.beqs] at h
    rw [D.beq_eq a b h.1, D.beqs_eq as bs h.2]
  | [], _ :: _, h | _ :: _, [], h => by simp [D.beqs] at h
end
mutual
theorem D.beq_refl : ∀ a : D, D.beq a a = true
  | .non | .bl _ | .int _ | .str _ | .ref _ => by simp [D.beq]
  | .tup a => by simp [D.beq, D.beqs_refl a]
theorem D.beqs_refl : ∀ a : List D, D.beqs a a = true
  | [] => rfl
  | a :: as => by simp [D.beqs, D.beq_refl a, D.beqs_refl as]
end
theorem D.beq_iff (a b : D) : D.beq a b = true ↔ a = b := ⟨D.beq_eq a b, fun h => by rw [h]; exact D.beq_refl b⟩
instance : DecidableEq D := fun a b => decidable_of_iff _ (D.beq_iff a b)

/-- what stands at a place of the store: a list; the script (read alone); a dict with keys ints and texts; one with keys tuples of them -/
inductive MO where
  | lst (ds : List D) | frz (ds : List D) | dK (kvs : List (Key × D)) | dT (kvs : List (List Key × D))
  deriving DecidableEq
abbrev Store := List MO
abbrev Env := List (Option D)
abbrev R (α : Type) := Option (α × Store)
abbrev Fn := List D → Store → R D
inductive Out where
  | nx | bk | ct | rt (d : D)
  deriving DecidableEq

/-! ### data -/
abbrev lim : Nat := 16777216
mutual
/-- no place of the store within, or such below n alone -/
def closedD (n : Nat) : D → Bool
  | .ref j => decide (j < n)
  | .tup ds => closedDs n ds
  | _ => true
def closedDs (n : Nat) : List D → Bool
  | [] => true
  | d :: ds => closedD n d && closedDs n ds
end
def closedMO (n : Nat) : MO → Bool
  | .lst ds => closedDs n ds
  | .frz ds => closedDs n ds
  | .dK kvs => kvs.all fun kv => closedD n kv.2
  | .dT kvs => kvs.all fun kv => closedD n kv.2
mutual
/-- how deep tuples are nested -/
def dep : D → Nat
  | .tup ds => deps ds + 1
  | _ => 0
def deps : List D → Nat
  | [] => 0
  | d :: ds => max (dep d) (deps ds)
end
mutual
/-- == as Python has it, of data without places -/
def eqD : D → D → Bool
  | .non, .non => true
  | .bl a, .bl b => a == b
  | .bl a, .int b => (if a then 1 else 0) == b
  | .int a, .bl b => a == (if b then 1 else 0)
  | .int a, .int b => a == b
  | .str a, .str b => a == b
  | .tup a, .tup b => eqDs a b
  | _, _ => false
def eqDs : List D → List D → Bool
  | [], [] => true
  | a :: as, b :: bs => eqD a b && eqDs as bs
  | _, _ => false
end
/-- data that may be compared: no places, not deeper than 40 -/
def plainD (d : D) : Bool := closedD 0 d && decide (dep d ≤ 40)
def plainDs (ds : List D) : Bool := closedDs 0 ds && decide (deps ds ≤ 40)
mutual
/-- < of ints, texts, tuples of such (the first pair that differs decides) -/
def ltD : D → D → Option Bool
  | .int a, .int b => some (decide (a < b))
  | .str a, .str b => some (decide (a.cps.toList < b.cps.toList))
  | .tup a, .tup b => ltDs a b
  | _, _ => none
def ltDs : List D → List D → Option Bool
  | [], [] => some false
  | [], _ :: _ => some true
  | _ :: _, [] => some false
  | a :: as, b :: bs => if eqD a b then ltDs as bs else ltD a b
end
def keyOf : D → Option Key
  | .int i => some (.inl i)
  | .str s => some (.inr s)
  | _ => none
def keysOf : List D → Option (List Key)
  | [] => some []
  | d :: ds => match keyOf d, keysOf ds with
    | some k, some ks => some (k :: ks)
    | _, _ => none
def dK : Key → D
  | .inl i => .int i
  | .inr s => .str s
def getK {κ : Type} [DecidableEq κ] (kvs : List (κ × D)) (k : κ) : Option D := (kvs.find? fun kv => decide (kv.1 = k)).map (·.2)
def putD {κ : Type} [DecidableEq κ] (kvs : List (κ × D)) (k : κ) (v : D) : List (κ × D) :=
  if (kvs.any fun kv => decide (kv.1 = k)) = true then kvs.map (fun kv => if kv.1 = k then (kv.1, v) else kv) else kvs ++ [(k, v)]
def truth (M : Store) : D → Option Bool
  | .non => some false
  | .bl b => some b
  | .int i => some (i != 0)
  | .str s => if s.length ≤ lim then some ((s.length : Int) != 0) else none
  | .tup ds => some (!ds.isEmpty)
  | .ref n => match M[n]? with
    | some (.lst ds) => some (!ds.isEmpty)
    | some (.frz ds) => some (!ds.isEmpty)
    | some (.dK kvs) => some (!kvs.isEmpty)
    | _ => none

/-! ### operations by values -/
def mulOk (i j : Int) : Bool := decide (i.natAbs < 18446744073709551616) || decide (j.natAbs < 18446744073709551616) || (decide (i.natAbs.log2 < 400000) && decide (j.natAbs.log2 < 400000))
def binS (o : Operator) (x y : D) (M : Store) : R D :=
  match o, x, y with
  | .Add, .int i, .int j => some (.int (i + j), M)
  | .Sub, .int i, .int j => some (.int (i - j), M)
  | .Mult, .int i, .int j => if mulOk i j then some (.int (i * j), M) else none
  | .FloorDiv, .int i, .int j => if 0 < j ∧ j.natAbs.log2 < 9000 then some (.int (i / j), M) else none
  | .Mod, .int i, .int j => if 0 < j then some (.int (i % j), M) else none
  | .Pow, .int i, .int j => if 0 ≤ j ∧ j ≤ 1000000 ∧ i.natAbs < 18446744073709551616 then some (.int (i ^ j.toNat), M) else none
  | .Add, .str a, .str b => if a.length + b.length ≤ lim then some (.str (a ++ b), M) else none
  | .Add, .tup a, .tup b => if a.length + b.length ≤ lim then some (.tup (a ++ b), M) else none
  | .Mult, .tup a, .int k => if a ≠ [] ∧ 2 ≤ k ∧ k ≤ 1000 ∧ a.length ≤ 1000 then some (.tup (List.replicate k.toNat a).flatten, M) else none
  | .Add, .ref a, .ref b => match M[a]?, M[b]? with
    | some (.lst xs), some (.lst ys) => if xs.length + ys.length ≤ lim then some (.ref M.length, M ++ [.lst (xs ++ ys)]) else none
    | _, _ => none
  | _, _, _ => none
/-- op= -/
def augS (o : Operator) (x y : D) (M : Store) : R D :=
  match o, x, y with
  | .Add, .int i, .int j => some (.int (i + j), M)
  | .Sub, .int i, .int j => some (.int (i - j), M)
  | .Add, .str a, .str b => if a.length + b.length ≤ lim then some (.str (a ++ b), M) else none
  | _, _, _ => none
def cmpS (o : CmpOp) (x y : D) : Option Bool :=
  match o with
  | .Eq => if plainD x && plainD y then some (eqD x y) else none
  | .NotEq => if plainD x && plainD y then some (!eqD x y) else none
  | .Lt => match x, y with
    | .int i, .int j => some (decide (i < j))
    | .str a, .str b => some (decide (a.cps.toList < b.cps.toList))
    | _, _ => none
  | .LtE => match x, y with
    | .int i, .int j => some (decide (i ≤ j))
    | _, _ => none
  | .Gt => match x, y with
    | .int i, .int j => some (decide (j < i))
    | _, _ => none
  | .GtE => match x, y with
    | .int i, .int j => some (decide (j ≤ i))
    | _, _ => none
  | .Is => match y with
    | .non => some (decide (x = .non))
    | .bl b => match x with
      | .bl a => some (decide (a = b))
      | _ => none
    | _ => none
  | .IsNot => match y with
    | .non => some (!decide (x = .non))
    | .bl b => match x with
      | .bl a => some (!decide (a = b))
      | _ => none
    | _ => none
  | _ => none
/-- a sequence: a value, or a list that no name holds -/
inductive QV where
  | val (d : D) | tmp (ds : List D)
def listAt (M : Store) (n : Nat) : Option (List D) := match M[n]? with
  | some (.lst ds) => some ds
  | some (.frz ds) => some ds
  | _ => none
def items (M : Store) : QV → Option (List D)
  | .tmp ds => some ds
  | .val (.tup ds) => some ds
  | .val (.ref n) => listAt M n
  | _ => none
/-- the items of what is a list -/
def itemsL (M : Store) : QV → Option (List D)
  | .tmp ds => some ds
  | .val (.ref n) => listAt M n
  | _ => none
/-- .. of what may be written -/
def itemsW (M : Store) : QV → Option (List D)
  | .tmp ds => some ds
  | .val (.ref n) => match M[n]? with
    | some (.lst ds) => some ds
    | _ => none
  | _ => none
/-- as long as a loop walks it, it stands -/
def stands (q : QV) (ds : List D) (M : Store) : Bool := match q with
  | .val (.ref n) => decide (listAt M n = some ds)
  | _ => true
def memS (x : D) (q : QV) (M : Store) : Option Bool := match q with
  | .val (.ref n) => match M[n]? with
    | some (.dK kvs) => (keyOf x).map fun k => (getK kvs k).isSome
    | some (.dT kvs) => none
    | some (.lst ds) => if plainD x && plainDs ds then some (ds.any fun d => eqD d x) else none
    | some (.frz ds) => if plainD x && plainDs ds then some (ds.any fun d => eqD d x) else none
    | none => none
  | .val (.tup ds) => if plainD x && plainDs ds then some (ds.any fun d => eqD d x) else none
  | .tmp ds => if plainD x && plainDs ds then some (ds.any fun d => eqD d x) else none
  | _ => none
def idxS (q : QV) (i : D) (M : Store) : Option D := match q, i with
  | .tmp ds, .int k => atI ds k
  | .val (.tup ds), .int k => atI ds k
  | .val (.str s), .int k => if s.length ≤ lim then (atI s.cps.toList k).map fun c => .str ⟨#[c]⟩ else none
  | .val (.ref n), i => match M[n]? with
    | some (.lst ds) => match i with
      | .int k => atI ds k
      | _ => none
    | some (.frz ds) => match i with
      | .int k => atI ds k
      | _ => none
    | some (.dK kvs) => (keyOf i).bind fun k => getK kvs k
    | some (.dT kvs) => none
    | none => none
  | _, _ => none
/-- the bounds of a slice -/
def cutD {α : Type} (xs : List α) (lo hi : Option Int) : List α := (xs.drop (HT.sIx xs.length 0 lo)).take (HT.sIx xs.length xs.length hi - HT.sIx xs.length 0 lo)
def slcS (x : D) (lo hi : Option Int) (M : Store) : R D := match x with
  | .tup ds => some (.tup (cutD ds lo hi), M)
  | .ref n => (listAt M n).map fun ds => (.ref M.length, M ++ [.lst (cutD ds lo hi)])
  | _ => none
inductive Blt where
  | len | abs | int | isInt | isBool | isStr | isTup | max2 | min2 | strOf
  deriving DecidableEq
def isT (p : D → Bool) (d : D) : Option D := some (.bl (p d))
def bltS (b : Blt) (ds : List D) (M : Store) : Option D := match b, ds with
  | .len, [.str s] => if s.length ≤ lim then some (.int s.length) else none
  | .len, [.ref n] => match M[n]? with
    | some (.dK kvs) => some (.int kvs.length)
    | _ => none
  | .abs, [.int i] => some (.int i.natAbs)
  | .int, [.int i] => some (.int i)
  | .int, [.bl b] => some (.int (if b then 1 else 0))
  | .isInt, [.int _] => some (.bl true)
  | .isInt, [.bl _] => some (.bl true)
  | .isInt, [.str _] => some (.bl false)
  | .isInt, [.tup _] => some (.bl false)
  | .isInt, [.non] => some (.bl false)
  | .isBool, [.int _] => some (.bl false)
  | .isBool, [.bl _] => some (.bl true)
  | .isBool, [.str _] => some (.bl false)
  | .isBool, [.tup _] => some (.bl false)
  | .isBool, [.non] => some (.bl false)
  | .isStr, [.int _] => some (.bl false)
  | .isStr, [.bl _] => some (.bl false)
  | .isStr, [.str _] => some (.bl true)
  | .isStr, [.tup _] => some (.bl false)
  | .isStr, [.non] => some (.bl false)
  | .isTup, [.int _] => some (.bl false)
  | .isTup, [.bl _] => some (.bl false)
  | .isTup, [.str _] => some (.bl false)
  | .isTup, [.tup _] => some (.bl true)
  | .isTup, [.non] => some (.bl false)
  | .max2, [.int i, .int j] => some (.int (max i j))
  | .min2, [.int i, .int j] => some (.int (min i j))
  | _, _ => none
inductive Agg where
  | len | sum | any | all | tup | min | max | lenSet
  deriving DecidableEq
def intsOf : List D → Option (List Int)
  | [] => some []
  | .int i :: ds => (intsOf ds).map fun is => i :: is
  | _ => none
def blsOf : List D → Option (List Bool)
  | [] => some []
  | .bl i :: ds => (blsOf ds).map fun is => i :: is
  | _ => none
def minI : List Int → Option Int
  | [] => none
  | i :: is => some (is.foldl min i)
def maxI : List Int → Option Int
  | [] => none
  | i :: is => some (is.foldl max i)
/-- each once, in the order of the first -/
def dedup : List D → List D → List D
  | acc, [] => acc
  | acc, d :: ds => if acc.contains d then dedup acc ds else dedup (acc ++ [d]) ds
def aggS (g : Agg) (q : QV) (M : Store) : Option D := match g with
  | .len => (items M q).map fun ds => .int ds.length
  | .sum => (itemsL M q).bind fun ds => (intsOf ds).map fun is => .int is.sum
  | .any => (itemsL M q).bind fun ds => (blsOf ds).map fun bs => .bl (bs.any id)
  | .all => (itemsL M q).bind fun ds => (blsOf ds).map fun bs => .bl (bs.all id)
  | .tup => (items M q).map fun ds => .tup ds
  | .min => (itemsL M q).bind fun ds => (intsOf ds).bind fun is => (minI is).map fun i => .int i
  | .max => (itemsL M q).bind fun ds => (intsOf ds).bind fun is => (maxI is).map fun i => .int i
  | .lenSet => (itemsL M q).bind fun ds => if plainDs ds && ds.length < 4000 then some (.int (dedup [] ds).length) else none
/-! sorting: of ints, of texts, of tuples of ints and texts that are alike in kind -/
def itLt : Int ⊕ List Nat → Int ⊕ List Nat → Bool
  | .inl a, .inl b => decide (a < b)
  | .inl _, .inr _ => true
  | .inr _, .inl _ => false
  | .inr a, .inr b => decide (a < b)
def ksLt : List (Int ⊕ List Nat) → List (Int ⊕ List Nat) → Bool
  | [], [] => false
  | [], _ :: _ => true
  | _ :: _, [] => false
  | x :: r, y :: t => itLt x y || (!itLt y x && ksLt r t)
def keyI : D → Option (Int ⊕ List Nat)
  | .int i => some (.inl i)
  | .str s => some (.inr s.cps.toList)
  | _ => none
def keyIs : List D → Option (List (Int ⊕ List Nat))
  | [] => some []
  | d :: ds => match keyI d, keyIs ds with
    | some k, some ks => some (k :: ks)
    | _, _ => none
def keyD : D → Option (List (Int ⊕ List Nat))
  | .tup ds => keyIs ds
  | d => (keyI d).map fun k => [k]
def dLt (a b : D) : Bool := ksLt ((keyD a).getD []) ((keyD b).getD [])
/-- sorted into place, equal ones in their order -/
def insB {α : Type} (lt : α → α → Bool) (a : α) : List α → List α
  | [] => [a]
  | b :: l => if lt b a then b :: insB lt a l else a :: b :: l
def sortB {α : Type} (lt : α → α → Bool) : List α → List α
  | [] => []
  | a :: l => insB lt a (sortB lt l)
def srI : D → Bool
  | .int _ => true
  | _ => false
def srS : D → Bool
  | .str _ => true
  | _ => false
/-- a tuple of ints and texts as sh says (true: a text) -/
def srT (sh : List Bool) : D → Bool
  | .tup es => match keyIs es with
    | some k => decide (k.map Sum.isRight = sh)
    | none => false
  | _ => false
def shp : List D → List Bool
  | .tup es :: _ => ((keyIs es).getD []).map Sum.isRight
  | _ => []
def sortable (ds : List D) : Bool := ds.all srI || (ds.all srS && decide (ds.length < 64)) || (ds.all (srT (shp ds)) && !(shp ds).isEmpty)
def sortD (ds : List D) : Option (List D) := if sortable ds then some (sortB dLt ds) else none
def okK : Key → Bool
  | .inl _ => true
  | .inr s => PyData.strOk s
inductive Mt where
  | append | insert | pop | popAt | index | remove | get1 | get2 | put
  deriving DecidableEq
def mthS (m : Mt) (o : D) (ds : List D) (M : Store) : R D := match m, o, ds with
  | .append, .ref n, [d] => match M[n]? with
    | some (.lst xs) => if xs.length < lim then some (.non, M.set n (.lst (xs ++ [d]))) else none
    | _ => none
  | .insert, .ref n, [.int k, d] => match M[n]? with
    | some (.lst xs) => if 0 ≤ k ∧ k ≤ xs.length ∧ xs.length < lim then some (.non, M.set n (.lst (xs.take k.toNat ++ d :: xs.drop k.toNat))) else none
    | _ => none
  | .pop, .ref n, [] => match M[n]? with
    | some (.lst xs) => match xs[xs.length - 1]? with
      | some y => some (y, M.set n (.lst xs.dropLast))
      | none => none
    | _ => none
  | .popAt, .ref n, [.int k] => match M[n]? with
    | some (.lst xs) => if 0 ≤ k ∧ k < xs.length then match xs[k.toNat]? with
      | some y => some (y, M.set n (.lst (xs.eraseIdx k.toNat)))
      | none => none
      else none
    | _ => none
  | .index, .ref n, [d] => match M[n]? with
    | some (.lst xs) => if plainD d && plainDs xs then (xs.findIdx? fun x => eqD x d).map fun j => (.int j, M) else none
    | _ => none
  | .remove, .ref n, [d] => match M[n]? with
    | some (.lst xs) => if plainD d && plainDs xs then (xs.findIdx? fun x => eqD x d).map fun j => (.non, M.set n (.lst (xs.eraseIdx j))) else none
    | _ => none
  | .get1, .ref n, [k] => match M[n]? with
    | some (.dK kvs) => (keyOf k).map fun k => ((getK kvs k).getD .non, M)
    | _ => none
  | .get2, .ref n, [k, d] => match M[n]? with
    | some (.dK kvs) => (keyOf k).map fun k => ((getK kvs k).getD d, M)
    | _ => none
  | _, _, _ => none
/-- what a method is asked of: a list, a dict -/
def recv (m : Mt) (x : D) (M : Store) : Bool := match x with
  | .ref n => match M[n]? with
    | some (.lst _) => match m with
      | .get1 => false
      | .get2 => false
      | _ => true
    | some (.dK _) => match m with
      | .get1 => true
      | .get2 => true
      | _ => false
    | _ => false
  | _ => false
def extS (x : D) (y : QV) (M : Store) : R D := match x with
  | .ref n => match M[n]?, itemsW M y with
    | some (.lst xs), some ys => if xs.length + ys.length ≤ lim then some (.non, M.set n (.lst (xs ++ ys))) else none
    | _, _ => none
  | _ => none
/-- o[i] = v -/
def putS (o i v : D) (M : Store) : Option Store := match o with
  | .ref n => match M[n]? with
    | some (.lst xs) => match i with
      | .int k => (ixN xs.length k).map fun j => M.set n (.lst (xs.set j v))
      | _ => none
    | some (.dK kvs) => (keyOf i).bind fun k => if kvs.length < lim then some (M.set n (.dK (putD kvs k v))) else none
    | _ => none
  | _ => none

/-! ### the terms -/
mutual
inductive E where
  | var (i : Nat) | non | bl (b : Bool) | int (i : Int) | str (s : Str) | glob (x : Str) (d : D)
  | bin (o : Operator) (a b : E) | neg (a : E) | nt (a : E) | and (a b : E) | or (a b : E) | ife (c a b : E)
  | cmp (o : CmpOp) (a b : E) | eqL (ne : Bool) (a b : Q) | mem (ne : Bool) (x : E) (q : Q)
  | tup (es : Es) | ofL (l : L) | dctK | dctT | dctC (own : List (Str × Nat)) (t : T) (it : I) (c : O) (k v : E)
  | idx (q : Q) (i : E) | slc (a : E) (lo hi : O) | call (f : Nat) (es : Es) | blt (b : Blt) (es : Es) | agg (g : Agg) (q : Q)
  | mth (m : Mt) (o : E) (es : Es) | ext (o : E) (q : Q)
inductive Es where
  | nil | cons (e : E) (es : Es)
inductive O where
  | no | yes (e : E)
/-- expressions that make a new list -/
inductive L where
  | disp (es : Es) | comp (own : List (Str × Nat)) (t : T) (it : I) (c : O) (elt : E)
  | comp2 (own : List (Str × Nat)) (vs1 : List Nat) (t : T) (it : I) (c : O) (t1 : T) (it1 : I) (c1 : O) (elt : E)
  | sorted (q : Q) | sortedD (e : E) | sortedSet (q : Q) | list (q : Q) | listR (a b : E) (two : Bool) | slice (q : Q) (lo hi : O) | rev (q : Q) | cat (a b : Q) | rep (q : Q) (n : E)
inductive Q where
  | val (e : E) | lst (l : L)
inductive I where
  | q (q : Q) | rng1 (a : E) | rng2 (a b : E) | enum (q : Q) | zip (a b : Q) | keys (e : E)
inductive T where
  | name (i : Nat) | tup (ts : Ts) | sub (o i : E)
inductive Ts where
  | nil | cons (t : T) (ts : Ts)
end
mutual
inductive S where
  | asg (t : T) (e : E) | aug (i : Nat) (o : Operator) (e : E) | augS (o i : E) (op : Operator) (e : E)
  | ex (e : E) | ife (c : E) (a b : Ss) | whl (c : E) (b : Ss) | fr (t : T) (it : I) (b : Ss) | ret (e : E) | retN | brk | cnt | pass
inductive Ss where
  | nil | cons (s : S) (ss : Ss)
end
/-- the slots of a block's own names forgotten -/
def wipeD (ρ : Env) : List Nat → Env
  | [] => ρ
  | v :: vs => (wipeD ρ vs).set v none
def rngD (a b : Int) : List D := (List.range (b - a).toNat).map fun i => .int (a + (i : Nat))
def rngOk (a b : Int) : Bool := decide (-(4611686018427387904) ≤ a) && decide (a < 4611686018427387904) && decide (-(4611686018427387904) ≤ b) && decide (b < 4611686018427387904)
def enumD : Nat → List D → List D
  | _, [] => []
  | i, d :: ds => .tup [.int i, d] :: enumD (i + 1) ds
def zipD : List D → List D → List D
  | d :: ds, e :: es => .tup [d, e] :: zipD ds es
  | _, _ => []
def rng2S (x y : D) (M : Store) : Option ((Store → Bool) × List D × Store) := match x, y with
  | .int i, .int j => if rngOk i j then some (fun _ => true, rngD i j, M) else none
  | _, _ => none
/-- two lists, or two tuples, side by side -/
def zipI (x y : QV) (M : Store) : Option ((Store → Bool) × List D × Store) := match x, y with
  | .val (.tup xs), .val (.tup ys) => some (fun _ => true, zipD xs ys, M)
  | x, y => match itemsL M x, itemsL M y with
    | some xs, some ys => some (fun M => stands x xs M && stands y ys M, zipD xs ys, M)
    | _, _ => none
/-- the turns of a comprehension: ok: what is walked still stands; f: one turn (none: left out) -/
def compG (ok : Store → Bool) (f : D → Store → R (Option D)) : List D → List D → Store → R (List D)
  | [], acc, M => if ok M then some (acc, M) else none
  | d :: ds, acc, M => if ok M then match f d M with
    | some (some y, M1) => if acc.length < lim then compG ok f ds (acc ++ [y]) M1 else none
    | some (none, M1) => compG ok f ds acc M1
    | none => none
    else none
/-- .. where a turn makes several -/
def comp2G (ok : Store → Bool) (f : D → List D → Store → R (List D)) : List D → List D → Store → R (List D)
  | [], acc, M => if ok M then some (acc, M) else none
  | d :: ds, acc, M => if ok M then match f d acc M with
    | some (acc', M1) => comp2G ok f ds acc' M1
    | none => none
    else none
def dcG (ok : Store → Bool) (f : D → Store → R (Option (D × D))) : List D → List (Key × D) → Store → R (List (Key × D))
  | [], acc, M => if ok M then some (acc, M) else none
  | d :: ds, acc, M => if ok M then match f d M with
    | some (some (k, v), M1) => match keyOf k with
      | some k => if acc.length < lim then dcG ok f ds (putD acc k v) M1 else none
      | none => none
    | some (none, M1) => dcG ok f ds acc M1
    | none => none
    else none
/-- the turns of a for -/
def forG (ok : Store → Bool) (f : D → Env → Store → Option (Out × Env × Store)) : List D → Env → Store → Option (Out × Env × Store)
  | [], ρ, M => if ok M then some (.nx, ρ, M) else none
  | d :: ds, ρ, M => if ok M then match f d ρ M with
    | some (.nx, ρ1, M1) => forG ok f ds ρ1 M1
    | some (.ct, ρ1, M1) => forG ok f ds ρ1 M1
    | some (.bk, ρ1, M1) => some (.nx, ρ1, M1)
    | some (.rt d, ρ1, M1) => some (.rt d, ρ1, M1)
    | none => none
    else none
def whlG (c : Env → Store → R Bool) (f : Env → Store → Option (Out × Env × Store)) : Nat → Env → Store → Option (Out × Env × Store)
  | 0, _, _ => none
  | n + 1, ρ, M => match c ρ M with
    | some (true, M1) => match f ρ M1 with
      | some (.nx, ρ1, M2) => whlG c f n ρ1 M2
      | some (.ct, ρ1, M2) => whlG c f n ρ1 M2
      | some (.bk, ρ1, M2) => some (.nx, ρ1, M2)
      | some (.rt d, ρ1, M2) => some (.rt d, ρ1, M2)
      | none => none
    | some (false, M1) => some (.nx, ρ, M1)
    | none => none

section
variable (Φ : Nat → Fn)
mutual
def evE : E → Env → Store → R D
  | .var i, ρ, M => match ρ[i]? with
    | some (some d) => some (d, M)
    | _ => none
  | .non, _, M => some (.non, M)
  | .bl b, _, M => some (.bl b, M)
  | .int i, _, M => some (.int i, M)
  | .str s, _, M => some (.str s, M)
  | .glob _ d, _, M => some (d, M)
  | .bin o a b, ρ, M => match evE a ρ M with
    | some (x, M1) => match evE b ρ M1 with
      | some (y, M2) => binS o x y M2
      | none => none
    | none => none
  | .neg a, ρ, M => match evE a ρ M with
    | some (.int i, M1) => some (.int (-i), M1)
    | _ => none
  | .nt a, ρ, M => match evE a ρ M with
    | some (x, M1) => (truth M1 x).map fun k => (.bl (!k), M1)
    | none => none
  | .and a b, ρ, M => match evE a ρ M with
    | some (x, M1) => match truth M1 x with
      | some true => evE b ρ M1
      | some false => some (x, M1)
      | none => none
    | none => none
  | .or a b, ρ, M => match evE a ρ M with
    | some (x, M1) => match truth M1 x with
      | some true => some (x, M1)
      | some false => evE b ρ M1
      | none => none
    | none => none
  | .ife c a b, ρ, M => match evE c ρ M with
    | some (x, M1) => match truth M1 x with
      | some true => evE a ρ M1
      | some false => evE b ρ M1
      | none => none
    | none => none
  | .cmp o a b, ρ, M => match evE a ρ M with
    | some (x, M1) => match evE b ρ M1 with
      | some (y, M2) => (cmpS o x y).map fun k => (.bl k, M2)
      | none => none
    | none => none
  | .eqL ne a b, ρ, M => match evQ a ρ M with
    | some (x, M1) => match evQ b ρ M1 with
      | some (y, M2) => match itemsL M2 x, itemsL M2 y with
        | some xs, some ys => if plainDs xs && plainDs ys then some (.bl (if ne then !eqDs xs ys else eqDs xs ys), M2) else none
        | _, _ => none
      | none => none
    | none => none
  | .mem ne x q, ρ, M => match evE x ρ M with
    | some (x, M1) => match evQ q ρ M1 with
      | some (y, M2) => (memS x y M2).map fun k => (.bl (if ne then !k else k), M2)
      | none => none
    | none => none
  | .tup es, ρ, M => match evEs es ρ M with
    | some (ds, M1) => if ds.length ≤ lim then some (.tup ds, M1) else none
    | none => none
  | .ofL l, ρ, M => match evL l ρ M with
    | some (ds, M1) => some (.ref M1.length, M1 ++ [.lst ds])
    | none => none
  | .dctK, _, M => some (.ref M.length, M ++ [.dK []])
  | .dctT, _, M => some (.ref M.length, M ++ [.dT []])
  | .dctC own t it c k v, ρ, M => match evI it ρ M with
    | some (ok, ds, M1) => match dcG ok (fun d M => match asT t d (wipeD ρ (own.map (·.2))) M with
        | some (ρ1, M1) => match evO c ρ1 M1 with
          | some (true, M2) => match evE k ρ1 M2 with
            | some (x, M3) => match evE v ρ1 M3 with
              | some (y, M4) => some (some (x, y), M4)
              | none => none
            | none => none
          | some (false, M2) => some (none, M2)
          | none => none
        | none => none) ds [] M1 with
      | some (kvs, M2) => some (.ref M2.length, M2 ++ [.dK kvs])
      | none => none
    | none => none
  | .idx q i, ρ, M => match evQ q ρ M with
    | some (x, M1) => match evE i ρ M1 with
      | some (y, M2) => (idxS x y M2).map fun d => (d, M2)
      | none => none
    | none => none
  | .slc a lo hi, ρ, M => match evE a ρ M with
    | some (x, M1) => match evP lo ρ M1 with
      | some (l, M2) => match evP hi ρ M2 with
        | some (h, M3) => slcS x l h M3
        | none => none
      | none => none
    | none => none
  | .call f es, ρ, M => match evEs es ρ M with
    | some (ds, M1) => Φ f ds M1
    | none => none
  | .blt b es, ρ, M => match evEs es ρ M with
    | some (ds, M1) => (bltS b ds M1).map fun d => (d, M1)
    | none => none
  | .agg g q, ρ, M => match evQ q ρ M with
    | some (x, M1) => (aggS g x M1).map fun d => (d, M1)
    | none => none
  | .mth m o es, ρ, M => match evE o ρ M with
    | some (x, M1) => if recv m x M1 then match evEs es ρ M1 with
      | some (ds, M2) => mthS m x ds M2
      | none => none
      else none
    | none => none
  | .ext o q, ρ, M => match evE o ρ M with
    | some (x, M1) => if recv .append x M1 then match evQ q ρ M1 with
      | some (y, M2) => extS x y M2
      | none => none
      else none
    | none => none
def evEs : Es → Env → Store → R (List D)
  | .nil, _, M => some ([], M)
  | .cons e es, ρ, M => match evE e ρ M with
    | some (d, M1) => match evEs es ρ M1 with
      | some (ds, M2) => some (d :: ds, M2)
      | none => none
    | none => none
/-- a test that may be left out -/
def evO : O → Env → Store → R Bool
  | .no, _, M => some (true, M)
  | .yes e, ρ, M => match evE e ρ M with
    | some (x, M1) => (truth M1 x).map fun k => (k, M1)
    | none => none
/-- a slice's part -/
def evP : O → Env → Store → R (Option Int)
  | .no, _, M => some (none, M)
  | .yes e, ρ, M => match evE e ρ M with
    | some (.int i, M1) => some (some i, M1)
    | _ => none
def evL : L → Env → Store → R (List D)
  | .disp es, ρ, M => match evEs es ρ M with
    | some (ds, M1) => if ds.length ≤ lim then some (ds, M1) else none
    | none => none
  | .comp own t it c elt, ρ, M => match evI it ρ M with
    | some (ok, ds, M1) => compG ok (fun d M => match asT t d (wipeD ρ (own.map (·.2))) M with
        | some (ρ1, M1) => match evO c ρ1 M1 with
          | some (true, M2) => match evE elt ρ1 M2 with
            | some (y, M3) => some (some y, M3)
            | none => none
          | some (false, M2) => some (none, M2)
          | none => none
        | none => none) ds [] M1
    | none => none
  | .comp2 own vs1 t it c t1 it1 c1 elt, ρ, M => match evI it ρ M with
    | some (ok, ds, M1) => comp2G ok (fun d acc M => match asT t d (wipeD ρ (own.map (·.2))) M with
        | some (ρ1, M1) => match evO c ρ1 M1 with
          | some (true, M2) => match evI it1 ρ1 M2 with
            | some (ok1, ds1, M3) => compG ok1 (fun d M => match asT t1 d (wipeD ρ1 vs1) M with
                | some (ρ2, M1) => match evO c1 ρ2 M1 with
                  | some (true, M2) => match evE elt ρ2 M2 with
                    | some (y, M3) => some (some y, M3)
                    | none => none
                  | some (false, M2) => some (none, M2)
                  | none => none
                | none => none) ds1 acc M3
            | none => none
          | some (false, M2) => some (acc, M2)
          | none => none
        | none => none) ds [] M1
    | none => none
  | .sorted q, ρ, M => match evQ q ρ M with
    | some (x, M1) => (itemsL M1 x).bind fun ds => if plainDs ds then (sortD ds).map fun es => (es, M1) else none
    | none => none
  | .sortedD e, ρ, M => match evE e ρ M with
    | some (.ref n, M1) => match M1[n]? with
      | some (.dK kvs) => if kvs.length < 64 && kvs.all (fun kv => okK kv.1) then (sortD (kvs.map fun kv => dK kv.1)).map fun es => (es, M1) else none
      | _ => none
    | _ => none
  | .sortedSet q, ρ, M => match evQ q ρ M with
    | some (x, M1) => (itemsL M1 x).bind fun ds => if plainDs ds && ds.length < 4000 then (sortD (dedup [] ds)).map fun es => (es, M1) else none
    | none => none
  | .list q, ρ, M => match evQ q ρ M with
    | some (x, M1) => (items M1 x).map fun ds => (ds, M1)
    | none => none
  | .listR a b two, ρ, M => match evE a ρ M with
    | some (.int i, M1) => if two then match evE b ρ M1 with
      | some (.int j, M2) => if rngOk i j && (j - i).toNat ≤ lim then some (rngD i j, M2) else none
      | _ => none
      else if rngOk 0 i && i.toNat ≤ lim then some (rngD 0 i, M1) else none
    | _ => none
  | .slice q lo hi, ρ, M => match evQ q ρ M with
    | some (x, M1) => match evP lo ρ M1 with
      | some (l, M2) => match evP hi ρ M2 with
        | some (h, M3) => (itemsL M3 x).map fun ds => (cutD ds l h, M3)
        | none => none
      | none => none
    | none => none
  | .rev q, ρ, M => match evQ q ρ M with
    | some (x, M1) => (itemsL M1 x).map fun ds => (ds.reverse, M1)
    | none => none
  | .cat a b, ρ, M => match evQ a ρ M with
    | some (x, M1) => match evQ b ρ M1 with
      | some (y, M2) => match itemsW M2 x, itemsW M2 y with
        | some xs, some ys => if xs.length + ys.length ≤ lim then some (xs ++ ys, M2) else none
        | _, _ => none
      | none => none
    | none => none
  | .rep q n, ρ, M => match evQ q ρ M with
    | some (x, M1) => match evE n ρ M1 with
      | some (.int k, M2) => (itemsW M2 x).bind fun xs => if -(9223372036854775808) ≤ k ∧ k < 9223372036854775808 ∧ xs.length * k.toNat ≤ lim then some ((List.replicate k.toNat xs).flatten, M2) else none
      | _ => none
    | none => none
def evQ : Q → Env → Store → R QV
  | .val e, ρ, M => match evE e ρ M with
    | some (d, M1) => some (.val d, M1)
    | none => none
  | .lst l, ρ, M => match evL l ρ M with
    | some (ds, M1) => some (.tmp ds, M1)
    | none => none
/-- what is walked, its items -/
def evI : I → Env → Store → Option ((Store → Bool) × List D × Store)
  | .q q, ρ, M => match evQ q ρ M with
    | some (x, M1) => (items M1 x).map fun ds => (stands x ds, ds, M1)
    | none => none
  | .rng1 a, ρ, M => match evE a ρ M with
    | some (.int i, M1) => if rngOk 0 i then some (fun _ => true, rngD 0 i, M1) else none
    | _ => none
  | .rng2 a b, ρ, M => match evE a ρ M with
    | some (x, M1) => match evE b ρ M1 with
      | some (y, M2) => rng2S x y M2
      | _ => none
    | _ => none
  | .enum q, ρ, M => match evQ q ρ M with
    | some (x, M1) => (itemsL M1 x).map fun ds => (stands x ds, enumD 0 ds, M1)
    | none => none
  | .zip a b, ρ, M => match evQ a ρ M with
    | some (x, M1) => match evQ b ρ M1 with
      | some (y, M2) => zipI x y M2
      | none => none
    | none => none
  | .keys e, ρ, M => none
def asT : T → D → Env → Store → Option (Env × Store)
  | .name i, d, ρ, M => if i < ρ.length then some (ρ.set i (some d), M) else none
  | .tup ts, d, ρ, M => match d with
    | .tup ds => asTs ts ds ρ M
    | _ => none
  | .sub o i, d, ρ, M => match evE o ρ M with
    | some (x, M1) => match evE i ρ M1 with
      | some (y, M2) => (putS x y d M2).map fun M3 => (ρ, M3)
      | none => none
    | none => none
def asTs : Ts → List D → Env → Store → Option (Env × Store)
  | .nil, [], ρ, M => some (ρ, M)
  | .cons t ts, d :: ds, ρ, M => match asT t d ρ M with
    | some (ρ1, M1) => asTs ts ds ρ1 M1
    | none => none
  | _, _, _, _ => none
end
variable (W : Nat)
mutual
def exS : S → Env → Store → Option (Out × Env × Store)
  | .asg t e, ρ, M => match evE Φ e ρ M with
    | some (d, M1) => match asT Φ t d ρ M1 with
      | some (ρ1, M2) => some (.nx, ρ1, M2)
      | none => none
    | none => none
  | .aug i o e, ρ, M => match ρ[i]? with
    | some (some x) => match evE Φ e ρ M with
      | some (y, M1) => match augS o x y M1 with
        | some (z, M2) => some (.nx, ρ.set i (some z), M2)
        | none => none
      | none => none
    | _ => none
  | .augS o i op e, ρ, M => match evE Φ o ρ M with
    | some (x, M1) => match evE Φ i ρ M1 with
      | some (y, M2) => match idxS (.val x) y M2 with
        | some u => match evE Φ e ρ M2 with
          | some (v, M3) => match augS op u v M3 with
            | some (z, M4) => match putS x y z M4 with
              | some M5 => some (.nx, ρ, M5)
              | none => none
            | none => none
          | none => none
        | none => none
      | none => none
    | none => none
  | .ex e, ρ, M => match evE Φ e ρ M with
    | some (_, M1) => some (.nx, ρ, M1)
    | none => none
  | .ife c a b, ρ, M => match evE Φ c ρ M with
    | some (x, M1) => match truth M1 x with
      | some true => exSs a ρ M1
      | some false => exSs b ρ M1
      | none => none
    | none => none
  | .whl c b, ρ, M => whlG (fun ρ M => match evE Φ c ρ M with
      | some (x, M1) => (truth M1 x).map fun k => (k, M1)
      | none => none) (fun ρ M => exSs b ρ M) W ρ M
  | .fr t it b, ρ, M => match evI Φ it ρ M with
    | some (ok, ds, M1) => forG ok (fun d ρ M => match asT Φ t d ρ M with
        | some (ρ1, M1) => exSs b ρ1 M1
        | none => none) ds ρ M1
    | none => none
  | .ret e, ρ, M => match evE Φ e ρ M with
    | some (d, M1) => some (.rt d, ρ, M1)
    | none => none
  | .retN, ρ, M => some (.rt .non, ρ, M)
  | .brk, ρ, M => some (.bk, ρ, M)
  | .cnt, ρ, M => some (.ct, ρ, M)
  | .pass, ρ, M => some (.nx, ρ, M)
def exSs : Ss → Env → Store → Option (Out × Env × Store)
  | .nil, ρ, M => some (.nx, ρ, M)
  | .cons s ss, ρ, M => match exS s ρ M with
    | some (.nx, ρ1, M1) => exSs ss ρ1 M1
    | r => r
end
end

/-! ### a whole text -/
structure FD where
  np : Nat
  nn : Nat
  body : Ss
/-- the elder part of the store: the same, or what holds no new place -/
def okOld (n : Nat) : Store → Store → Bool
  | o :: M, o' :: M' => (decide (o = o') || closedMO n o') && okOld n M M'
  | [], _ => true
  | _ :: _, [] => false
/-- what a call leaves: new things that nothing holds are forgotten -/
def gcRet (M : Store) (d : D) (M' : Store) : D × Store :=
  if okOld M.length M M' then
    if closedD M.length d then (d, M'.take M.length)
    else match d with
      | .ref j => match M'[j]? with
        | some o => if closedMO M.length o then (.ref M.length, M'.take M.length ++ [o]) else (d, M')
        | none => (d, M')
      | _ => (d, M')
  else (d, M')
def runF (fds : List FD) (W : Nat) : Nat → Nat → Fn
  | 0, _, _, _ => none
  | k + 1, f, ds, M => match fds[f]? with
    | none => none
    | some fd => if ds.length = fd.np then
        match exSs (runF fds W k) W fd.body (ds.map some ++ List.replicate (fd.nn - fd.np) none) M with
        | some (.nx, _, M') => some (gcRet M .non M')
        | some (.rt d, _, M') => some (gcRet M d M')
        | _ => none
      else none
end PS

set_option Elab.async false
set_option linter.all false
set_option maxRecDepth 100000
/-! PS2: how the plain data and the store stand in the hand layer's heap. -/
namespace PS
open PySem PySem.Spec PyProof.Rows L2

/-- a list that is read alone: known to the object, or of the module -/
def SqF (K : PySem.W.Frag) (H : Hp) (a : Addr) (xs : List V) : Prop :=
  (∃ o, H a = some (.frz o (.lst xs))) ∨
    ∃ (o : Obj) (its : Array Value) (n : Nat), K.lookup a = some o ∧ o.cls = .type "list" ∧ o.dict = none ∧ o.data = .seq its n ∧ its.size ≤ sizeLine ∧ Vals xs its.toList
theorem SqF.l {K : PySem.W.Frag} {H : Hp} {a : Addr} {xs : List V} (h : SqF K H a xs) : SqL K H a xs := by
  rcases h with ⟨o, h⟩ | h
  · exact .inl (.inr ⟨o, h⟩)
  · exact .inr h

/-- where a place of the store lies: at an address that is written, or only read -/
inductive Place where
  | w (a : Addr) | r (a : Addr)
def Place.ad : Place → Addr
  | .w a => a
  | .r a => a
mutual
/-- the value v stands for the data d -/
def RD (K : PySem.W.Frag) (H : Hp) (L : List Place) : D → V → Prop
  | .non, v => v = .non
  | .bl b, v => v = .bl b
  | .int i, v => v = .int i
  | .str s, v => v = .str s ∧ PyData.strOk s = true
  | .tup ds, v => ∃ a xs, v = .ref a ∧ SqT K H a xs ∧ RDs K H L ds xs
  | .ref n, v => ∃ sl, L[n]? = some sl ∧ v = .ref sl.ad
def RDs (K : PySem.W.Frag) (H : Hp) (L : List Place) : List D → List V → Prop
  | [], xs => xs = []
  | d :: ds, xs => ∃ v vs, xs = v :: vs ∧ RD K H L d v ∧ RDs K H L ds vs
end
def RKs {κ : Type} (K : PySem.W.Frag) (H : Hp) (L : List Place) (kvs : List (κ × D)) (ks : List (κ × V)) : Prop := Paired (fun p q => p.1 = q.1 ∧ RD K H L p.2 q.2) kvs ks
def RO (K : PySem.W.Frag) (H : Hp) (L : List Place) : Place → MO → Prop
  | .w a, .lst ds => ∃ xs, H a = some (.lst xs) ∧ RDs K H L ds xs
  | .r a, .frz ds => ∃ xs, SqF K H a xs ∧ RDs K H L ds xs
  | .w a, .dK kvs => ∃ ks, H a = some (.dK ks) ∧ RKs K H L kvs ks
  | .w a, .dT kvs => ∃ ks, H a = some (.dT ks) ∧ RKs K H L kvs ks
  | _, _ => False
structure Rep (K : PySem.W.Frag) (H : Hp) (L : List Place) (M : Store) : Prop where
  len : L.length = M.length
  ob : ∀ (n : Nat) (sl : Place) (o : MO), L[n]? = some sl → M[n]? = some o → RO K H L sl o
  inj : ∀ (n m : Nat) (a : Addr), L[n]? = some (.w a) → L[m]? = some (.w a) → n = m
structure Grow (H H' : Hp) (L L' : List Place) : Prop where
  pre : ∃ t, L' = L ++ t
  keep : ∀ a o, H a = some o → Place.w a ∉ L → H' a = some o
  tups : ∀ a xs, H a = some (.tup xs) → H' a = some (.tup xs)
  frzs : ∀ a o u, H a = some (.frz o u) → H' a = some (.frz o u)
  new : ∀ a, Place.w a ∈ L' → Place.w a ∉ L → H a = none
structure RE (K : PySem.W.Frag) (H : Hp) (L : List Place) (ρ : Env) (σ : L2.St) : Prop where
  len : ρ.length = σ.length
  at_ : ∀ (i : Nat) (d : D), ρ[i]? = some (some d) → ∃ v, σ[i]? = some (some v) ∧ RD K H L d v

section
variable {K : PySem.W.Frag} {H H1 H2 H' : Hp} {L L1 LB L' : List Place} {M M' : Store} {ρ : Env} {σ : L2.St}
theorem Grow.refl (H : Hp) (L : List Place) : Grow H H L L := ⟨⟨[], by simp⟩, fun _ _ e _ => e, fun _ _ e => e, fun _ _ _ e => e, fun _ h n => absurd h n⟩
theorem Grow.mem (g : Grow H H1 L L1) {a : Place} (h : a ∈ L) : a ∈ L1 := by
  obtain ⟨t, e⟩ := g.pre
  rw [e]
  exact List.mem_append_left _ h
theorem Grow.notin (g : Grow H H1 L L1) {a : Addr} {o : HO} (e : H a = some o) (h : Place.w a ∉ L) : Place.w a ∉ L1 := fun h1 => by
  have := g.new a h1 h
  rw [e] at this
  cases this
theorem Grow.trans (g : Grow H H1 L L1) (g2 : Grow H1 H2 L1 LB) : Grow H H2 L LB where
  pre := by
    obtain ⟨t, e⟩ := g.pre
    obtain ⟨u, e2⟩ := g2.pre
    exact ⟨t ++ u, by rw [e2, e, List.append_assoc]⟩
  keep := fun a o e n => g2.keep a o (g.keep a o e n) (g.notin e n)
  tups := fun a xs e => g2.tups a xs (g.tups a xs e)
  frzs := fun a o u e => g2.frzs a o u (g.frzs a o u e)
  new := fun a h n => by
    by_cases h1 : Place.w a ∈ L1
    · exact g.new a h1 n
    · have e := g2.new a h h1
      cases q : H a with
      | none => rfl
      | some o =>
        rw [g.keep a o q n] at e
        cases e
theorem Grow.ix (g : Grow H H1 L L1) {n : Nat} {a : Place} (e : L[n]? = some a) : L1[n]? = some a := by
  obtain ⟨t, q⟩ := g.pre
  rw [q, List.getElem?_append_left (List.getElem?_eq_some_iff.mp e).1]
  exact e
theorem SqT.grow (g : Grow H H1 L L1) {a : Addr} {xs : List V} (h : SqT K H a xs) : SqT K H1 a xs := by
  rcases h with (h | ⟨o, h⟩) | h
  · exact .inl (.inl (g.tups a xs h))
  · exact .inl (.inr ⟨o, g.frzs a o _ h⟩)
  · exact .inr h
theorem SqF.grow (g : Grow H H1 L L1) {a : Addr} {xs : List V} (h : SqF K H a xs) : SqF K H1 a xs := by
  rcases h with ⟨o, h⟩ | h
  · exact .inl ⟨o, g.frzs a o _ h⟩
  · exact .inr h
/-- what values lean on -/
structure Ext (H H' : Hp) (L L' : List Place) : Prop where
  pre : ∃ t, L' = L ++ t
  tups : ∀ a xs, H a = some (.tup xs) → H' a = some (.tup xs)
  frzs : ∀ a o u, H a = some (.frz o u) → H' a = some (.frz o u)
theorem Grow.ext (g : Grow H H1 L L1) : Ext H H1 L L1 := ⟨g.pre, g.tups, g.frzs⟩
theorem Ext.ix (g : Ext H H1 L L1) {n : Nat} {a : Place} (e : L[n]? = some a) : L1[n]? = some a := by
  obtain ⟨t, q⟩ := g.pre
  rw [q, List.getElem?_append_left (List.getElem?_eq_some_iff.mp e).1]
  exact e
mutual
theorem RD.ext (g : Ext H H1 L L1) : ∀ (d : D) (v : V), RD K H L d v → RD K H1 L1 d v
  | .non, _, h => h
  | .bl _, _, h => h
  | .int _, _, h => h
  | .str _, _, h => h
  | .tup ds, v, h => by
    obtain ⟨a, xs, e, h1, h2⟩ := h
    refine ⟨a, xs, e, ?_, RDs.ext g ds xs h2⟩
    rcases h1 with (h | ⟨o, h⟩) | h
    · exact .inl (.inl (g.tups a xs h))
    · exact .inl (.inr ⟨o, g.frzs a o _ h⟩)
    · exact .inr h
  | .ref n, v, h => by
    obtain ⟨a, e, h1⟩ := h
    exact ⟨a, g.ix e, h1⟩
theorem RDs.ext (g : Ext H H1 L L1) : ∀ (ds : List D) (xs : List V), RDs K H L ds xs → RDs K H1 L1 ds xs
  | [], _, h => h
  | d :: ds, xs, h => by
    obtain ⟨v, vs, e, h1, h2⟩ := h
    exact ⟨v, vs, e, RD.ext g d v h1, RDs.ext g ds vs h2⟩
end
theorem RKs.ext {κ : Type} (g : Ext H H1 L L1) {kvs : List (κ × D)} {ks : List (κ × V)} (h : RKs K H L kvs ks) : RKs K H1 L1 kvs ks :=
  Paired.mapP h fun p q r => ⟨r.1, RD.ext g p.2 q.2 r.2⟩
theorem RE.ext (g : Ext H H1 L L1) (h : RE K H L ρ σ) : RE K H1 L1 ρ σ := ⟨h.len, fun i d e => by
  obtain ⟨v, e1, r⟩ := h.at_ i d e
  exact ⟨v, e1, RD.ext g d v r⟩⟩
mutual
theorem RD.mono (g : Grow H H1 L L1) : ∀ (d : D) (v : V), RD K H L d v → RD K H1 L1 d v
  | .non, _, h => h
  | .bl _, _, h => h
  | .int _, _, h => h
  | .str _, _, h => h
  | .tup ds, v, h => by
    obtain ⟨a, xs, e, h1, h2⟩ := h
    exact ⟨a, xs, e, SqT.grow g h1, RDs.mono g ds xs h2⟩
  | .ref n, v, h => by
    obtain ⟨a, e, h1⟩ := h
    exact ⟨a, g.ix e, h1⟩
theorem RDs.mono (g : Grow H H1 L L1) : ∀ (ds : List D) (xs : List V), RDs K H L ds xs → RDs K H1 L1 ds xs
  | [], _, h => h
  | d :: ds, xs, h => by
    obtain ⟨v, vs, e, h1, h2⟩ := h
    exact ⟨v, vs, e, RD.mono g d v h1, RDs.mono g ds vs h2⟩
end
theorem RE.mono (g : Grow H H1 L L1) (h : RE K H L ρ σ) : RE K H1 L1 ρ σ := ⟨h.len, fun i d e => by
  obtain ⟨v, e1, r⟩ := h.at_ i d e
  exact ⟨v, e1, RD.mono g d v r⟩⟩
theorem RKs.mono {κ : Type} (g : Grow H H1 L L1) {kvs : List (κ × D)} {ks : List (κ × V)} (h : RKs K H L kvs ks) : RKs K H1 L1 kvs ks :=
  Paired.mapP h fun p q r => ⟨r.1, RD.mono g p.2 q.2 r.2⟩
theorem RDs.length : ∀ {ds : List D} {xs : List V}, RDs K H L ds xs → ds.length = xs.length
  | [], _, h => by rw [show _ = [] from h]; rfl
  | d :: ds, xs, h => by
    obtain ⟨v, vs, rfl, h1, h2⟩ := h
    simp [RDs.length h2]
theorem RDs.get : ∀ {ds : List D} {xs : List V} {i : Nat} {d : D}, RDs K H L ds xs → ds[i]? = some d → ∃ v, xs[i]? = some v ∧ RD K H L d v
  | d :: ds, xs, 0, e, h, q => by
    obtain ⟨v, vs, rfl, h1, h2⟩ := h
    simp at q
    subst q
    exact ⟨v, rfl, h1⟩
  | d :: ds, xs, i + 1, e, h, q => by
    obtain ⟨v, vs, rfl, h1, h2⟩ := h
    obtain ⟨w, q1, q2⟩ := RDs.get (i := i) h2 (by simpa using q)
    exact ⟨w, by simpa using q1, q2⟩
theorem RDs.append : ∀ {ds es : List D} {xs ys : List V}, RDs K H L ds xs → RDs K H L es ys → RDs K H L (ds ++ es) (xs ++ ys)
  | [], es, xs, ys, h, h' => by
    have e : xs = [] := h
    subst e
    exact h'
  | d :: ds, es, xs, ys, h, h' => by
    obtain ⟨v, vs, rfl, h1, h2⟩ := h
    exact ⟨v, vs ++ ys, rfl, h1, RDs.append h2 h'⟩
theorem RDs.one {d : D} {v : V} (h : RD K H L d v) : RDs K H L [d] [v] := ⟨v, [], rfl, h, rfl⟩
theorem RDs.set : ∀ {ds : List D} {xs : List V} (i : Nat) {d : D} {v : V}, RDs K H L ds xs → RD K H L d v → RDs K H L (ds.set i d) (xs.set i v)
  | [], xs, i, d, v, h, _ => by
    have e : xs = [] := h
    subst e
    simp [RDs]
  | e :: ds, xs, 0, d, v, h, r => by
    obtain ⟨u, vs, rfl, h1, h2⟩ := h
    exact ⟨v, vs, rfl, r, h2⟩
  | e :: ds, xs, i + 1, d, v, h, r => by
    obtain ⟨u, vs, rfl, h1, h2⟩ := h
    exact ⟨u, _, rfl, h1, RDs.set i h2 r⟩
theorem RDs.take : ∀ {ds : List D} {xs : List V} (n : Nat), RDs K H L ds xs → RDs K H L (ds.take n) (xs.take n)
  | ds, xs, 0, _ => by simp [RDs]
  | [], xs, n + 1, h => by
    have e : xs = [] := h
    subst e
    simp [RDs]
  | d :: ds, xs, n + 1, h => by
    obtain ⟨v, vs, rfl, h1, h2⟩ := h
    exact ⟨v, _, rfl, h1, RDs.take n h2⟩
theorem RDs.drop : ∀ {ds : List D} {xs : List V} (n : Nat), RDs K H L ds xs → RDs K H L (ds.drop n) (xs.drop n)
  | ds, xs, 0, h => by simpa using h
  | [], xs, n + 1, h => by
    have e : xs = [] := h
    subst e
    simp [RDs]
  | d :: ds, xs, n + 1, h => by
    obtain ⟨v, vs, rfl, h1, h2⟩ := h
    exact RDs.drop n h2
theorem RDs.eraseIdx : ∀ {ds : List D} {xs : List V} (n : Nat), RDs K H L ds xs → RDs K H L (ds.eraseIdx n) (xs.eraseIdx n)
  | [], xs, n, h => by
    have e : xs = [] := h
    subst e
    simp [RDs]
  | d :: ds, xs, 0, h => by
    obtain ⟨v, vs, rfl, h1, h2⟩ := h
    exact h2
  | d :: ds, xs, n + 1, h => by
    obtain ⟨v, vs, rfl, h1, h2⟩ := h
    exact ⟨v, _, rfl, h1, RDs.eraseIdx n h2⟩
theorem RDs.dropLast {ds : List D} {xs : List V} (h : RDs K H L ds xs) : RDs K H L ds.dropLast xs.dropLast := by
  rw [List.dropLast_eq_take, List.dropLast_eq_take, h.length]
  exact h.take _
theorem RDs.reverse : ∀ {ds : List D} {xs : List V}, RDs K H L ds xs → RDs K H L ds.reverse xs.reverse
  | [], xs, h => by
    have e : xs = [] := h
    subst e
    simp [RDs]
  | d :: ds, xs, h => by
    obtain ⟨v, vs, rfl, h1, h2⟩ := h
    rw [List.reverse_cons, List.reverse_cons]
    exact RDs.append (RDs.reverse h2) (RDs.one h1)
theorem RDs.rep {ds : List D} {xs : List V} (h : RDs K H L ds xs) : ∀ k : Nat, RDs K H L (List.replicate k ds).flatten (List.replicate k xs).flatten
  | 0 => by simp [RDs]
  | k + 1 => by
    rw [List.replicate_succ, List.replicate_succ, List.flatten_cons, List.flatten_cons]
    exact RDs.append h (RDs.rep h k)
theorem RDs.cut {ds : List D} {xs : List V} (h : RDs K H L ds xs) (lo hi : Option Int) : RDs K H L (cutD ds lo hi) (cutV xs lo hi) := by
  unfold cutD cutV
  rw [h.length]
  exact (h.drop _).take _
theorem RDs.snoc {ds : List D} {xs : List V} {d : D} {v : V} (h : RDs K H L ds xs) (r : RD K H L d v) : RDs K H L (ds ++ [d]) (xs ++ [v]) := h.append (RDs.one r)
theorem RDs.atI {ds : List D} {xs : List V} {i : Int} {d : D} (h : RDs K H L ds xs) (e : L2.atI ds i = some d) : ∃ v, L2.atI xs i = some v ∧ RD K H L d v := by
  unfold L2.atI at e ⊢
  rw [h.length] at e
  cases q : ixN xs.length i with
  | none =>
    rw [q] at e
    cases e
  | some j =>
    rw [q] at e
    exact h.get e

theorem RO.mut {a : Addr} {o : MO} (h : RO K H L (.w a) o) : ∃ ho, H a = some ho ∧ (∀ xs, ho ≠ .tup xs) ∧ ∀ ob u, ho ≠ .frz ob u := by
  cases o with
  | lst ds => obtain ⟨xs, h, _⟩ := h; exact ⟨_, h, fun _ => (fun q => nomatch q), fun _ _ => (fun q => nomatch q)⟩
  | frz ds => exact h.elim
  | dK ds => obtain ⟨xs, h, _⟩ := h; exact ⟨_, h, fun _ => (fun q => nomatch q), fun _ _ => (fun q => nomatch q)⟩
  | dT ds => obtain ⟨xs, h, _⟩ := h; exact ⟨_, h, fun _ => (fun q => nomatch q), fun _ _ => (fun q => nomatch q)⟩
/-- a place's object as it stands when the heap grows, its own address apart -/
theorem RO.mono (g : Grow H H1 L L1) {sl : Place} {o : MO} (h : RO K H L sl o) (ha : ∀ a, sl = .w a → H1 a = H a) : RO K H1 L1 sl o := by
  cases sl with
  | w a =>
    cases o with
    | lst ds => obtain ⟨xs, h, r⟩ := h; exact ⟨xs, (ha a rfl).trans h, RDs.mono g ds xs r⟩
    | frz ds => exact h.elim
    | dK ds => obtain ⟨xs, h, r⟩ := h; exact ⟨xs, (ha a rfl).trans h, r.mono g⟩
    | dT ds => obtain ⟨xs, h, r⟩ := h; exact ⟨xs, (ha a rfl).trans h, r.mono g⟩
  | r a =>
    cases o with
    | frz ds => obtain ⟨xs, h, r⟩ := h; exact ⟨xs, h.grow g, RDs.mono g ds xs r⟩
    | lst ds => exact h.elim
    | dK ds => exact h.elim
    | dT ds => exact h.elim
theorem Rep.there {n : Nat} {o : MO} (r : Rep K H L M) (e : M[n]? = some o) : ∃ a, L[n]? = some a := by
  have h := (List.getElem?_eq_some_iff.mp e).1
  rw [← r.len] at h
  exact ⟨L[n], List.getElem?_eq_getElem h⟩
theorem Rep.fit {n : Nat} {a : Place} (r : Rep K H L M) (e : L[n]? = some a) : ∃ o, M[n]? = some o := by
  have h := (List.getElem?_eq_some_iff.mp e).1
  rw [r.len] at h
  exact ⟨M[n], List.getElem?_eq_getElem h⟩
/-- a new address is no place -/
theorem Rep.free {p : Addr} (r : Rep K H L M) (h : H p = none) : Place.w p ∉ L := fun hm => by
  obtain ⟨n, hn, e⟩ := List.getElem_of_mem hm
  have e1 : L[n]? = some (.w p) := by rw [List.getElem?_eq_getElem hn, e]
  obtain ⟨o, e2⟩ := r.fit e1
  obtain ⟨ho, q, _⟩ := (r.ob n _ o e1 e2).mut
  rw [h] at q
  cases q
/-- nothing of ours is changed -/
theorem Grow.fresh {p : Addr} {o : HO} (h : H p = none) : Grow H (upd H p o) L L where
  pre := ⟨[], by simp⟩
  keep := fun a u e _ => by rw [upd_ne (ne_of_none e h)]; exact e
  tups := fun a u e => by rw [upd_ne (ne_of_none e h)]; exact e
  frzs := fun a u x e => by rw [upd_ne (ne_of_none e h)]; exact e
  new := fun a h n => absurd h n
theorem Rep.fresh {p : Addr} {o : HO} (h : H p = none) (r : Rep K H L M) : Rep K (upd H p o) L M where
  len := r.len
  ob := fun n sl u e1 e2 => (r.ob n sl u e1 e2).mono (Grow.fresh h) fun a w => by
    subst w
    exact upd_ne fun z => r.free h (by rw [← z]; exact List.mem_of_getElem? e1)
  inj := r.inj
/-- a new place -/
theorem Grow.alloc {p : Addr} {o : HO} (h : H p = none) : Grow H (upd H p o) L (L ++ [.w p]) where
  pre := ⟨[.w p], rfl⟩
  keep := fun a u e _ => by rw [upd_ne (ne_of_none e h)]; exact e
  tups := fun a u e => by rw [upd_ne (ne_of_none e h)]; exact e
  frzs := fun a u x e => by rw [upd_ne (ne_of_none e h)]; exact e
  new := fun a h1 n => by
    rcases List.mem_append.mp h1 with h1 | h1
    · exact absurd h1 n
    · have z := List.mem_singleton.mp h1
      cases z
      exact h
/-- the address p, tracked and no place so far, becomes a place (H0: the heap in which it was new) -/
theorem Grow.take {p : Addr} (g : Grow H H1 L L1) (h : H p = none) : Grow H H1 L (L1 ++ [.w p]) where
  pre := by
    obtain ⟨t, e⟩ := g.pre
    exact ⟨t ++ [.w p], by rw [e, List.append_assoc]⟩
  keep := g.keep
  tups := g.tups
  frzs := g.frzs
  new := fun a h1 n => by
    rcases List.mem_append.mp h1 with h1 | h1
    · exact g.new a h1 n
    · have z := List.mem_singleton.mp h1
      cases z
      exact h
mutual
theorem RD.pre {t : List Place} : ∀ (d : D) (v : V), RD K H L d v → RD K H (L ++ t) d v
  | .non, _, h => h
  | .bl _, _, h => h
  | .int _, _, h => h
  | .str _, _, h => h
  | .tup ds, v, h => by
    obtain ⟨a, xs, e, h1, h2⟩ := h
    exact ⟨a, xs, e, h1, RDs.pre ds xs h2⟩
  | .ref n, v, h => by
    obtain ⟨a, e, h1⟩ := h
    exact ⟨a, by rw [List.getElem?_append_left (List.getElem?_eq_some_iff.mp e).1]; exact e, h1⟩
theorem RDs.pre {t : List Place} : ∀ (ds : List D) (xs : List V), RDs K H L ds xs → RDs K H (L ++ t) ds xs
  | [], _, h => h
  | d :: ds, xs, h => by
    obtain ⟨v, vs, e, h1, h2⟩ := h
    exact ⟨v, vs, e, RD.pre d v h1, RDs.pre ds vs h2⟩
end
theorem RKs.pre {κ : Type} {t : List Place} {kvs : List (κ × D)} {ks : List (κ × V)} (h : RKs K H L kvs ks) : RKs K H (L ++ t) kvs ks :=
  Paired.mapP h fun p q r => ⟨r.1, RD.pre p.2 q.2 r.2⟩
theorem RO.pre {t : List Place} {sl : Place} {o : MO} (h : RO K H L sl o) : RO K H (L ++ t) sl o := by
  cases sl with
  | w a =>
    cases o with
    | lst ds => obtain ⟨xs, h, r⟩ := h; exact ⟨xs, h, RDs.pre ds xs r⟩
    | frz ds => exact h.elim
    | dK ds => obtain ⟨xs, h, r⟩ := h; exact ⟨xs, h, r.pre⟩
    | dT ds => obtain ⟨xs, h, r⟩ := h; exact ⟨xs, h, r.pre⟩
  | r a =>
    cases o with
    | frz ds => obtain ⟨xs, h, r⟩ := h; exact ⟨xs, h, RDs.pre ds xs r⟩
    | lst ds => exact h.elim
    | dK ds => exact h.elim
    | dT ds => exact h.elim
theorem RE.pre {t : List Place} (h : RE K H L ρ σ) : RE K H (L ++ t) ρ σ := ⟨h.len, fun i d e => by
  obtain ⟨v, e1, r⟩ := h.at_ i d e
  exact ⟨v, e1, RD.pre d v r⟩⟩
/-- the tracked address p, no place so far, becomes a place -/
theorem Rep.take {p : Addr} {o : MO} (r : Rep K H L M) (hn : Place.w p ∉ L) (h : RO K H L (.w p) o) : Rep K H (L ++ [.w p]) (M ++ [o]) where
  len := by simp [r.len]
  ob := fun n a u e1 e2 => by
    by_cases q : n < L.length
    · rw [List.getElem?_append_left q] at e1
      rw [List.getElem?_append_left (by rw [← r.len]; exact q)] at e2
      exact (r.ob n a u e1 e2).pre
    · have hl : n = L.length := by
        have := (List.getElem?_eq_some_iff.mp e1).1
        simp at this
        omega
      subst hl
      rw [List.getElem?_append_right (Nat.le_refl _)] at e1
      rw [List.getElem?_append_right (by rw [r.len]; exact Nat.le_refl _), r.len] at e2
      simp at e1 e2
      subst e1 e2
      exact h.pre
  inj := fun n m a e1 e2 => by
    have lt : ∀ {n : Nat}, (L ++ [.w p])[n]? = some (.w a) → n ≠ L.length → L[n]? = some (.w a) := fun {n} e q => by
      have h1 := (List.getElem?_eq_some_iff.mp e).1
      simp at h1
      rw [List.getElem?_append_left (by omega)] at e
      exact e
    have at_ : ∀ {n : Nat}, (L ++ [.w p])[n]? = some (.w a) → n = L.length → a = p := fun {n} e q => by
      subst q
      rw [List.getElem?_append_right (Nat.le_refl _)] at e
      simp at e
      exact e.symm
    by_cases q1 : n = L.length
    · by_cases q2 : m = L.length
      · rw [q1, q2]
      · have ea := at_ e1 q1
        have e2' := lt e2 q2
        rw [ea] at e2'
        exact absurd (List.mem_of_getElem? e2') hn
    · by_cases q2 : m = L.length
      · have ea := at_ e2 q2
        have e1' := lt e1 q1
        rw [ea] at e1'
        exact absurd (List.mem_of_getElem? e1') hn
      · exact r.inj n m a (lt e1 q1) (lt e2 q2)
/-- a place is written -/
theorem Grow.write {n : Nat} {a : Addr} {ho : HO} (r : Rep K H L M) (e : L[n]? = some (.w a)) : Grow H (upd H a ho) L L := by
  obtain ⟨o, e2⟩ := r.fit e
  obtain ⟨h0, q, q1, q2⟩ := (r.ob n _ o e e2).mut
  refine ⟨⟨[], by simp⟩, fun b u eb hb => ?_, fun b xs eb => ?_, fun b ob u eb => ?_, fun b h n => absurd h n⟩
  · rw [upd_ne (fun z => hb (by rw [z]; exact List.mem_of_getElem? e))]
    exact eb
  · rw [upd_ne (fun z => by rw [z, q] at eb; exact q1 xs (Option.some.inj eb))]
    exact eb
  · rw [upd_ne (fun z => by rw [z, q] at eb; exact q2 ob u (Option.some.inj eb))]
    exact eb
theorem Rep.write {n : Nat} {a : Addr} {o' : MO} {ho : HO} (r : Rep K H L M) (e : L[n]? = some (.w a)) (h : RO K (upd H a ho) L (.w a) o') : Rep K (upd H a ho) L (M.set n o') where
  len := by simp [r.len]
  ob := fun m sl u e3 e4 => by
    by_cases q : m = n
    · subst q
      rw [e] at e3
      cases e3
      obtain ⟨o, e2⟩ := r.fit e
      rw [List.getElem?_set_self (List.getElem?_eq_some_iff.mp e2).1] at e4
      cases e4
      exact h
    · rw [List.getElem?_set_ne (fun z => q z.symm)] at e4
      refine (r.ob m sl u e3 e4).mono (Grow.write r e) fun b wu => upd_ne fun z => q ?_
      subst wu
      rw [z] at e3
      exact r.inj m n a e3 e
  inj := r.inj
/-- a list that is no place is written -/
def isMu : HO → Bool
  | .lst _ => true
  | .dK _ => true
  | .ext _ => true
  | _ => false
theorem Ext.tmp {p : Addr} {o o' : HO} (h : H p = some o) (hm : isMu o = true) : Ext H (upd H p o') L L where
  pre := ⟨[], by simp⟩
  tups := fun a u e => by rw [upd_ne (fun z => by rw [z, h] at e; cases e; cases hm)]; exact e
  frzs := fun a u x e => by rw [upd_ne (fun z => by rw [z, h] at e; cases e; cases hm)]; exact e
theorem Rep.tmp {p : Addr} {o o' : HO} (h : H p = some o) (hm : isMu o = true) (hn : Place.w p ∉ L) (r : Rep K H L M) : Rep K (upd H p o') L M where
  len := r.len
  ob := fun n sl u e1 e2 => by
    have z := r.ob n sl u e1 e2
    have x : Ext H (upd H p o') L L := Ext.tmp h hm
    cases sl with
    | w a =>
      have ne : a ≠ p := fun q => hn (by rw [← q]; exact List.mem_of_getElem? e1)
      cases u with
      | lst ds => obtain ⟨xs, h, r⟩ := z; exact ⟨xs, (upd_ne ne).trans h, RDs.ext x ds xs r⟩
      | frz ds => exact z.elim
      | dK ds => obtain ⟨xs, h, r⟩ := z; exact ⟨xs, (upd_ne ne).trans h, r.ext x⟩
      | dT ds => obtain ⟨xs, h, r⟩ := z; exact ⟨xs, (upd_ne ne).trans h, r.ext x⟩
    | r a =>
      cases u with
      | frz ds =>
        obtain ⟨xs, q, r⟩ := z
        refine ⟨xs, ?_, RDs.ext x ds xs r⟩
        rcases q with ⟨o, q⟩ | q
        · exact .inl ⟨o, x.frzs a o _ q⟩
        · exact .inr q
      | lst ds => exact z.elim
      | dK ds => exact z.elim
      | dT ds => exact z.elim
  inj := r.inj
theorem Grow.tmp {p : Addr} {o : HO} (g : Grow H H1 L L1) (h : H p = none) : Grow H (upd H1 p o) L L1 where
  pre := g.pre
  keep := fun a u e n => by rw [upd_ne (ne_of_none e h)]; exact g.keep a u e n
  tups := fun a u e => by rw [upd_ne (ne_of_none e h)]; exact g.tups a u e
  frzs := fun a u x e => by rw [upd_ne (ne_of_none e h)]; exact g.frzs a u x e
  new := g.new
/-- what is new now was new before -/
theorem Grow.none {p : Addr} (g : Grow H H1 L L1) (r : Rep K H1 L1 M) (h : H1 p = none) : H p = none := by
  cases z : H p with
  | none => rfl
  | some o =>
    by_cases hm : Place.w p ∈ L
    · exact absurd (g.mem hm) (r.free h)
    · have := g.keep p o z hm
      rw [h] at this
      cases this
end
end PS

set_option Elab.async false
set_option linter.all false
set_option maxRecDepth 100000
set_option maxHeartbeats 4000000
/-! PS3: the operations by values keep what the evaluator says. -/
namespace PS
open PySem PySem.Spec PyProof.Rows L2

/-- behind a step: the value stands for d, the store is M' -/
def Fin1 (K : PySem.W.Frag) (H : Hp) (L : List Place) (M' : Store) (d : D) (Q : VK) : Prop :=
  ∀ v H' L', Grow H H' L L' → Rep K H' L' M' → RD K H' L' d v → Q v H'
section
variable {K : PySem.W.Frag} {H H1 H' : Hp} {L L1 L' : List Place} {M M' : Store} {d : D} {v : V} {Q : VK}
theorem Fin1.here (f : Fin1 K H L M d Q) (r : Rep K H L M) (h : RD K H L d v) : Q v H := f v H L (Grow.refl H L) r h
theorem Fin1.later (f : Fin1 K H L M' d Q) (g : Grow H H1 L L1) : Fin1 K H1 L1 M' d Q := fun v H' L' g' r h => f v H' L' (g.trans g') r h
/-- a new list -/
theorem Fin1.list {ds : List D} {xs : List V} {p : Addr} (f : Fin1 K H L (M ++ [.lst ds]) (.ref M.length) Q) (r : Rep K H L M) (h : RDs K H L ds xs) (hp : H p = none) : Q (.ref p) (upd H p (.lst xs)) := by
  have g : Grow H (upd H p (.lst xs)) L (L ++ [.w p]) := Grow.alloc hp
  have g0 : Grow H (upd H p (.lst xs)) L L := Grow.fresh hp
  refine f _ _ _ g ((Rep.fresh hp r).take (r.free hp) ⟨xs, upd_same, RDs.mono g0 ds xs h⟩) ⟨.w p, ?_, rfl⟩
  rw [← r.len, List.getElem?_append_right (Nat.le_refl _)]
  simp
theorem Fin1.dictK {kvs : List (Key × D)} {ks : List (Key × V)} {p : Addr} (f : Fin1 K H L (M ++ [.dK kvs]) (.ref M.length) Q) (r : Rep K H L M) (h : RKs K H L kvs ks) (hp : H p = none) : Q (.ref p) (upd H p (.dK ks)) := by
  have g : Grow H (upd H p (.dK ks)) L (L ++ [.w p]) := Grow.alloc hp
  have g0 : Grow H (upd H p (.dK ks)) L L := Grow.fresh hp
  refine f _ _ _ g ((Rep.fresh hp r).take (r.free hp) ⟨ks, upd_same, h.mono g0⟩) ⟨.w p, ?_, rfl⟩
  rw [← r.len, List.getElem?_append_right (Nat.le_refl _)]
  simp
theorem Fin1.dictT {kvs : List (List Key × D)} {ks : List (List Key × V)} {p : Addr} (f : Fin1 K H L (M ++ [.dT kvs]) (.ref M.length) Q) (r : Rep K H L M) (h : RKs K H L kvs ks) (hp : H p = none) : Q (.ref p) (upd H p (.dT ks)) := by
  have g : Grow H (upd H p (.dT ks)) L (L ++ [.w p]) := Grow.alloc hp
  have g0 : Grow H (upd H p (.dT ks)) L L := Grow.fresh hp
  refine f _ _ _ g ((Rep.fresh hp r).take (r.free hp) ⟨ks, upd_same, h.mono g0⟩) ⟨.w p, ?_, rfl⟩
  rw [← r.len, List.getElem?_append_right (Nat.le_refl _)]
  simp
/-- a new tuple -/
theorem Fin1.tuple {ds : List D} {xs : List V} {p : Addr} (f : Fin1 K H L M (.tup ds) Q) (r : Rep K H L M) (h : RDs K H L ds xs) (hp : H p = none) : Q (.ref p) (upd H p (.tup xs)) := by
  have g0 : Grow H (upd H p (.tup xs)) L L := Grow.fresh hp
  exact f _ _ _ g0 (Rep.fresh hp r) ⟨p, xs, rfl, .inl (.inl upd_same), RDs.mono g0 ds xs h⟩
theorem list_of {n : Nat} {ds : List D} (r : Rep K H L M) (e : M[n]? = some (.lst ds)) : ∃ a xs, L[n]? = some (.w a) ∧ H a = some (.lst xs) ∧ RDs K H L ds xs := by
  obtain ⟨sl, e1⟩ := r.there e
  have h := r.ob n sl _ e1 e
  cases sl with
  | w a => obtain ⟨xs, h1, h2⟩ := h; exact ⟨a, xs, e1, h1, h2⟩
  | r a => exact h.elim
theorem dK_of {n : Nat} {ds : List (Key × D)} (r : Rep K H L M) (e : M[n]? = some (.dK ds)) : ∃ a xs, L[n]? = some (.w a) ∧ H a = some (.dK xs) ∧ RKs K H L ds xs := by
  obtain ⟨sl, e1⟩ := r.there e
  have h := r.ob n sl _ e1 e
  cases sl with
  | w a => obtain ⟨xs, h1, h2⟩ := h; exact ⟨a, xs, e1, h1, h2⟩
  | r a => exact h.elim
theorem dT_of {n : Nat} {ds : List (List Key × D)} (r : Rep K H L M) (e : M[n]? = some (.dT ds)) : ∃ a xs, L[n]? = some (.w a) ∧ H a = some (.dT xs) ∧ RKs K H L ds xs := by
  obtain ⟨sl, e1⟩ := r.there e
  have h := r.ob n sl _ e1 e
  cases sl with
  | w a => obtain ⟨xs, h1, h2⟩ := h; exact ⟨a, xs, e1, h1, h2⟩
  | r a => exact h.elim
theorem frz_of {n : Nat} {ds : List D} (r : Rep K H L M) (e : M[n]? = some (.frz ds)) : ∃ a xs, L[n]? = some (.r a) ∧ SqF K H a xs ∧ RDs K H L ds xs := by
  obtain ⟨sl, e1⟩ := r.there e
  have h := r.ob n sl _ e1 e
  cases sl with
  | r a => obtain ⟨xs, h1, h2⟩ := h; exact ⟨a, xs, e1, h1, h2⟩
  | w a => exact h.elim
/-- a list that is read -/
theorem listAt_of {n : Nat} {ds : List D} (r : Rep K H L M) (e : listAt M n = some ds) (h : RD K H L (.ref n) v) : ∃ a xs, v = .ref a ∧ SqL K H a xs ∧ RDs K H L ds xs := by
  obtain ⟨sl, e1, rfl⟩ := h
  unfold listAt at e
  split at e
  · rename_i ds' q
    cases e
    obtain ⟨a, xs, e2, h1, h2⟩ := list_of r q
    rw [e1] at e2
    cases e2
    exact ⟨a, xs, rfl, SqL.of h1, h2⟩
  · rename_i ds' q
    cases e
    obtain ⟨a, xs, e2, h1, h2⟩ := frz_of r q
    rw [e1] at e2
    cases e2
    exact ⟨a, xs, rfl, h1.l, h2⟩
  · cases e
/-- a value by data: the two -/
theorem RDs.nil_iff {ds : List D} {xs : List V} (h : RDs K H L ds xs) : ds = [] ↔ xs = [] := by
  cases ds with
  | nil => exact ⟨fun _ => h, fun _ => rfl⟩
  | cons d ds =>
    obtain ⟨v, vs, rfl, _⟩ := h
    exact ⟨(fun q => nomatch q), (fun q => nomatch q)⟩
theorem RDs.isEmpty {ds : List D} {xs : List V} (h : RDs K H L ds xs) : ds.isEmpty = xs.isEmpty := by
  cases ds with
  | nil => rw [show xs = [] from h]; rfl
  | cons d ds =>
    obtain ⟨v, vs, rfl, _⟩ := h
    rfl
end
theorem strOk_append {a b : Str} (ha : PyData.strOk a = true) (hb : PyData.strOk b = true) : PyData.strOk (a ++ b) = true := by
  have e : (a ++ b).cps = a.cps ++ b.cps := rfl
  unfold PyData.strOk at *
  rw [e, Array.all_append, ha, hb]
  rfl
theorem log2_mono {a b : Nat} (h : a ≤ b) (hb : b < 18446744073709551616) : a < 18446744073709551616 := Nat.lt_of_le_of_lt h hb

def rBin (K : PySem.W.Frag) (o : Operator) : R2 := fun x y H Q => ∃ L M dx dy d M', Rep K H L M ∧ RD K H L dx x ∧ RD K H L dy y ∧ binS o dx dy M = some (d, M') ∧ Fin1 K H L M' d Q
theorem cMul_of {i j : Int} (h : mulOk i j = true) : CMul i j ∨ CMulW i j := by
  unfold mulOk at h
  simp only [Bool.or_eq_true, Bool.and_eq_true, decide_eq_true_eq] at h
  rcases h with (h | h) | h
  · exact .inl (.inl (by omega))
  · exact .inl (.inr (by omega))
  · exact .inr (by unfold CMulW; omega)
theorem op_bin {X : Cx} {o : Operator} : OpR X (binaryOp o) (rBin X.K o) := by
  intro pins s σ H x y v u Q I rx ry h
  obtain ⟨L, M, dx, dy, d, M', r, hx, hy, e, f⟩ := h
  unfold binS at e
  split at e
  · cases e
    exact op_add pins s σ H x y v u Q I rx ry ⟨_, _, hx, hy, f.here r rfl⟩
  · cases e
    exact op_sub pins s σ H x y v u Q I rx ry ⟨_, _, hx, hy, f.here r rfl⟩
  · rename_i i j
    split at e
    · rename_i hm
      cases e
      rcases cMul_of hm with c | c
      · exact op_mul pins s σ H x y v u Q I rx ry ⟨_, _, hx, hy, c, f.here r rfl⟩
      · exact op_mulW pins s σ H x y v u Q I rx ry ⟨_, _, hx, hy, c, f.here r rfl⟩
    · cases e
  · split at e
    · rename_i hm
      cases e
      exact op_fdivW pins s σ H x y v u Q I rx ry ⟨_, _, hx, hy, hm, f.here r rfl⟩
    · cases e
  · split at e
    · rename_i hm
      cases e
      exact op_mod pins s σ H x y v u Q I rx ry ⟨_, _, hx, hy, hm, f.here r rfl⟩
    · cases e
  · split at e
    · rename_i hm
      cases e
      exact op_pow pins s σ H x y v u Q I rx ry ⟨_, _, hx, hy, hm, f.here r rfl⟩
    · cases e
  · split at e
    · rename_i hm
      cases e
      exact op_add_str pins s σ H x y v u Q I rx ry ⟨_, _, hx.1, hy.1, hm, f.here r ⟨rfl, strOk_append hx.2 hy.2⟩⟩
    · cases e
  · split at e
    · rename_i hm
      cases e
      obtain ⟨a, xs, rfl, h1, h2⟩ := hx
      obtain ⟨b, ys, rfl, h3, h4⟩ := hy
      refine op_catA pins s σ H _ _ v u Q I rx ry ⟨a, b, xs, ys, rfl, rfl, h1, h3, by rw [← h2.length, ← h4.length]; exact hm, fun e1 => ?_, fun e1 e2 => ?_, fun e1 e2 p hp => ?_⟩
      · have z := h2.nil_iff.mpr e1
        rw [z, List.nil_append] at f
        exact f.here r ⟨b, ys, rfl, h3, h4⟩
      · have z := h4.nil_iff.mpr e2
        rw [z, List.append_nil] at f
        exact f.here r ⟨a, xs, rfl, h1, h2⟩
      · exact f.tuple r (h2.append h4) hp
    · cases e
  · split at e
    · rename_i hm
      cases e
      obtain ⟨a, xs, rfl, h1, h2⟩ := hx
      obtain ⟨c0, c1, c2, c3⟩ := hm
      exact op_repT pins s σ H _ _ v u Q I rx ry ⟨a, _, xs, rfl, hy, h1, fun q => c0 (h2.nil_iff.mpr q), c1, c2, by rw [← h2.length]; exact c3, fun p hp => f.tuple r (h2.rep _) hp⟩
    · cases e
  · split at e
    · rename_i xs ys q1 q2
      split at e
      · rename_i hm
        cases e
        obtain ⟨a, xs', e1, h1, h2⟩ := list_of r q1
        obtain ⟨b, ys', e2, h3, h4⟩ := list_of r q2
        obtain ⟨sl, z1, rfl⟩ := hx
        obtain ⟨sl2, z2, rfl⟩ := hy
        rw [e1] at z1
        rw [e2] at z2
        cases z1
        cases z2
        exact op_cat pins s σ H _ _ v u Q I rx ry ⟨a, b, xs', ys', rfl, rfl, h1, h3, by rw [← h2.length, ← h4.length]; exact hm, fun p hp => f.list r (h2.append h4) hp⟩
      · cases e
    · cases e
  · cases e

/-! ### data that may be compared -/
mutual
def toPy : D → PyData
  | .non => .none
  | .bl b => .bool b
  | .int i => .int i
  | .str s => .str s
  | .tup ds => .tuple (toPys ds)
  | .ref _ => .none
def toPys : List D → List PyData
  | [] => []
  | d :: ds => toPy d :: toPys ds
end
theorem toPys_map : ∀ ds : List D, toPys ds = ds.map toPy
  | [] => rfl
  | d :: ds => by simp [toPys, toPys_map ds]
mutual
theorem toPy_depth : ∀ d : D, (toPy d).depth = dep d
  | .non | .bl _ | .int _ | .str _ | .ref _ => by simp [toPy, PyData.depth, dep]
  | .tup ds => by simp [toPy, PyData.depth, dep, toPys_depth ds]
theorem toPys_depth : ∀ ds : List D, PyData.depthAll (toPys ds) = deps ds
  | [] => by simp [toPys, PyData.depthAll, deps]
  | d :: ds => by simp [toPys, PyData.depthAll, deps, toPy_depth d, toPys_depth ds]
end
mutual
theorem toPy_eqv : ∀ a b : D, closedD 0 a = true → closedD 0 b = true → PyData.eqv (toPy a) (toPy b) = eqD a b
  | .ref _, _, h, _ => by simp [closedD] at h
  | _, .ref _, _, h => by simp [closedD] at h
  | .tup a, .tup b, h, h' => by
    simp only [closedD] at h h'
    simp [toPy, PyData.eqv, eqD, toPys_eqv a b h h']
  | .non, .non, _, _ | .bl _, .bl _, _, _ | .int _, .int _, _, _ | .str _, .str _, _, _ => by simp [toPy, PyData.eqv, eqD]
  | .bl a, .int b, _, _ => by cases a <;> simp [toPy, PyData.eqv, eqD]
  | .int a, .bl b, _, _ => by cases b <;> simp [toPy, PyData.eqv, eqD]
  | .non, .bl _, _, _ | .non, .int _, _, _ | .non, .str _, _, _ | .non, .tup _, _, _ => by simp [toPy, PyData.eqv, eqD]
  | .bl _, .non, _, _ | .bl _, .str _, _, _ | .bl _, .tup _, _, _ => by simp [toPy, PyData.eqv, eqD]
  | .int _, .non, _, _ | .int _, .str _, _, _ | .int _, .tup _, _, _ => by simp [toPy, PyData.eqv, eqD]
  | .str _, .non, _, _ | .str _, .bl _, _, _ | .str _, .int _, _, _ | .str _, .tup _, _, _ => by simp [toPy, PyData.eqv, eqD]
  | .tup _, .non, _, _ | .tup _, .bl _, _, _ | .tup _, .int _, _, _ | .tup _, .str _, _, _ => by simp [toPy, PyData.eqv, eqD]
theorem toPys_eqv : ∀ a b : List D, closedDs 0 a = true → closedDs 0 b = true → PyData.eqvAll (toPys a) (toPys b) = eqDs a b
  | [], [], _, _ => by simp [toPys, PyData.eqvAll, eqDs]
  | a :: as, b :: bs, h, h' => by
    simp only [closedDs, Bool.and_eq_true] at h h'
    simp [toPys, PyData.eqvAll, eqDs, toPy_eqv a b h.1 h'.1, toPys_eqv as bs h.2 h'.2]
  | [], b :: bs, _, _ => by simp [toPys, PyData.eqvAll, eqDs]
  | a :: as, [], _, _ => by simp [toPys, PyData.eqvAll, eqDs]
end
section
variable {K : PySem.W.Frag} {H : Hp} {L : List Place}
mutual
theorem RD.dp : ∀ (d : D) (v : V), closedD 0 d = true → RD K H L d v → Dp K H v (toPy d) ∧ (toPy d).canLay0 = true
  | .non, _, _, h => by rw [show _ = V.non from h]; exact ⟨.non, by simp [toPy, PyData.canLay0]⟩
  | .bl b, _, _, h => by rw [show _ = V.bl b from h]; exact ⟨.bl b, by simp [toPy, PyData.canLay0]⟩
  | .int i, _, _, h => by rw [show _ = V.int i from h]; exact ⟨.int i, by simp [toPy, PyData.canLay0]⟩
  | .str s, _, _, h => by rw [show _ = V.str s from h.1]; exact ⟨.str s, by simpa [toPy, PyData.canLay0] using h.2⟩
  | .tup ds, v, c, h => by
    obtain ⟨a, xs, rfl, h1, h2⟩ := h
    obtain ⟨q1, q2⟩ := RDs.dp ds xs (by simpa [closedD] using c) h2
    exact ⟨.tup h1 q1, by simpa [toPy, PyData.canLay0] using q2⟩
  | .ref n, _, c, _ => by simp [closedD] at c
theorem RDs.dp : ∀ (ds : List D) (xs : List V), closedDs 0 ds = true → RDs K H L ds xs → DpAll K H xs (toPys ds) ∧ PyData.canLayAll0 (toPys ds) = true
  | [], xs, _, h => by rw [show xs = [] from h]; exact ⟨.nil, by simp [toPys, PyData.canLayAll0]⟩
  | d :: ds, xs, c, h => by
    obtain ⟨v, vs, rfl, h1, h2⟩ := h
    simp only [closedDs, Bool.and_eq_true] at c
    obtain ⟨q1, q2⟩ := RD.dp d v c.1 h1
    obtain ⟨q3, q4⟩ := RDs.dp ds vs c.2 h2
    exact ⟨.cons q1 q3, by simp [toPys, PyData.canLayAll0, q2, q4]⟩
end
theorem RD.shaped {d : D} {v : V} (p : plainD d = true) (h : RD K H L d v) : Dp K H v (toPy d) ∧ SeqAt.shaped (toPy d) = true := by
  unfold plainD at p
  simp only [Bool.and_eq_true, decide_eq_true_eq] at p
  obtain ⟨q1, q2⟩ := RD.dp d v p.1 h
  refine ⟨q1, ?_⟩
  unfold SeqAt.shaped
  simp only [Bool.and_eq_true, decide_eq_true_eq]
  exact ⟨q2, by rw [toPy_depth]; omega⟩
theorem RDs.shaped {ds : List D} {xs : List V} {a : Addr} (p : plainDs ds = true) (h : RDs K H L ds xs) (hq : SqL K H a xs) : Dp K H (.ref a) (.list (toPys ds)) ∧ SeqAt.shaped (.list (toPys ds)) = true := by
  unfold plainDs at p
  simp only [Bool.and_eq_true, decide_eq_true_eq] at p
  obtain ⟨q1, q2⟩ := RDs.dp ds xs p.1 h
  refine ⟨.lst hq q1, ?_⟩
  unfold SeqAt.shaped
  simp only [Bool.and_eq_true, decide_eq_true_eq]
  exact ⟨by simpa [PyData.canLay0] using q2, by
    have e : (PyData.list (toPys ds)).depth = PyData.depthAll (toPys ds) + 1 := by simp [PyData.depth]
    rw [e, toPys_depth]
    omega⟩
theorem RDs.shapedT {ds : List D} {xs : List V} {a : Addr} (p : plainDs ds = true) (h : RDs K H L ds xs) (hq : SqT K H a xs) : Dp K H (.ref a) (.tuple (toPys ds)) ∧ SeqAt.shaped (.tuple (toPys ds)) = true := by
  unfold plainDs at p
  simp only [Bool.and_eq_true, decide_eq_true_eq] at p
  obtain ⟨q1, q2⟩ := RDs.dp ds xs p.1 h
  refine ⟨.tup hq q1, ?_⟩
  unfold SeqAt.shaped
  simp only [Bool.and_eq_true, decide_eq_true_eq]
  exact ⟨by simpa [PyData.canLay0] using q2, by
    have e : (PyData.tuple (toPys ds)).depth = PyData.depthAll (toPys ds) + 1 := by simp [PyData.depth]
    rw [e, toPys_depth]
    omega⟩
end
theorem plainDs_mem {ds : List D} (p : plainDs ds = true) : ∀ d ∈ ds, plainD d = true := by
  unfold plainDs at p
  unfold plainD
  simp only [Bool.and_eq_true, decide_eq_true_eq] at p ⊢
  obtain ⟨p1, p2⟩ := p
  induction ds with
  | nil => intro d h; cases h
  | cons e es ih =>
    simp only [closedDs, deps, Bool.and_eq_true] at p1 p2
    intro d h
    rcases List.mem_cons.mp h with rfl | h
    · exact ⟨p1.1, by omega⟩
    · exact ih p1.2 (by omega) d h
theorem plainD_closed {d : D} (p : plainD d = true) : closedD 0 d = true := by
  unfold plainD at p
  simp only [Bool.and_eq_true] at p
  exact p.1
theorem any_eqv {x : D} {ds : List D} (px : plainD x = true) (p : plainDs ds = true) : ((toPys ds).any fun z => PyData.eqv z (toPy x)) = ds.any fun d => eqD d x := by
  rw [toPys_map, List.any_map]
  have hm := plainDs_mem p
  clear p
  induction ds with
  | nil => rfl
  | cons d ds ih =>
    simp only [List.any_cons, Function.comp]
    rw [toPy_eqv d x (plainD_closed (hm d List.mem_cons_self)) (plainD_closed px)]
    rw [← ih fun e he => hm e (List.mem_cons_of_mem _ he)]

def rCmp (K : PySem.W.Frag) (o : CmpOp) : R2 := fun x y H Q => ∃ L dx dy k, RD K H L dx x ∧ RD K H L dy y ∧ cmpS o dx dy = some k ∧ Q (.bl k) H
theorem op_cmp {X : Cx} {o : CmpOp} (hu : X.A.units + 64 < cLine) : OpR X (compareOp o) (rCmp X.K o) := by
  intro pins s σ H x y v u Q I rx ry h
  obtain ⟨L, dx, dy, k, hx, hy, e, q⟩ := h
  unfold cmpS at e
  split at e
  · split at e
    · rename_i hp
      simp only [Bool.and_eq_true] at hp
      cases e
      obtain ⟨h1, h2⟩ := RD.shaped hp.1 hx
      obtain ⟨h3, h4⟩ := RD.shaped hp.2 hy
      refine op_eqD hu pins s σ H x y v u Q I rx ry ⟨_, _, h1, h3, h2, h4, ?_⟩
      rw [toPy_eqv dx dy (plainD_closed hp.1) (plainD_closed hp.2)]
      exact q
    · cases e
  · split at e
    · rename_i hp
      simp only [Bool.and_eq_true] at hp
      cases e
      obtain ⟨h1, h2⟩ := RD.shaped hp.1 hx
      obtain ⟨h3, h4⟩ := RD.shaped hp.2 hy
      refine op_neD hu pins s σ H x y v u Q I rx ry ⟨_, _, h1, h3, h2, h4, ?_⟩
      rw [toPy_eqv dx dy (plainD_closed hp.1) (plainD_closed hp.2)]
      exact q
    · cases e
  · split at e
    · cases e
      exact op_lt pins s σ H x y v u Q I rx ry ⟨_, _, hx, hy, q⟩
    · cases e
      exact op_lt_str pins s σ H x y v u Q I rx ry ⟨_, _, hx.1, hy.1, q⟩
    · cases e
  · split at e
    · cases e
      exact op_le pins s σ H x y v u Q I rx ry ⟨_, _, hx, hy, q⟩
    · cases e
  · split at e
    · cases e
      exact op_gt pins s σ H x y v u Q I rx ry ⟨_, _, hx, hy, q⟩
    · cases e
  · split at e
    · cases e
      exact op_ge pins s σ H x y v u Q I rx ry ⟨_, _, hx, hy, q⟩
    · cases e
  · split at e
    · cases e
      refine op_isN pins s σ H x y v u Q I rx ry ⟨hy, ?_⟩
      have z : decide (dx = D.non) = decide (x = V.non) := by
        cases dx with
        | non => rw [show x = V.non from hx]; simp
        | bl b => rw [show x = V.bl b from hx]; simp
        | int b => rw [show x = V.int b from hx]; simp
        | str b => rw [show x = V.str b from hx.1]; simp
        | tup ds => obtain ⟨a, xs, rfl, _⟩ := hx; simp
        | ref n => obtain ⟨a, _, rfl⟩ := hx; simp
      rw [← z]
      exact q
    · split at e
      · cases e
        exact op_isBl pins s σ H x y v u Q I rx ry ⟨_, _, hx, hy, q⟩
      · cases e
    · cases e
  · split at e
    · cases e
      refine op_notN pins s σ H x y v u Q I rx ry ⟨hy, ?_⟩
      have z : decide (dx = D.non) = decide (x = V.non) := by
        cases dx with
        | non => rw [show x = V.non from hx]; simp
        | bl b => rw [show x = V.bl b from hx]; simp
        | int b => rw [show x = V.int b from hx]; simp
        | str b => rw [show x = V.str b from hx.1]; simp
        | tup ds => obtain ⟨a, xs, rfl, _⟩ := hx; simp
        | ref n => obtain ⟨a, _, rfl⟩ := hx; simp
      rw [← z]
      exact q
    · split at e
      · cases e
        exact op_notBl pins s σ H x y v u Q I rx ry ⟨_, _, hx, hy, q⟩
      · cases e
    · cases e
  · cases e
end PS

set_option Elab.async false
set_option linter.all false
set_option maxRecDepth 100000
set_option maxHeartbeats 4000000
/-! PS4: truth, membership, subscripts, calls and methods by values. -/
namespace PS
open PySem PySem.Spec PyProof.Rows L2
section
variable {K : PySem.W.Frag} {H H1 H' : Hp} {L L1 L' : List Place} {M M' : Store} {d : D} {v : V} {Q : VK}
theorem RKs.length {κ : Type} : ∀ {kvs : List (κ × D)} {ks : List (κ × V)}, RKs K H L kvs ks → kvs.length = ks.length
  | _, _, .nil => rfl
  | _, _, .cons _ t => by simp [RKs.length t]
theorem RKs.get {κ : Type} [DecidableEq κ] (k : κ) : ∀ {kvs : List (κ × D)} {ks : List (κ × V)}, RKs K H L kvs ks → (∀ d, getK kvs k = some d → ∃ v, valV ks k = some v ∧ RD K H L d v) ∧ (getK kvs k = none → valV ks k = none)
  | _, _, .nil => ⟨fun d e => by simp [getK] at e, fun _ => rfl⟩
  | p :: kvs, q :: ks, .cons r t => by
    have ih := RKs.get k t
    by_cases e : p.1 = k
    · have e1 : getK (p :: kvs) k = some p.2 := by simp [getK, e]
      have e2 : valV (q :: ks) k = some q.2 := valV_pos (by rw [← r.1]; exact e)
      rw [e1, e2]
      exact ⟨fun d z => by cases z; exact ⟨_, rfl, r.2⟩, fun z => nomatch z⟩
    · have e1 : getK (p :: kvs) k = getK kvs k := by simp [getK, e]
      have e2 : valV (q :: ks) k = valV ks k := valV_neg (by rw [← r.1]; exact e)
      rw [e1, e2]
      exact ih
theorem RKs.isSome {κ : Type} [DecidableEq κ] {k : κ} {kvs : List (κ × D)} {ks : List (κ × V)} (r : RKs K H L kvs ks) : (getK kvs k).isSome = (valV ks k).isSome := by
  obtain ⟨h1, h2⟩ := r.get k
  cases e : getK kvs k with
  | none => rw [h2 e]; rfl
  | some d =>
    obtain ⟨v, e2, _⟩ := h1 d e
    rw [e2]
    rfl
theorem RKs.any {κ : Type} [DecidableEq κ] {k : κ} : ∀ {kvs : List (κ × D)} {ks : List (κ × V)}, RKs K H L kvs ks → (kvs.any fun kv => decide (kv.1 = k)) = ks.any fun kv => decide (kv.1 = k)
  | _, _, .nil => rfl
  | p :: kvs, q :: ks, .cons r t => by simp [RKs.any t, r.1]
theorem RKs.repl {κ : Type} [DecidableEq κ] {k : κ} (r : RD K H L d v) : ∀ {kvs : List (κ × D)} {ks : List (κ × V)}, RKs K H L kvs ks →
    RKs K H L (kvs.map fun kv => if kv.1 = k then (kv.1, d) else kv) (ks.map fun kv => if kv.1 = k then (kv.1, v) else kv)
  | _, _, .nil => .nil
  | p :: kvs, q :: ks, .cons z t => by
    refine .cons ?_ (RKs.repl r t)
    by_cases e : p.1 = k
    · have e' : q.1 = k := by rw [← z.1]; exact e
      simp only [e, e', if_true]
      exact ⟨trivial, r⟩
    · have e' : ¬ q.1 = k := by rw [← z.1]; exact e
      simp only [e, e', if_false]
      exact z
theorem RKs.append {κ : Type} : ∀ {kvs : List (κ × D)} {ks : List (κ × V)} {kvs' : List (κ × D)} {ks' : List (κ × V)}, RKs K H L kvs ks → RKs K H L kvs' ks' → RKs K H L (kvs ++ kvs') (ks ++ ks')
  | _, _, _, _, .nil, h => h
  | _, _, _, _, .cons r t, h => .cons r (RKs.append t h)
theorem RKs.put {κ : Type} [DecidableEq κ] {k : κ} {kvs : List (κ × D)} {ks : List (κ × V)} (z : RKs K H L kvs ks) (r : RD K H L d v) : RKs K H L (putD kvs k d) (putK ks k v) := by
  unfold putD putK
  rw [z.any (k := k)]
  split
  · exact RKs.repl r z
  · exact z.append (.cons ⟨rfl, r⟩ .nil)
theorem keyOf_rd {k : Key} (e : keyOf d = some k) (h : RD K H L d v) : v = kV k := by
  cases d with
  | int i => cases e; exact h
  | str s => cases e; exact h.1
  | _ => cases e
theorem keysOf_rd : ∀ {ds : List D} {ks : List Key} {xs : List V}, keysOf ds = some ks → RDs K H L ds xs → xs = ks.map kV
  | [], ks, xs, e, h => by cases e; exact h
  | d :: ds, ks, xs, e, h => by
    obtain ⟨v, vs, rfl, h1, h2⟩ := h
    unfold keysOf at e
    split at e
    · rename_i k ks' q1 q2
      cases e
      rw [keyOf_rd q1 h1, keysOf_rd q2 h2]
      rfl
    · cases e

/-! ### truth -/
theorem truth_ok {k : Bool} (r : Rep K H L M) (h : RD K H L d v) (e : truth M d = some k) : TruV K v H k := by
  unfold truth at e
  split at e
  · cases e; rw [show v = V.non from h]; rfl
  · cases e; rw [show v = V.bl _ from h]; rfl
  · cases e; rw [show v = V.int _ from h]; rfl
  · split at e
    · rename_i hl
      cases e; rw [show v = V.str _ from h.1]; exact ⟨hl, rfl⟩
    · cases e
  · cases e
    obtain ⟨a, xs, rfl, h1, h2⟩ := h
    exact .inr (.inl ⟨xs, h1, by rw [h2.isEmpty]⟩)
  · split at e
    · rename_i q
      cases e
      obtain ⟨a, xs, z1, z2, z3⟩ := list_of r q
      obtain ⟨sl, y1, rfl⟩ := h
      rw [z1] at y1
      cases y1
      exact .inl ⟨xs, SqL.of z2, by rw [z3.isEmpty]⟩
    · rename_i q
      cases e
      obtain ⟨a, xs, z1, z2, z3⟩ := frz_of r q
      obtain ⟨sl, y1, rfl⟩ := h
      rw [z1] at y1
      cases y1
      exact .inl ⟨xs, z2.l, by rw [z3.isEmpty]⟩
    · rename_i q
      cases e
      obtain ⟨a, xs, z1, z2, z3⟩ := dK_of r q
      obtain ⟨sl, y1, rfl⟩ := h
      rw [z1] at y1
      cases y1
      refine .inr (.inr ⟨xs, z2, ?_⟩)
      cases z3 <;> rfl
    · cases e

/-! ### sequences that may be new -/
def RQ (K : PySem.W.Frag) (H : Hp) (L : List Place) : QV → V → Prop
  | .val d, v => RD K H L d v
  | .tmp ds, v => ∃ a xs, v = .ref a ∧ Place.w a ∉ L ∧ H a = some (.lst xs) ∧ RDs K H L ds xs
theorem RQ.mono (g : Grow H H1 L L1) {q : QV} (h : RQ K H L q v) : RQ K H1 L1 q v := by
  cases q with
  | val d => exact RD.mono g d v h
  | tmp ds =>
    obtain ⟨a, xs, e, n, h1, h2⟩ := h
    exact ⟨a, xs, e, g.notin h1 n, g.keep a _ h1 n, RDs.mono g ds xs h2⟩
theorem RQ.items {q : QV} {ds : List D} (r : Rep K H L M) (h : RQ K H L q v) (e : items M q = some ds) : ∃ a xs, v = .ref a ∧ (SqL K H a xs ∨ SqT K H a xs) ∧ RDs K H L ds xs := by
  unfold PS.items at e
  split at e
  · cases e
    obtain ⟨a, xs, e, n, h1, h2⟩ := h
    exact ⟨a, xs, e, .inl (SqL.of h1), h2⟩
  · cases e
    obtain ⟨a, xs, e, h1, h2⟩ := h
    exact ⟨a, xs, e, .inr h1, h2⟩
  · obtain ⟨a, xs, e, h1, h2⟩ := listAt_of r e h
    exact ⟨a, xs, e, .inl h1, h2⟩
  · cases e
theorem RQ.itemsL {q : QV} {ds : List D} (r : Rep K H L M) (h : RQ K H L q v) (e : itemsL M q = some ds) : ∃ a xs, v = .ref a ∧ SqL K H a xs ∧ RDs K H L ds xs := by
  unfold PS.itemsL at e
  split at e
  · cases e
    obtain ⟨a, xs, e, n, h1, h2⟩ := h
    exact ⟨a, xs, e, SqL.of h1, h2⟩
  · obtain ⟨a, xs, e, h1, h2⟩ := listAt_of r e h
    exact ⟨a, xs, e, h1, h2⟩
  · cases e
theorem RQ.itemsW {q : QV} {ds : List D} (r : Rep K H L M) (h : RQ K H L q v) (e : itemsW M q = some ds) : ∃ a xs, v = .ref a ∧ H a = some (.lst xs) ∧ RDs K H L ds xs := by
  unfold PS.itemsW at e
  split at e
  · cases e
    obtain ⟨a, xs, e, n, h1, h2⟩ := h
    exact ⟨a, xs, e, h1, h2⟩
  · split at e
    · rename_i q
      cases e
      obtain ⟨a, xs, z1, z2, z3⟩ := list_of r q
      obtain ⟨sl, y1, rfl⟩ := h
      rw [z1] at y1
      cases y1
      exact ⟨a, xs, rfl, z2, z3⟩
    · cases e
  · cases e
end
section
variable {X : Cx}
/-! ### in, not in -/
def rMem (K : PySem.W.Frag) (ne : Bool) : R2 := fun x y H Q => ∃ L M dx q k, Rep K H L M ∧ RD K H L dx x ∧ RQ K H L q y ∧ memS dx q M = some k ∧ Q (.bl (if ne then !k else k)) H
theorem in_seq {pins : List (Addr × Obj)} {s : Shared} {σ : L2.St} {H : Hp} {L : List Place} {x : V} {v u : Value} {Q : VK} {dx : D} {ds : List D} {a : Addr} {xs : List V} (ne : Bool) (hu : X.A.units + 65 < cLine) (I : Inv X pins σ H s) (rx : RelV x v) (ry : RelV (.ref a) u)
    (hx : RD X.K H L dx x) (hq : SqL X.K H a xs ∨ SqT X.K H a xs) (hr : RDs X.K H L ds xs) (px : plainD dx = true) (p : plainDs ds = true) (q : Q (.bl (if ne then !(ds.any fun d => eqD d dx) else ds.any fun d => eqD d dx)) H) :
    wpAny (model X.prog X.w) X.A (compareOp (if ne then .NotIn else .In) v u) (EP X pins σ Q) X.xe s := by
  obtain ⟨h1, h2⟩ := RD.shaped px hx
  rcases hq with hq | hq
  · obtain ⟨h3, h4⟩ := hr.shaped p hq
    cases ne with
    | true =>
      refine op_notInD hu pins s σ H x _ v u Q I rx ry ⟨_, _, h1, h3, h2, h4, ?_⟩
      rw [any_eqv px p]
      exact q
    | false =>
      refine op_inD hu pins s σ H x _ v u Q I rx ry ⟨_, _, h1, h3, h2, h4, ?_⟩
      rw [any_eqv px p]
      exact q
  · obtain ⟨h3, h4⟩ := hr.shapedT p hq
    obtain ⟨as, r1⟩ := Dp.reads I _ x v h1 rx
    obtain ⟨bs, r2⟩ := Dp.reads I (.tuple _) _ u h3 ry
    cases ne with
    | true =>
      refine SeqAt.notIn_tuple_reads r2 r1 (SeqAt.canLay_of_shaped h4) (SeqAt.canLay_of_shaped h2) (room_in_shaped h2 hu) ⟨.bl _, H, I, rfl, ?_⟩
      rw [any_eqv px p]
      exact q
    | false =>
      refine SeqAt.in_tuple_reads r2 r1 (SeqAt.canLay_of_shaped h4) (SeqAt.canLay_of_shaped h2) (room_in_shaped h2 hu) ⟨.bl _, H, I, rfl, ?_⟩
      rw [any_eqv px p]
      exact q
theorem in_dict {pins : List (Addr × Obj)} {s : Shared} {σ : L2.St} {H : Hp} {y : V} {v u : Value} {Q : VK} {a : Addr} {o : Option V} (ne : Bool) (hu : X.A.units + 65 < cLine) (I : Inv X pins σ H s) (g : DGet H a y o) (rx : RelV y v) (ry : RelV (.ref a) u)
    (q : Q (.bl (if ne then !o.isSome else o.isSome)) H) : wpAny (model X.prog X.w) X.A (compareOp (if ne then .NotIn else .In) v u) (EP X pins σ Q) X.xe s := by
  obtain rfl : u = Value.ref a := ry
  cases ne with
  | true => exact d_notIn (by omega) I g rx fun s3 I3 => ⟨.bl (!o.isSome), H, I3, rfl, q⟩
  | false => exact d_in (by omega) I g rx fun s3 I3 => ⟨.bl o.isSome, H, I3, rfl, q⟩
theorem op_mem (ne : Bool) (hu : X.A.units + 65 < cLine) : OpR X (compareOp (if ne then .NotIn else .In)) (rMem X.K ne) := by
  intro pins s σ H x y v u Q I rx ry h
  obtain ⟨L, M, dx, q, k, r, hx, hy, e, f⟩ := h
  unfold memS at e
  split at e
  · split at e
    · rename_i n kvs z
      obtain ⟨a, xs, z1, z2, z3⟩ := dK_of r z
      obtain ⟨sl, y1, rfl⟩ := hy
      rw [z1] at y1
      cases y1
      cases ek : keyOf dx with
      | none => rw [ek] at e; cases e
      | some key =>
        rw [ek] at e
        cases e
        refine in_dict ne hu I (.inl ⟨_, key, .inl z2, keyOf_rd ek hx, rfl⟩) rx ry ?_
        rw [← z3.isSome]
        exact f
    · cases e
    · split at e
      · rename_i z hp
        simp only [Bool.and_eq_true] at hp
        cases e
        obtain ⟨a, xs, z1, z2, z3⟩ := list_of r z
        obtain ⟨sl, y1, rfl⟩ := hy
        rw [z1] at y1
        cases y1
        exact in_seq ne hu I rx ry hx (.inl (SqL.of z2)) z3 hp.1 hp.2 f
      · cases e
    · split at e
      · rename_i z hp
        simp only [Bool.and_eq_true] at hp
        cases e
        obtain ⟨a, xs, z1, z2, z3⟩ := frz_of r z
        obtain ⟨sl, y1, rfl⟩ := hy
        rw [z1] at y1
        cases y1
        exact in_seq ne hu I rx ry hx (.inl z2.l) z3 hp.1 hp.2 f
      · cases e
    · cases e
  · split at e
    · rename_i hp
      simp only [Bool.and_eq_true] at hp
      cases e
      obtain ⟨a, xs, rfl, z2, z3⟩ := hy
      exact in_seq ne hu I rx ry hx (.inr z2) z3 hp.1 hp.2 f
    · cases e
  · split at e
    · rename_i hp
      simp only [Bool.and_eq_true] at hp
      cases e
      obtain ⟨a, xs, rfl, _, z2, z3⟩ := hy
      exact in_seq ne hu I rx ry hx (.inl (SqL.of z2)) z3 hp.1 hp.2 f
    · cases e
  · cases e
end
end PS

set_option Elab.async false
set_option linter.all false
set_option maxRecDepth 100000
set_option maxHeartbeats 4000000
/-! PS5: subscripts, slices, calls of built-ins, methods, stores by values. -/
namespace PS
open PySem PySem.Spec PyProof.Rows L2
section
variable {X : Cx}
/-! ### o[i] -/
def rIxD : R2 := fun x y H Q => ∃ a v, x = .ref a ∧ DGet H a y (some v) ∧ Q v H
theorem ix_dict (hu : X.A.units + 1 < cLine) : IxR X rIxD := by
  intro value slice pins s σ H x y v u Q I rx ry h hs
  obtain ⟨a, z, rfl, g, q⟩ := h
  obtain rfl : v = Value.ref a := rx
  have hT := dict_typeIs I g
  have h₂ : wpAny (model X.prog X.w) X.A (getItem (.ref a) u) (EP X pins σ Q) X.xe s := d_getItem hu I g ry fun w' s3 I3 rw' => ⟨z, H, I3, rw', q⟩
  unfold subscriptTail
  refine wpAny_bind ?_
  rw [getitemInPython_of_ne hT.not_modules]
  refine wpAny_bind (wpAny_specialOf hT PySem.F.slot_dict_getitem.lookup ?_)
  have fin : wpAny (model X.prog X.w) X.A (subscripted slice false (.ref a) u) (fun r s₃ => wpAny (model X.prog X.w) X.A (letTemporaryGo value (.ref a) r >>= fun _ => pure r) (EP X pins σ Q) X.xe s₃) X.xe s := by
    rw [hs]
    exact wpAny_operating (wpAny_mono h₂ (fun r s₃ h₃ => wpAny_bind (wpAny_letTemporaryGo (wpAny_pure h₃))) fun _ _ x => x)
  first
    | exact wpAny_pure (wpAny_bind fin)
    | exact wpAny_bind (wpAny_pure (wpAny_bind fin))
    | exact wpAny_bind fin
def rIdx (K : PySem.W.Frag) : R2 := fun x y H Q => ∃ L M q di d, Rep K H L M ∧ RQ K H L q x ∧ RD K H L di y ∧ idxS q di M = some d ∧ ∀ v, RD K H L d v → Q v H
theorem strOk_one {s : Str} {k : Int} {c : Nat} (h : PyData.strOk s = true) (e : atI s.cps.toList k = some c) : PyData.strOk ⟨#[c]⟩ = true := by
  unfold atI at e
  cases q : ixN s.cps.toList.length k with
  | none => rw [q] at e; cases e
  | some j =>
    rw [q] at e
    have hm : c ∈ s.cps.toList := List.mem_of_getElem? e
    unfold PyData.strOk at *
    have := (Array.all_eq_true_iff_forall_mem.mp h) c (by simpa using hm)
    simpa using this
theorem op_idx (hu : X.A.units + 1 < cLine) : IxR X (rIdx X.K) := by
  intro value slice pins s σ H x y v u Q I rx ry h hs
  obtain ⟨L, M, q, di, d, r, hx, hy, e, f⟩ := h
  have lst : ∀ (a : Addr) (xs : List V) (ds : List D) (k : Int), x = .ref a → SqL X.K H a xs → RDs X.K H L ds xs → y = .int k → atI ds k = some d → wpAny (model X.prog X.w) X.A (subscriptTail value slice v u) (EP X pins σ Q) X.xe s := by
    intro a xs ds k ex h1 h2 ey e
    obtain ⟨z, e2, rz⟩ := h2.atI e
    exact ix_list value slice pins s σ H x y v u Q I rx ry ⟨a, xs, k, z, ex, ey, h1, e2, f z rz⟩ hs
  unfold idxS at e
  split at e
  · obtain ⟨a, xs, ex, _, h1, h2⟩ := hx
    exact lst a xs _ _ ex (SqL.of h1) h2 hy e
  · obtain ⟨a, xs, ex, h1, h2⟩ := hx
    obtain ⟨z, e2, rz⟩ := h2.atI e
    exact ix_tup value slice pins s σ H x y v u Q I rx ry ⟨a, xs, _, z, ex, hy, h1, e2, f z rz⟩ hs
  · split at e
    · rename_i hl
      rename_i k
      rename_i s1
      obtain ⟨ex, so⟩ := hx
      cases q : atI s1.cps.toList k with
      | none => rw [q] at e; cases e
      | some c =>
        rw [q] at e
        cases e
        exact ix_str value slice pins s σ H x y v u Q I rx ry ⟨s1, k, c, ex, hy, hl, q, f _ ⟨rfl, strOk_one so q⟩⟩ hs
    · cases e
  · split at e
    · rename_i z
      split at e
      · obtain ⟨a, xs, z1, z2, z3⟩ := list_of r z
        obtain ⟨sl, y1, ex⟩ := hx
        rw [z1] at y1
        cases y1
        exact lst a xs _ _ ex (SqL.of z2) z3 hy e
      · cases e
    · rename_i z
      split at e
      · obtain ⟨a, xs, z1, z2, z3⟩ := frz_of r z
        obtain ⟨sl, y1, ex⟩ := hx
        rw [z1] at y1
        cases y1
        exact lst a xs _ _ ex z2.l z3 hy e
      · cases e
    · rename_i z
      obtain ⟨a, xs, z1, z2, z3⟩ := dK_of r z
      obtain ⟨sl, y1, ex⟩ := hx
      rw [z1] at y1
      cases y1
      cases ek : keyOf di with
      | none => rw [ek] at e; cases e
      | some key =>
        rw [ek] at e
        obtain ⟨w', g1, g2⟩ := (z3.get key).1 d e
        exact ix_dict hu value slice pins s σ H x y v u Q I rx ry ⟨a, w', ex, .inl ⟨_, key, .inl z2, keyOf_rd ek hy, g1.symm⟩, f w' g2⟩ hs
    · cases e
    · cases e
  · cases e

/-! ### o[a:b] -/
def rSlc (K : PySem.W.Frag) : V → Option Int → Option Int → Hp → VK → Prop := fun x lo hi H Q => ∃ L M dx d M', Rep K H L M ∧ RD K H L dx x ∧ slcS dx lo hi M = some (d, M') ∧ Fin1 K H L M' d Q
theorem cutD_whole {α : Type} {xs : List α} {lo hi : Option Int} (h : HT.sIx xs.length 0 lo = 0 ∧ HT.sIx xs.length xs.length hi = xs.length) : cutD xs lo hi = xs := by
  unfold cutD
  rw [h.1, h.2]
  simp
theorem sl_slc : SlR X (rSlc X.K) := by
  intro pins s σ H x v vl vu lo hi sl Q I rx hs hl hh h
  obtain ⟨L, M, dx, d, M', r, hx, e, f⟩ := h
  unfold slcS at e
  split at e
  · rename_i ds
    cases e
    obtain ⟨a, xs, rfl, h1, h2⟩ := hx
    refine sl_tupA pins s σ H _ v vl vu lo hi sl Q I rx hs hl hh ⟨a, xs, rfl, h1, fun hw => ?_, fun hw p hp => f.tuple r (h2.cut lo hi) hp⟩
    rw [cutD_whole (by rw [h2.length]; exact hw)] at f
    exact f.here r ⟨a, xs, rfl, h1, h2⟩
  · rename_i n
    cases q : listAt M n with
    | none => rw [q] at e; cases e
    | some ds =>
      rw [q] at e
      cases e
      obtain ⟨a, xs, rfl, h1, h2⟩ := listAt_of r q hx
      exact sl_list pins s σ H _ v vl vu lo hi sl Q I rx hs hl hh ⟨a, xs, rfl, h1, fun p hp => f.list r (h2.cut lo hi) hp⟩
  · cases e

/-! ### len, sum, any, all, tuple, min, max of a sequence -/
theorem ints_of : ∀ {ds : List D} {is : List Int} {K : PySem.W.Frag} {H : Hp} {L : List Place} {xs : List V}, intsOf ds = some is → RDs K H L ds xs → xs = is.map V.int
  | [], is, K, H, L, xs, e, h => by cases e; exact h
  | d :: ds, is, K, H, L, xs, e, h => by
    obtain ⟨v, vs, rfl, h1, h2⟩ := h
    cases d with
    | int i =>
      simp only [intsOf] at e
      cases q : intsOf ds with
      | none => rw [q] at e; cases e
      | some js =>
        rw [q] at e
        cases e
        rw [ints_of q h2, show v = V.int i from h1]
        rfl
    | _ => cases e
theorem bls_of : ∀ {ds : List D} {is : List Bool} {K : PySem.W.Frag} {H : Hp} {L : List Place} {xs : List V}, blsOf ds = some is → RDs K H L ds xs → xs = is.map V.bl
  | [], is, K, H, L, xs, e, h => by cases e; exact h
  | d :: ds, is, K, H, L, xs, e, h => by
    obtain ⟨v, vs, rfl, h1, h2⟩ := h
    cases d with
    | bl i =>
      simp only [blsOf] at e
      cases q : blsOf ds with
      | none => rw [q] at e; cases e
      | some js =>
        rw [q] at e
        cases e
        rw [bls_of q h2, show v = V.bl i from h1]
        rfl
    | _ => cases e
theorem fold_max : ∀ (is : List Int) (a : Int), (∀ y ∈ a :: is, y ≤ is.foldl max a) ∧ is.foldl max a ∈ a :: is
  | [], a => ⟨fun y hy => by simp at hy; subst hy; exact Int.le_refl _, by simp⟩
  | i :: is, a => by
    obtain ⟨h1, h2⟩ := fold_max is (max a i)
    refine ⟨fun y hy => ?_, ?_⟩
    · rcases List.mem_cons.mp hy with rfl | hy
      · exact Int.le_trans (Int.le_max_left _ _) (h1 _ List.mem_cons_self)
      · rcases List.mem_cons.mp hy with rfl | hy
        · exact Int.le_trans (Int.le_max_right _ _) (h1 _ List.mem_cons_self)
        · exact h1 y (List.mem_cons_of_mem _ hy)
    · rcases List.mem_cons.mp h2 with h2 | h2
      · show is.foldl max (max a i) ∈ _
        rw [h2]
        by_cases q : a ≤ i
        · rw [Int.max_eq_right q]; simp
        · rw [Int.max_eq_left (by omega)]; simp
      · exact List.mem_cons_of_mem _ (List.mem_cons_of_mem _ h2)
theorem fold_min : ∀ (is : List Int) (a : Int), (∀ y ∈ a :: is, is.foldl min a ≤ y) ∧ is.foldl min a ∈ a :: is
  | [], a => ⟨fun y hy => by simp at hy; subst hy; exact Int.le_refl _, by simp⟩
  | i :: is, a => by
    obtain ⟨h1, h2⟩ := fold_min is (min a i)
    refine ⟨fun y hy => ?_, ?_⟩
    · rcases List.mem_cons.mp hy with rfl | hy
      · exact Int.le_trans (h1 _ List.mem_cons_self) (Int.min_le_left _ _)
      · rcases List.mem_cons.mp hy with rfl | hy
        · exact Int.le_trans (h1 _ List.mem_cons_self) (Int.min_le_right _ _)
        · exact h1 y (List.mem_cons_of_mem _ hy)
    · rcases List.mem_cons.mp h2 with h2 | h2
      · show is.foldl min (min a i) ∈ _
        rw [h2]
        by_cases q : a ≤ i
        · rw [Int.min_eq_left q]; simp
        · rw [Int.min_eq_right (by omega)]; simp
      · exact List.mem_cons_of_mem _ (List.mem_cons_of_mem _ h2)
def rAgg (K : PySem.W.Frag) (g : Agg) : List V → Hp → VK → Prop := fun vs H Q => ∃ L M q x d, vs = [x] ∧ Rep K H L M ∧ RQ K H L q x ∧ aggS g q M = some d ∧ Fin1 K H L M d Q
def aggV : Agg → Value
  | .len => .builtin "len"
  | .sum => .builtin "sum"
  | .any => .builtin "any"
  | .all => .builtin "all"
  | .tup => .type "tuple"
  | .min => .builtin "min"
  | .max => .builtin "max"
  | .lenSet => .none
theorem cr_agg (hc : X.calm = true) {g : Agg} (hg : g ≠ .lenSet) : CallR X (aggV g) (rAgg X.K g) := by
  intro pins s σ H vs us Q I rv h
  obtain ⟨L, M, q, x, d, rfl, r, hx, e, f⟩ := h
  cases g with
  | len =>
    simp only [aggS] at e
    cases q' : items M q with
    | none => rw [q'] at e; cases e
    | some ds =>
      rw [q'] at e
      cases e
      obtain ⟨a, xs, rfl, h1, h2⟩ := hx.items r q'
      exact call_len_seq pins s σ H _ us Q I rv ⟨a, xs, rfl, h1, by rw [← h2.length]; exact f.here r rfl⟩
  | sum =>
    simp only [aggS] at e
    cases q' : itemsL M q with
    | none => rw [q'] at e; cases e
    | some ds =>
      rw [q'] at e
      obtain ⟨a, xs, rfl, h1, h2⟩ := hx.itemsL r q'
      simp only [Option.bind] at e
      cases q2 : intsOf ds with
      | none => rw [q2] at e; cases e
      | some is =>
        rw [q2] at e
        cases e
        rw [ints_of q2 h2] at h1
        exact cr_sum hc pins s σ H _ us Q I rv ⟨a, is, rfl, h1, f.here r rfl⟩
  | any =>
    simp only [aggS] at e
    cases q' : itemsL M q with
    | none => rw [q'] at e; cases e
    | some ds =>
      rw [q'] at e
      obtain ⟨a, xs, rfl, h1, h2⟩ := hx.itemsL r q'
      simp only [Option.bind] at e
      cases q2 : blsOf ds with
      | none => rw [q2] at e; cases e
      | some is =>
        rw [q2] at e
        cases e
        rw [bls_of q2 h2] at h1
        exact cr_any hc pins s σ H _ us Q I rv ⟨a, is, rfl, h1, f.here r rfl⟩
  | all =>
    simp only [aggS] at e
    cases q' : itemsL M q with
    | none => rw [q'] at e; cases e
    | some ds =>
      rw [q'] at e
      obtain ⟨a, xs, rfl, h1, h2⟩ := hx.itemsL r q'
      simp only [Option.bind] at e
      cases q2 : blsOf ds with
      | none => rw [q2] at e; cases e
      | some is =>
        rw [q2] at e
        cases e
        rw [bls_of q2 h2] at h1
        exact cr_all hc pins s σ H _ us Q I rv ⟨a, is, rfl, h1, f.here r rfl⟩
  | tup =>
    simp only [aggS] at e
    cases q' : items M q with
    | none => rw [q'] at e; cases e
    | some ds =>
      rw [q'] at e
      cases e
      obtain ⟨a, xs, rfl, h1, h2⟩ := hx.items r q'
      obtain ⟨u, rfl, ru⟩ := vals1 rv
      refine rl_tuple pins s σ H _ u Q I ru ?_
      rcases h1 with h1 | h1
      · exact .inl ⟨a, xs, rfl, h1, fun p hp => f.tuple r h2 hp⟩
      · exact .inr ⟨a, xs, rfl, h1, f.here r ⟨a, xs, rfl, h1, h2⟩⟩
  | min =>
    simp only [aggS] at e
    cases q' : itemsL M q with
    | none => rw [q'] at e; cases e
    | some ds =>
      rw [q'] at e
      obtain ⟨a, xs, rfl, h1, h2⟩ := hx.itemsL r q'
      simp only [Option.bind] at e
      cases q2 : intsOf ds with
      | none => rw [q2] at e; cases e
      | some is =>
        rw [q2] at e
        rw [ints_of q2 h2] at h1
        cases is with
        | nil => cases e
        | cons i is =>
          cases e
          refine cr_min hc pins s σ H _ us Q I rv ⟨a, i :: is, rfl, h1, by simp, fun m hm hle => ?_⟩
          obtain ⟨z1, z2⟩ := fold_min is i
          have : m = is.foldl min i := Int.le_antisymm (hle _ z2) (z1 _ hm)
          rw [this]
          exact f.here r rfl
  | max =>
    simp only [aggS] at e
    cases q' : itemsL M q with
    | none => rw [q'] at e; cases e
    | some ds =>
      rw [q'] at e
      obtain ⟨a, xs, rfl, h1, h2⟩ := hx.itemsL r q'
      simp only [Option.bind] at e
      cases q2 : intsOf ds with
      | none => rw [q2] at e; cases e
      | some is =>
        rw [q2] at e
        rw [ints_of q2 h2] at h1
        cases is with
        | nil => cases e
        | cons i is =>
          cases e
          refine cr_max hc pins s σ H _ us Q I rv ⟨a, i :: is, rfl, h1, by simp, fun m hm hle => ?_⟩
          obtain ⟨z1, z2⟩ := fold_max is i
          have : m = is.foldl max i := Int.le_antisymm (z1 _ hm) (hle _ z2)
          rw [this]
          exact f.here r rfl
  | lenSet => exact absurd rfl hg
end
end PS

set_option Elab.async false
set_option linter.all false
set_option maxRecDepth 100000
set_option maxHeartbeats 4000000
/-! PS6: built-in calls of values, methods, stores. -/
namespace PS
open PySem PySem.Spec PyProof.Rows L2
section
variable {K : PySem.W.Frag} {H H1 H' : Hp} {L L1 L' : List Place} {M M' : Store} {d : D} {v : V} {Q : VK}
theorem RDs.inv1 {d : D} {xs : List V} (h : RDs K H L [d] xs) : ∃ v, xs = [v] ∧ RD K H L d v := by
  obtain ⟨v, vs, rfl, h1, h2⟩ := h
  rw [show vs = [] from h2]
  exact ⟨v, rfl, h1⟩
theorem RDs.inv2 {d e : D} {xs : List V} (h : RDs K H L [d, e] xs) : ∃ v w, xs = [v, w] ∧ RD K H L d v ∧ RD K H L e w := by
  obtain ⟨v, vs, rfl, h1, h2⟩ := h
  obtain ⟨w, rfl, h3⟩ := h2.inv1
  exact ⟨v, w, rfl, h1, h3⟩
/-- a list is written -/
theorem Fin1.setL {n : Nat} {a : Addr} {ds : List D} {xs : List V} {d : D} {v : V} (f : Fin1 K H L (M.set n (.lst ds)) d Q) (r : Rep K H L M) (e : L[n]? = some (.w a)) (h : RDs K H L ds xs) (hd : RD K H L d v) : Q v (upd H a (.lst xs)) := by
  have g : Grow H (upd H a (.lst xs)) L L := Grow.write r e
  exact f _ _ _ g (r.write e ⟨xs, upd_same, RDs.mono g ds xs h⟩) (RD.mono g _ _ hd)
end
section
variable {X : Cx}
def bltV : Blt → Value
  | .len => .builtin "len"
  | .abs => .builtin "abs"
  | .int => .type "int"
  | .max2 => .builtin "max"
  | .min2 => .builtin "min"
  | _ => .builtin "isinstance"
/-- the class that an isinstance names -/
def bltC : Blt → Option String
  | .isInt => some "int"
  | .isBool => some "bool"
  | .isStr => some "str"
  | .isTup => some "tuple"
  | _ => none
def rBlt (K : PySem.W.Frag) (b : Blt) : List V → Hp → VK → Prop := fun vs H Q => ∃ L M ds xs d, vs = xs ++ (match bltC b with | some c => [V.ty c] | none => []) ∧ Rep K H L M ∧ RDs K H L ds xs ∧ bltS b ds M = some d ∧ ∀ v, RD K H L d v → Q v H
def tyName : D → Option String
  | .non => some "NoneType"
  | .bl _ => some "bool"
  | .int _ => some "int"
  | .str _ => some "str"
  | .tup _ => some "tuple"
  | .ref _ => none
theorem tyX_of {K : PySem.W.Frag} {H : Hp} {L : List Place} {d : D} {v : V} {T : String} (e : tyName d = some T) (h : RD K H L d v) : TyX K H v (.type T) := by
  cases d with
  | non => cases e; rw [show v = V.non from h]; exact .base .non
  | bl b => cases e; rw [show v = V.bl b from h]; exact .base (.bl b)
  | int i => cases e; rw [show v = V.int i from h]; exact .base (.int i)
  | str s => cases e; rw [show v = V.str s from h.1]; exact .base (.str s)
  | tup ds =>
    cases e
    obtain ⟨a, xs, rfl, h1, _⟩ := h
    rcases h1 with (h1 | ⟨o, h1⟩) | ⟨o, its, n, h1, h2, _⟩
    · exact .base (.tup h1)
    · exact .fTuple h1
    · exact .kTuple h1 h2
  | ref n => cases e
theorem isi_ok {T c : String} {b : Bool} {pins : List (Addr × Obj)} {s : Shared} {σ : L2.St} {H : Hp} {x : V} {us : List Value} {Q : VK} (I : Inv X pins σ H s) (rv : Vals [x, .ty c] us) (t : TyX X.K H x (.type T)) (k : kitB T c = some b) (q : Q (.bl b) H) :
    wpAny (model X.prog X.w) X.A (call (.builtin "isinstance") us) (EP X pins σ Q) X.xe s :=
  call_isi pins s σ H _ us Q I rv ⟨x, .ty c, _, _, b, rfl, .ty c, t, kit_ty k, q⟩
theorem cr_blt (hc : X.calm = true) {b : Blt} : CallR X (bltV b) (rBlt X.K b) := by
  intro pins s σ H vs us Q I rv h
  obtain ⟨L, M, ds, xs, d, ev, r, hx, e, f⟩ := h
  unfold bltS at e
  split at e
  · split at e
    · rename_i hl
      cases e
      obtain ⟨v, rfl, h1⟩ := hx.inv1
      subst ev
      exact call_len_str pins s σ H _ us Q I rv ⟨_, by rw [h1.1]; rfl, hl, f _ rfl⟩
    · cases e
  · split at e
    · rename_i q
      cases e
      obtain ⟨v, rfl, h1⟩ := hx.inv1
      subst ev
      obtain ⟨a, ks, z1, z2, z3⟩ := dK_of r q
      obtain ⟨sl, y1, rfl⟩ := h1
      rw [z1] at y1
      cases y1
      exact call_lenD pins s σ H _ us Q I rv ⟨a, ks, rfl, z2, f _ (by rw [z3.length]; rfl)⟩
    · cases e
  · rename_i i
    cases e
    obtain ⟨v, rfl, h1⟩ := hx.inv1
    subst ev
    refine call_abs pins s σ H _ us Q I rv ⟨i, by rw [show v = V.int i from h1]; rfl, f _ ?_⟩
    show V.int _ = V.int _
    congr 1
    split <;> omega
  · rename_i i
    cases e
    obtain ⟨v, rfl, h1⟩ := hx.inv1
    subst ev
    obtain ⟨u, rfl, ru⟩ := vals1 rv
    rw [show v = V.int i from h1] at ru
    obtain ⟨t, rfl⟩ := ru
    exact call_int_int ⟨.int i, H, I, ⟨t, rfl⟩, f _ rfl⟩
  · rename_i k
    cases e
    obtain ⟨v, rfl, h1⟩ := hx.inv1
    subst ev
    obtain ⟨u, rfl, ru⟩ := vals1 rv
    rw [show v = V.bl k from h1] at ru
    obtain rfl : u = Value.bool k := ru
    exact call_int_bool ⟨.int (if k then 1 else 0), H, I.tok _, ⟨_, rfl⟩, f _ rfl⟩
  all_goals first
    | (cases e
       obtain ⟨v, rfl, h1⟩ := hx.inv1
       subst ev
       exact isi_ok I rv (tyX_of rfl h1) (by decide +kernel) (f _ rfl))
    | (cases e
       obtain ⟨v, w', rfl, h1, h2⟩ := hx.inv2
       subst ev
       refine call_max2 hc pins s σ H _ us Q I rv ⟨_, _, by rw [show v = V.int _ from h1, show w' = V.int _ from h2]; rfl, f _ ?_⟩
       show V.int _ = V.int _
       congr 1
       split <;> omega)
    | (cases e
       obtain ⟨v, w', rfl, h1, h2⟩ := hx.inv2
       subst ev
       refine call_min2 hc pins s σ H _ us Q I rv ⟨_, _, by rw [show v = V.int _ from h1, show w' = V.int _ from h2]; rfl, f _ ?_⟩
       show V.int _ = V.int _
       congr 1
       split <;> omega)
    | cases e

/-! ### methods -/
def mtId : Mt → String
  | .append => "list.append"
  | .insert => "list.insert"
  | .pop => "list.pop"
  | .popAt => "list.pop"
  | .index => "list.index"
  | .remove => "list.remove"
  | .get1 => "dict.get"
  | .get2 => "dict.get"
  | .put => ""
def rMth (K : PySem.W.Frag) (m : Mt) : V → List V → Hp → VK → Prop := fun x vs H Q => ∃ L M dx ds d M', Rep K H L M ∧ RD K H L dx x ∧ RDs K H L ds vs ∧ mthS m dx ds M = some (d, M') ∧ Fin1 K H L M' d Q
theorem findIdx_at {x : D} : ∀ {ds : List D} {j : Nat}, ds.findIdx? (fun d => eqD d x) = some j → ∃ d, ds[j]? = some d ∧ eqD d x = true ∧ ∀ (m : Nat) (d' : D), m < j → ds[m]? = some d' → eqD d' x = false := by
  intro ds j h
  rw [List.findIdx?_eq_some_iff_getElem] at h
  obtain ⟨hj, h1, h2⟩ := h
  refine ⟨ds[j], List.getElem?_eq_getElem hj, h1, fun m d' hm hd => ?_⟩
  have hm2 : m < ds.length := Nat.lt_trans hm hj
  rw [List.getElem?_eq_getElem hm2] at hd
  cases hd
  have := h2 m hm
  simpa using this
theorem toPys_get {ds : List D} {j : Nat} : (toPys ds)[j]? = (ds[j]?).map toPy := by
  rw [toPys_map, List.getElem?_map]
theorem mt_mth (hu : X.A.units + 65 < cLine) {m : Mt} (hm : m ≠ .remove) : MtR X (mtId m) (rMth X.K m) := by
  intro pins s σ H x vs v us Q I rx rv h
  obtain ⟨L, M, dx, ds, d, M', r, hx, hd, e, f⟩ := h
  unfold mthS at e
  split at e
  · split at e
    · rename_i xs z
      split at e
      · rename_i hl
        cases e
        obtain ⟨a, ys, z1, z2, z3⟩ := list_of r z
        obtain ⟨sl, y1, rfl⟩ := hx
        rw [z1] at y1
        cases y1
        obtain ⟨y, rfl, h1⟩ := hd.inv1
        exact mt_append pins s σ H _ _ v us Q I rx rv ⟨a, ys, y, rfl, rfl, z2, by rw [← z3.length]; exact hl, f.setL r z1 (z3.snoc h1) rfl⟩
      · cases e
    · cases e
  · split at e
    · rename_i xs z
      split at e
      · rename_i hl
        obtain ⟨c1, c2, c3⟩ := hl
        cases e
        obtain ⟨a, ys, z1, z2, z3⟩ := list_of r z
        obtain ⟨sl, y1, rfl⟩ := hx
        rw [z1] at y1
        cases y1
        obtain ⟨y, y', rfl, h1, h2⟩ := hd.inv2
        refine mt_insert pins s σ H _ _ v us Q I rx rv ⟨a, ys, _, y', rfl, by rw [show y = V.int _ from h1], z2, by rw [← z3.length]; exact c3, c1, ?_, f.setL r z1 ?_ rfl⟩
        · have := (show xs.length < 16777216 from c3)
          omega
        · rename_i m0 o0 ds0 n k dd x0
          have := (z3.take k.toNat).append ((RDs.one h2).append (z3.drop k.toNat))
          simpa using this
      · cases e
    · cases e
  · split at e
    · rename_i xs z
      split at e
      · rename_i y hy
        cases e
        obtain ⟨a, ys, z1, z2, z3⟩ := list_of r z
        obtain ⟨sl, y1, rfl⟩ := hx
        rw [z1] at y1
        cases y1
        obtain ⟨w', e1, r1⟩ := z3.get hy
        rw [z3.length] at e1
        have ev : vs = [] := hd
        exact mt_pop pins s σ H _ _ v us Q I rx rv ⟨a, ys, w', rfl, ev, z2, e1, f.setL r z1 z3.dropLast r1⟩
      · cases e
    · cases e
  · split at e
    · rename_i xs z
      split at e
      · rename_i hl
        split at e
        · rename_i y hy
          cases e
          obtain ⟨c1, c2⟩ := hl
          obtain ⟨a, ys, z1, z2, z3⟩ := list_of r z
          obtain ⟨sl, y1, rfl⟩ := hx
          rw [z1] at y1
          cases y1
          obtain ⟨y0, rfl, h1⟩ := hd.inv1
          obtain ⟨w', e1, r1⟩ := z3.get hy
          obtain ⟨_, _, hz⟩ := I.lst z2
          have hlen := z3.length
          have hsl : sizeLine = 16777216 := by decide
          refine mt_popAt pins s σ H _ _ v us Q I rx rv ⟨a, ys, _, _, w', rfl, by rw [show y0 = V.int _ from h1], z2, by omega, by omega, ?_, e1, f.setL r z1 (z3.eraseIdx _) r1⟩
          exact seqIndex_of c1 (by omega)
        · cases e
      · cases e
    · cases e
  · split at e
    · rename_i xs z
      split at e
      · rename_i hp
        simp only [Bool.and_eq_true] at hp
        obtain ⟨a, ys, z1, z2, z3⟩ := list_of r z
        obtain ⟨sl, y1, rfl⟩ := hx
        rw [z1] at y1
        cases y1
        obtain ⟨y, rfl, h1⟩ := hd.inv1
        rename_i dd x0
        cases ei : xs.findIdx? (fun x => eqD x dd) with
        | none => rw [ei] at e; cases e
        | some j =>
          rw [ei] at e
          cases e
          obtain ⟨w', e1, e2, e3⟩ := findIdx_at ei
          obtain ⟨g1, g2⟩ := RD.shaped hp.1 h1
          obtain ⟨g3, g4⟩ := z3.shaped hp.2 (SqL.of z2)
          have hc := plainDs_mem hp.2
          refine mt_indexD hu pins s σ H _ _ v us Q I rx rv ⟨a, y, _, _, j, toPy w', rfl, rfl, g3, g1, g4, g2, by rw [toPys_get, e1]; rfl, ?_, fun m z' hm hz => ?_, f.here r rfl⟩
          · rw [toPy_eqv _ _ (plainD_closed (hc w' (List.mem_of_getElem? e1))) (plainD_closed hp.1)]
            exact e2
          · rw [toPys_get] at hz
            cases em : xs[m]? with
            | none => rw [em] at hz; cases hz
            | some d' =>
              rw [em] at hz
              cases hz
              rw [toPy_eqv _ _ (plainD_closed (hc d' (List.mem_of_getElem? em))) (plainD_closed hp.1)]
              exact e3 m d' hm em
      · cases e
    · cases e
  · exact absurd rfl hm
  · split at e
    · rename_i kvs z
      obtain ⟨a, ks, z1, z2, z3⟩ := dK_of r z
      obtain ⟨sl, y1, rfl⟩ := hx
      rw [z1] at y1
      cases y1
      obtain ⟨y, rfl, h1⟩ := hd.inv1
      rename_i k x0
      cases ek : keyOf k with
      | none => rw [ek] at e; cases e
      | some key =>
        rw [ek] at e
        cases e
        obtain ⟨u, rfl, ru⟩ := vals1 rv
        obtain rfl : v = Value.ref a := rx
        refine d_get1 (by omega) I (.inl ⟨_, key, .inl z2, keyOf_rd ek h1, rfl⟩) ru fun w' s3 I3 rw' => ⟨_, H, I3, rw', f.here r ?_⟩
        obtain ⟨q1, q2⟩ := z3.get key
        cases eg : getK kvs key with
        | none => rw [q2 eg]; rfl
        | some d => obtain ⟨v', e1, r1⟩ := q1 d eg; rw [e1]; exact r1
    · cases e
  · split at e
    · rename_i kvs z
      obtain ⟨a, ks, z1, z2, z3⟩ := dK_of r z
      obtain ⟨sl, y1, rfl⟩ := hx
      rw [z1] at y1
      cases y1
      obtain ⟨y, y', rfl, h1, h2⟩ := hd.inv2
      rename_i k dd x0
      cases ek : keyOf k with
      | none => rw [ek] at e; cases e
      | some key =>
        rw [ek] at e
        cases e
        obtain ⟨u, u', rfl, ru, ru'⟩ := vals2 rv
        obtain rfl : v = Value.ref a := rx
        refine d_get2 (by omega) I (.inl ⟨_, key, .inl z2, keyOf_rd ek h1, rfl⟩) ru ru' fun w' s3 I3 rw' => ⟨_, H, I3, rw', f.here r ?_⟩
        obtain ⟨q1, q2⟩ := z3.get key
        cases eg : getK kvs key with
        | none => rw [q2 eg]; exact h2
        | some d => obtain ⟨v', e1, r1⟩ := q1 d eg; rw [e1]; exact r1
    · cases e
  · cases e
/-! ### o[i] = v -/
def tPut (K : PySem.W.Frag) : TSet := fun o i v H Q => ∃ L M x y d M', Rep K H L M ∧ RD K H L x o ∧ RD K H L y i ∧ RD K H L d v ∧ putS x y d M = some M' ∧ ∀ H' , Grow H H' L L → Rep K H' L M' → Q H'
theorem set_put (hu : X.A.units + 1 < cLine) : PSet X (tPut X.K) := by
  intro pins s σ H o i v ov iv u Q I ro ri rv h
  obtain ⟨L, M, x, y, d, M', r, hx, hy, hd, e, f⟩ := h
  unfold putS at e
  split at e
  · split at e
    · rename_i xs z
      split at e
      · rename_i k
        cases q : ixN xs.length k with
        | none => rw [q] at e; cases e
        | some j =>
          rw [q] at e
          cases e
          obtain ⟨a, ys, z1, z2, z3⟩ := list_of r z
          obtain ⟨sl, y1, rfl⟩ := hx
          rw [z1] at y1
          cases y1
          have g : Grow H (upd H a (.lst (ys.set j v))) L L := Grow.write r z1
          exact set_list pins s σ H _ _ v ov iv u Q I ro ri rv ⟨a, ys, k, j, rfl, hy, z2, by rw [← z3.length]; exact q, f _ g (r.write z1 ⟨_, upd_same, RDs.mono g _ _ (z3.set j hd)⟩)⟩
      · cases e
    · rename_i kvs z
      cases ek : keyOf y with
      | none => rw [ek] at e; cases e
      | some key =>
        rw [ek] at e
        simp only [Option.bind] at e
        split at e
        · rename_i hl
          cases e
          obtain ⟨a, ks, z1, z2, z3⟩ := dK_of r z
          obtain ⟨sl, y1, rfl⟩ := hx
          rw [z1] at y1
          cases y1
          have g : Grow H (upd H a (.dK (putK ks key v))) L L := Grow.write r z1
          obtain rfl : ov = Value.ref a := ro
          exact d_setItem hu I (.inl ⟨ks, key, z2, keyOf_rd ek hy, by rw [← z3.length]; exact hl, rfl⟩) ri rv fun s' I' => ⟨_, I', f _ g (r.write z1 ⟨_, upd_same, (z3.put hd).mono g⟩)⟩
        · cases e
    · cases e
  · cases e
end
end PS

set_option Elab.async false
set_option linter.all false
set_option maxRecDepth 100000
set_option maxHeartbeats 4000000
/-! PS7: readings that the evaluator gives; one lemma a construct. -/
namespace PS
open PySem PySem.Spec PyProof.Rows L2

/-! ### readings -/
def tD (K : PySem.W.Frag) (f : Env → Store → R D) : TE := fun σ H Q => ∃ ρ L M d M', RE K H L ρ σ ∧ Rep K H L M ∧ f ρ M = some (d, M') ∧ Fin1 K H L M' d Q
def tBl (K : PySem.W.Frag) (f : Env → Store → R Bool) : TT := fun σ H Q => ∃ ρ L M b M', RE K H L ρ σ ∧ Rep K H L M ∧ f ρ M = some (b, M') ∧ ∀ H' L', Grow H H' L L' → Rep K H' L' M' → Q b H'
def tDs (K : PySem.W.Frag) (f : Env → Store → R (List D)) : TA := fun σ H Q => ∃ ρ L M ds M', RE K H L ρ σ ∧ Rep K H L M ∧ f ρ M = some (ds, M') ∧ ∀ vs H' L', Grow H H' L L' → Rep K H' L' M' → RDs K H' L' ds vs → Q vs H'
/-- a new list -/
def tLn (K : PySem.W.Frag) (f : Env → Store → R (List D)) : TE := fun σ H Q => ∃ ρ L M ds M', RE K H L ρ σ ∧ Rep K H L M ∧ f ρ M = some (ds, M') ∧
  ∀ a xs H' L', Grow H H' L L' → Rep K H' L' M' → H a = none → Place.w a ∉ L' → H' a = some (.lst xs) → RDs K H' L' ds xs → Q (.ref a) H'
def tQv (K : PySem.W.Frag) (f : Env → Store → R QV) : TE := fun σ H Q => ∃ ρ L M q M', RE K H L ρ σ ∧ Rep K H L M ∧ f ρ M = some (q, M') ∧ ∀ v H' L', Grow H H' L L' → Rep K H' L' M' → RQ K H' L' q v → Q v H'
def tPo (K : PySem.W.Frag) (f : Env → Store → R (Option Int)) : TO := fun σ H Q => ∃ ρ L M o M', RE K H L ρ σ ∧ Rep K H L M ∧ f ρ M = some (o, M') ∧ ∀ H' L', Grow H H' L L' → Rep K H' L' M' → Q o H'

section
variable {X : Cx} {e a b : Expr} {es : List Expr} {pos : Pos} {t t' : TE}
theorem _root_.L2.PE.imp (h : PE X e t) (i : ∀ σ H Q, t' σ H Q → t σ H Q) : PE X e t' := ⟨fun pins s σ H Q I q => h.run pins s σ H Q I (i σ H Q q)⟩
theorem _root_.L2.PT.imp {t t' : TT} (h : PT X e t) (i : ∀ σ H Q, t' σ H Q → t σ H Q) : PT X e t' := ⟨fun pins s σ H Q I q => h.run pins s σ H Q I (i σ H Q q)⟩
theorem _root_.L2.PW.imp {t t' : TT} (h : PW X e t) (i : ∀ σ H Q, t' σ H Q → t σ H Q) : PW X e t' := ⟨fun w pins s σ H Q I q => h.run w pins s σ H Q I (i σ H Q q)⟩
theorem _root_.L2.PA.imp {t t' : TA} (h : PA X es t) (i : ∀ σ H Q, t' σ H Q → t σ H Q) : PA X es t' := ⟨fun p pins s σ H Q I q => h.run p pins s σ H Q I (i σ H Q q)⟩
theorem _root_.L2.PO.imp {o : Option Expr} {t t' : TO} (h : PO X o t) (i : ∀ σ H Q, t' σ H Q → t σ H Q) : PO X o t' := ⟨fun pins s σ H Q I q => h.run pins s σ H Q I (i σ H Q q)⟩
abbrev SE (X : Cx) (e : Expr) (f : Env → Store → R D) : Prop := PE X e (tD X.K f)
abbrev SB (X : Cx) (e : Expr) (f : Env → Store → R Bool) : Prop := PT X e (tBl X.K f)
abbrev SA (X : Cx) (es : List Expr) (f : Env → Store → R (List D)) : Prop := PA X es (tDs X.K f)
abbrev SL (X : Cx) (e : Expr) (f : Env → Store → R (List D)) : Prop := PE X e (tLn X.K f)
abbrev SQ (X : Cx) (e : Expr) (f : Env → Store → R QV) : Prop := PE X e (tQv X.K f)
abbrev SP' (X : Cx) (e : Option Expr) (f : Env → Store → R (Option Int)) : Prop := PO X e (tPo X.K f)
variable {f g : Env → Store → R D}
/-- where the two evaluators agree -/
theorem SE.cast (h : SE X e f) (i : f = g) : SE X e g := i ▸ h

/-! ### names, constants -/
theorem se_var {i : Nat} {x : Str} (hN : X.N[i]? = some x) (hv : Vis X.env.scope x) (hd : (x == ("__debug__" : Str)) = false) (hcd : (x == ("__classdict__" : Str)) = false) : SE X (.Name x pos) (fun ρ M => match ρ[i]? with | some (some d) => some (d, M) | _ => none) := by
  refine (pe_var hN hv hd hcd).imp fun σ H Q h => ?_
  obtain ⟨ρ, L, M, d, M', r, p, e, q⟩ := h
  try dsimp only at e
  split at e
  · rename_i d' z
    cases e
    obtain ⟨v, e1, r1⟩ := r.at_ i _ z
    exact ⟨v, e1, q.here p r1⟩
  · cases e
theorem se_con {d : D} {v : V} (h : PE X e (tC v)) (r : ∀ H L, RD X.K H L d v) : SE X e (fun _ M => some (d, M)) := by
  refine h.imp fun σ H Q h => ?_
  obtain ⟨ρ, L, M, d, M', _, p, e, q⟩ := h
  try dsimp only at e
  cases e
  exact q.here p (r _ _)

/-! ### two in a row -/
theorem two {K : PySem.W.Frag} {σ : L2.St} {H : Hp} {ρ : Env} {L : List Place} {M M1 M2 : Store} {x y : D} {P : V → V → Hp → Prop} (r : RE K H L ρ σ) (p : Rep K H L M) (e1 : f ρ M = some (x, M1)) (e2 : g ρ M1 = some (y, M2))
    (h : ∀ v u H' L', Grow H H' L L' → Rep K H' L' M2 → RD K H' L' x v → RD K H' L' y u → P v u H') : tD K f σ H fun v H1 => tD K g σ H1 fun u H2 => P v u H2 :=
  ⟨ρ, L, M, x, M1, r, p, e1, fun v H1 L1 g1 p1 r1 => ⟨ρ, L1, M1, y, M2, r.mono g1, p1, e2, fun u H2 L2 g2 p2 r2 => h v u H2 L2 (g1.trans g2) p2 (RD.mono g2 _ _ r1) r2⟩⟩
theorem se_bin {o : Operator} (ha : SE X a f) (hb : SE X b g) : SE X (.BinOp a o b pos) (fun ρ M => match f ρ M with
    | some (x, M1) => match g ρ M1 with
      | some (y, M2) => binS o x y M2
      | none => none
    | none => none) := by
  refine (pe_op op_bin ha hb).imp fun σ H Q h => ?_
  obtain ⟨ρ, L, M, d, M', r, p, e, q⟩ := h
  try dsimp only at e
  split at e
  · split at e
    · rename_i e1 _ _ _ e2
      exact two r p e1 e2 fun v u H2 L2 g2 p2 r1 r2 => ⟨L2, _, _, _, d, M', p2, r1, r2, e, q.later g2⟩
    · cases e
  · cases e
theorem se_cmp {o : CmpOp} (hu : X.A.units + 65 < cLine) (hm : behindInMarks o b = false) (ha : SE X a f) (hb : SE X b g) : SE X (.Compare a [o] [b] pos) (fun ρ M => match f ρ M with
    | some (x, M1) => match g ρ M1 with
      | some (y, M2) => (cmpS o x y).map fun k => (.bl k, M2)
      | none => none
    | none => none) := by
  refine (pe_cmpR (op_cmp (by omega)) ha hb hm).imp fun σ H Q h => ?_
  obtain ⟨ρ, L, M, d, M', r, p, e, q⟩ := h
  try dsimp only at e
  split at e
  · split at e
    · rename_i x _ e1 _ y M2 e2
      cases z : cmpS o x y with
      | none => rw [z] at e; cases e
      | some k =>
        rw [z] at e
        cases e
        exact two r p e1 e2 fun v u H2 L2 g2 p2 r1 r2 => ⟨L2, _, _, k, r1, r2, z, (q.later g2).here p2 rfl⟩
    · cases e
  · cases e
theorem se_neg (ha : SE X a f) : SE X (.UnaryOp .USub a pos) (fun ρ M => match f ρ M with
    | some (.int i, M1) => some (.int (-i), M1)
    | _ => none) := by
  refine (pe_un un_neg ha).imp fun σ H Q h => ?_
  obtain ⟨ρ, L, M, d, M', r, p, e, q⟩ := h
  try dsimp only at e
  split at e
  · rename_i i M1 e1
    cases e
    exact ⟨ρ, L, M, _, _, r, p, e1, fun v H1 L1 g1 p1 r1 => ⟨i, r1, (q.later g1).here p1 rfl⟩⟩
  · cases e

/-! ### truth -/
def evT (f : Env → Store → R D) (ρ : Env) (M : Store) : R Bool := match f ρ M with
  | some (x, M1) => (truth M1 x).map fun k => (k, M1)
  | none => none
/-- a plain expression as a test -/
theorem sb_of (ha : SE X a f) (he : ∀ whole, isTrue a X.env whole = (do let v ← whole; standAt a.pos; holding [v] (truthy v))) : SB X a (evT f) := by
  refine (pt_truth ha he).imp fun σ H Q h => ?_
  obtain ⟨ρ, L, M, k, M', r, p, e, q⟩ := h
  try dsimp only at e
  unfold evT at e
  split at e
  · rename_i x M1 e1
    cases z : truth M1 x with
    | none => rw [z] at e; cases e
    | some k' =>
      rw [z] at e
      cases e
      exact ⟨ρ, L, M, x, _, r, p, e1, fun v H1 L1 g1 p1 r1 => ⟨k, truth_ok p1 r1 z, q H1 L1 g1 p1⟩⟩
  · cases e
theorem se_nt (ha : SE X a f) : SE X (.UnaryOp .Not a pos) (fun ρ M => match f ρ M with
    | some (x, M1) => (truth M1 x).map fun k => (.bl (!k), M1)
    | none => none) := by
  refine (pe_notT ha).imp fun σ H Q h => ?_
  obtain ⟨ρ, L, M, d, M', r, p, e, q⟩ := h
  try dsimp only at e
  split at e
  · rename_i x M1 e1
    cases z : truth M1 x with
    | none => rw [z] at e; cases e
    | some k =>
      rw [z] at e
      cases e
      exact ⟨ρ, L, M, x, _, r, p, e1, fun v H1 L1 g1 p1 r1 => ⟨k, truth_ok p1 r1 z, (q.later g1).here p1 rfl⟩⟩
  · cases e
theorem sb_nt (ha : SB X a (evT f)) : SB X (.UnaryOp .Not a pos) (evT (fun ρ M => match f ρ M with
    | some (x, M1) => (truth M1 x).map fun k => (.bl (!k), M1)
    | none => none)) := by
  refine (pt_not ha).imp fun σ H Q h => ?_
  obtain ⟨ρ, L, M, d, M', r, p, e, q⟩ := h
  try dsimp only at e
  unfold evT at e
  split at e
  · rename_i x M1 e1
    try dsimp only at e1
    split at e1
    · rename_i y M2 e2
      cases z : truth M2 y with
      | none => rw [z] at e1; cases e1
      | some k =>
        rw [z] at e1
        cases e1
        cases e
        exact ⟨ρ, L, M, k, M', r, p, by unfold evT; rw [e2]; simp only []; rw [z]; rfl, q⟩
    · cases e1
  · cases e
def evAnd (f g : Env → Store → R D) (ρ : Env) (M : Store) : R D := match f ρ M with
  | some (x, M1) => match truth M1 x with
    | some true => g ρ M1
    | some false => some (x, M1)
    | none => none
  | none => none
def evOr (f g : Env → Store → R D) (ρ : Env) (M : Store) : R D := match f ρ M with
  | some (x, M1) => match truth M1 x with
    | some true => some (x, M1)
    | some false => g ρ M1
    | none => none
  | none => none
theorem se_one {op : BoolOp} (h : SE X a f) : SE X (.BoolOp op [a] pos) f := pe_one h
theorem se_and {rest : List Expr} (ha : SE X a f) (hb : SE X (.BoolOp .And (b :: rest) pos) g) : SE X (.BoolOp .And (a :: b :: rest) pos) (evAnd f g) := by
  refine (pe_andT ha hb).imp fun σ H Q h => ?_
  obtain ⟨ρ, L, M, d, M', r, p, e, q⟩ := h
  try dsimp only at e
  unfold evAnd at e
  split at e
  · rename_i x M1 e1
    refine ⟨ρ, L, M, x, _, r, p, e1, fun v H1 L1 g1 p1 r1 => ?_⟩
    split at e
    · rename_i z
      exact ⟨true, truth_ok p1 r1 z, by rw [if_pos rfl]; exact ⟨ρ, L1, M1, d, M', r.mono g1, p1, e, q.later g1⟩⟩
    · rename_i z
      cases e
      exact ⟨false, truth_ok p1 r1 z, (q.later g1).here p1 r1⟩
    · cases e
  · cases e
theorem se_or {rest : List Expr} (ha : SE X a f) (hb : SE X (.BoolOp .Or (b :: rest) pos) g) : SE X (.BoolOp .Or (a :: b :: rest) pos) (evOr f g) := by
  refine (pe_orT ha hb).imp fun σ H Q h => ?_
  obtain ⟨ρ, L, M, d, M', r, p, e, q⟩ := h
  try dsimp only at e
  unfold evOr at e
  split at e
  · rename_i x M1 e1
    refine ⟨ρ, L, M, x, _, r, p, e1, fun v H1 L1 g1 p1 r1 => ?_⟩
    split at e
    · rename_i z
      cases e
      exact ⟨true, truth_ok p1 r1 z, by rw [if_pos rfl]; exact (q.later g1).here p1 r1⟩
    · rename_i z
      exact ⟨false, truth_ok p1 r1 z, ⟨ρ, L1, M1, d, M', r.mono g1, p1, e, q.later g1⟩⟩
    · cases e
  · cases e
abbrev SW (X : Cx) (e : Expr) (f : Env → Store → R Bool) : Prop := PW X e (tBl X.K f)
theorem sw_and1 (h : SB X a (evT f)) : SW X (.BoolOp .And [a] pos) (evT f) := pw_and1 h
theorem sw_or1 (h : SB X a (evT f)) : SW X (.BoolOp .Or [a] pos) (evT f) := pw_or1 h
theorem sw_and {rest : List Expr} (ha : SB X a (evT f)) (hb : SW X (.BoolOp .And (b :: rest) pos) (evT g)) : SW X (.BoolOp .And (a :: b :: rest) pos) (evT (evAnd f g)) := by
  refine (pw_and ha hb).imp fun σ H Q h => ?_
  obtain ⟨ρ, L, M, d, M', r, p, e, q⟩ := h
  try dsimp only at e
  unfold evT at e
  split at e
  · rename_i x M1 e1
    unfold evAnd at e1
    split at e1
    · rename_i y M2 e2
      split at e1
      · rename_i z
        refine ⟨ρ, L, M, true, M2, r, p, by unfold evT; rw [e2]; simp only []; rw [z]; rfl, fun H1 L1 g1 p1 => ?_⟩
        refine iteT ?_
        exact ⟨ρ, L1, M2, d, M', r.mono g1, p1, by unfold evT; rw [e1]; exact e, fun H2 L2 g2 p2 => q H2 L2 (g1.trans g2) p2⟩
      · rename_i z
        cases e1
        rw [z] at e
        cases e
        exact ⟨ρ, L, M, false, _, r, p, by unfold evT; rw [e2]; simp only []; rw [z]; rfl, fun H1 L1 g1 p1 => q H1 L1 g1 p1⟩
      · cases e1
    · cases e1
  · cases e
theorem sw_or {rest : List Expr} (ha : SB X a (evT f)) (hb : SW X (.BoolOp .Or (b :: rest) pos) (evT g)) : SW X (.BoolOp .Or (a :: b :: rest) pos) (evT (evOr f g)) := by
  refine (pw_or ha hb).imp fun σ H Q h => ?_
  obtain ⟨ρ, L, M, d, M', r, p, e, q⟩ := h
  try dsimp only at e
  unfold evT at e
  split at e
  · rename_i x M1 e1
    unfold evOr at e1
    split at e1
    · rename_i y M2 e2
      split at e1
      · rename_i z
        cases e1
        rw [z] at e
        cases e
        exact ⟨ρ, L, M, true, _, r, p, by unfold evT; rw [e2]; simp only []; rw [z]; rfl, fun H1 L1 g1 p1 => iteT (q H1 L1 g1 p1)⟩
      · rename_i z
        refine ⟨ρ, L, M, false, M2, r, p, by unfold evT; rw [e2]; simp only []; rw [z]; rfl, fun H1 L1 g1 p1 => ?_⟩
        exact ⟨ρ, L1, M2, d, M', r.mono g1, p1, by unfold evT; rw [e1]; exact e, fun H2 L2 g2 p2 => q H2 L2 (g1.trans g2) p2⟩
      · cases e1
    · cases e1
  · cases e
theorem se_ife {c : Expr} {h : Env → Store → R D} (hc : SB X c (evT h)) (ha : SE X a f) (hb : SE X b g) : SE X (.IfExp c a b pos) (fun ρ M => match h ρ M with
    | some (x, M1) => match truth M1 x with
      | some true => f ρ M1
      | some false => g ρ M1
      | none => none
    | none => none) := by
  refine (pe_ifExp hc ha hb).imp fun σ H Q h => ?_
  obtain ⟨ρ, L, M, d, M', r, p, e, q⟩ := h
  try dsimp only at e
  split at e
  · rename_i x M1 e1
    split at e
    · rename_i z
      refine ⟨ρ, L, M, true, M1, r, p, by unfold evT; rw [e1]; simp only []; rw [z]; rfl, fun H1 L1 g1 p1 => ?_⟩
      refine iteT ?_
      exact ⟨ρ, L1, M1, d, M', r.mono g1, p1, e, q.later g1⟩
    · rename_i z
      refine ⟨ρ, L, M, false, M1, r, p, by unfold evT; rw [e1]; simp only []; rw [z]; rfl, fun H1 L1 g1 p1 => ?_⟩
      exact ⟨ρ, L1, M1, d, M', r.mono g1, p1, e, q.later g1⟩
    · cases e
  · cases e

/-! ### argument lists, displays -/
theorem sa_nil : SA X [] (fun _ M => some ([], M)) := by
  refine pa_nil.imp fun σ H Q h => ?_
  obtain ⟨ρ, L, M, d, M', r, p, e, q⟩ := h
  try dsimp only at e
  cases e
  exact q [] H L (Grow.refl _ _) p rfl
theorem sa_cons {fs : Env → Store → R (List D)} (ha : SE X a f) (hs : SA X es fs) (hst : starEach (a :: es) X.env = (false, eval a X.env) :: starEach es X.env) : SA X (a :: es) (fun ρ M => match f ρ M with
    | some (d, M1) => match fs ρ M1 with
      | some (ds, M2) => some (d :: ds, M2)
      | none => none
    | none => none) := by
  refine (pa_cons ha hs hst).imp fun σ H Q h => ?_
  obtain ⟨ρ, L, M, d, M', r, p, e, q⟩ := h
  try dsimp only at e
  split at e
  · split at e
    · rename_i e1 _ _ _ e2
      cases e
      exact ⟨ρ, L, M, _, _, r, p, e1, fun v H1 L1 g1 p1 r1 => ⟨ρ, L1, _, _, _, r.mono g1, p1, e2, fun vs H2 L2 g2 p2 r2 => q _ H2 L2 (g1.trans g2) p2 ⟨v, vs, rfl, RD.mono g2 _ _ r1, r2⟩⟩⟩
    · cases e
  · cases e
theorem se_tup {fs : Env → Store → R (List D)} {k : Nat} (h : SA X es fs) : SE X (.Tuple es k pos) (fun ρ M => match fs ρ M with
    | some (ds, M1) => if ds.length ≤ lim then some (.tup ds, M1) else none
    | none => none) := by
  refine (pe_tup h).imp fun σ H Q h => ?_
  obtain ⟨ρ, L, M, d, M', r, p, e, q⟩ := h
  try dsimp only at e
  split at e
  · rename_i ds M1 e1
    split at e
    · rename_i hl
      cases e
      exact ⟨ρ, L, M, _, _, r, p, e1, fun vs H1 L1 g1 p1 r1 => ⟨by rw [← r1.length]; exact hl, fun a ha => (q.later g1).tuple p1 r1 ha⟩⟩
    · cases e
  · cases e
theorem sl_disp {fs : Env → Store → R (List D)} (h : SA X es fs) : SL X (.List es pos) (fun ρ M => match fs ρ M with
    | some (ds, M1) => if ds.length ≤ lim then some (ds, M1) else none
    | none => none) := by
  refine (pe_lst h).imp fun σ H Q h => ?_
  obtain ⟨ρ, L, M, d, M', r, p, e, q⟩ := h
  try dsimp only at e
  split at e
  · rename_i ds M1 e1
    split at e
    · rename_i hl
      cases e
      refine ⟨ρ, L, M, _, _, r, p, e1, fun vs H1 L1 g1 p1 r1 => ⟨by rw [← r1.length]; exact hl, fun a ha => ?_⟩⟩
      have g2 : Grow H1 (upd H1 a (.lst vs)) L1 L1 := Grow.fresh ha
      refine q a vs _ L1 (g1.trans g2) (Rep.fresh ha p1) ?_ (p1.free ha) upd_same (RDs.mono g2 _ _ r1)
      cases z : H a with
      | none => rfl
      | some o =>
        by_cases hm : Place.w a ∈ L
        · exact absurd (g1.mem hm) (p1.free ha)
        · have := g1.keep a o z hm
          rw [ha] at this
          cases this
    · cases e
  · cases e
/-- a new list becomes a place of the store -/
theorem se_ofL {fl : Env → Store → R (List D)} (h : SL X e fl) : SE X e (fun ρ M => match fl ρ M with
    | some (ds, M1) => some (.ref M1.length, M1 ++ [.lst ds])
    | none => none) := by
  refine h.imp fun σ H Q h => ?_
  obtain ⟨ρ, L, M, d, M', r, p, e, q⟩ := h
  try dsimp only at e
  split at e
  · rename_i ds M1 e1
    cases e
    refine ⟨ρ, L, M, ds, M1, r, p, e1, fun a xs H1 L1 g1 p1 h0 hn h1 r1 => ?_⟩
    refine q _ H1 (L1 ++ [.w a]) (g1.take h0) (p1.take (o := .lst ds) hn ⟨xs, h1, r1⟩) ⟨.w a, ?_, rfl⟩
    rw [← p1.len, List.getElem?_append_right (Nat.le_refl _)]
    simp
  · cases e
theorem se_dctK : SE X (.Dict [] [] pos) (fun _ M => some (.ref M.length, M ++ [.dK []])) := by
  refine pe_dnewK.imp fun σ H Q h => ?_
  obtain ⟨ρ, L, M, d, M', r, p, e, q⟩ := h
  try dsimp only at e
  cases e
  exact fun a ha => q.dictK p .nil ha

/-! ### sequences -/
theorem sq_val (h : SE X e f) : SQ X e (fun ρ M => match f ρ M with
    | some (d, M1) => some (.val d, M1)
    | none => none) := by
  refine h.imp fun σ H Q h => ?_
  obtain ⟨ρ, L, M, d, M', r, p, e, q⟩ := h
  try dsimp only at e
  split at e
  · rename_i d M1 e1
    cases e
    exact ⟨ρ, L, M, _, _, r, p, e1, fun v H1 L1 g1 p1 r1 => q v H1 L1 g1 p1 r1⟩
  · cases e
theorem sq_lst {fl : Env → Store → R (List D)} (h : SL X e fl) : SQ X e (fun ρ M => match fl ρ M with
    | some (ds, M1) => some (.tmp ds, M1)
    | none => none) := by
  refine h.imp fun σ H Q h => ?_
  obtain ⟨ρ, L, M, d, M', r, p, e, q⟩ := h
  try dsimp only at e
  split at e
  · rename_i d M1 e1
    cases e
    exact ⟨ρ, L, M, _, _, r, p, e1, fun a xs H1 L1 g1 p1 h0 hn h1 r1 => q _ H1 L1 g1 p1 ⟨a, xs, rfl, hn, h1, r1⟩⟩
  · cases e
end
end PS

set_option Elab.async false
set_option linter.all false
set_option maxRecDepth 100000
set_option maxHeartbeats 4000000
/-! PS8: membership, subscripts, slices, calls, methods, expressions that make lists. -/
namespace PS
open PySem PySem.Spec PyProof.Rows L2
section
variable {X : Cx} {e a b : Expr} {es : List Expr} {pos : Pos} {t t' : TE} {f g : Env → Store → R D} {fq gq : Env → Store → R QV}
theorem se_mem {ne : Bool} (hu : X.A.units + 65 < cLine) (hm : behindInMarks (if ne then .NotIn else .In) b = false) (ha : SE X a f) (hb : SQ X b fq) : SE X (.Compare a [if ne then .NotIn else .In] [b] pos) (fun ρ M => match f ρ M with
    | some (x, M1) => match fq ρ M1 with
      | some (y, M2) => (memS x y M2).map fun k => (.bl (if ne then !k else k), M2)
      | none => none
    | none => none) := by
  refine (pe_cmpR (op_mem ne hu) ha hb hm).imp fun σ H Q h => ?_
  obtain ⟨ρ, L, M, d, M', r, p, e, q⟩ := h
  try dsimp only at e
  split at e
  · split at e
    · rename_i x _ e1 _ y M2 e2
      cases z : memS x y M2 with
      | none => rw [z] at e; cases e
      | some k =>
        rw [z] at e
        cases e
        exact ⟨ρ, L, M, _, _, r, p, e1, fun v H1 L1 g1 p1 r1 => ⟨ρ, L1, _, _, _, r.mono g1, p1, e2, fun u H2 L2 g2 p2 r2 => ⟨L2, _, x, y, k, p2, RD.mono g2 _ _ r1, r2, z, (q.later (g1.trans g2)).here p2 rfl⟩⟩⟩
    · cases e
  · cases e
theorem se_eqL {ne : Bool} (hu : X.A.units + 65 < cLine) (hm : behindInMarks (if ne then .NotEq else .Eq) b = false) (ha : SQ X a fq) (hb : SQ X b gq) : SE X (.Compare a [if ne then .NotEq else .Eq] [b] pos) (fun ρ M => match fq ρ M with
    | some (x, M1) => match gq ρ M1 with
      | some (y, M2) => match itemsL M2 x, itemsL M2 y with
        | some xs, some ys => if plainDs xs && plainDs ys then some (.bl (if ne then !eqDs xs ys else eqDs xs ys), M2) else none
        | _, _ => none
      | none => none
    | none => none) := by
  have hop : OpR X (compareOp (if ne then .NotEq else .Eq)) (fun x y H Q => ∃ a b xs ys L ds es, x = .ref a ∧ y = .ref b ∧ SqL X.K H a xs ∧ SqL X.K H b ys ∧ RDs X.K H L ds xs ∧ RDs X.K H L es ys ∧ plainDs ds = true ∧ plainDs es = true ∧ Q (.bl (if ne then !eqDs ds es else eqDs ds es)) H) := by
    intro pins s σ H x y v u Q I rx ry h
    obtain ⟨a, b, xs, ys, L, ds, es, rfl, rfl, h1, h2, r1, r2, p1, p2, q⟩ := h
    obtain ⟨g1, g2⟩ := r1.shaped p1 h1
    obtain ⟨g3, g4⟩ := r2.shaped p2 h2
    have ee : PyData.eqv (.list (toPys ds)) (.list (toPys es)) = eqDs ds es := by
      have c1 : closedDs 0 ds = true := by unfold plainDs at p1; simp only [Bool.and_eq_true] at p1; exact p1.1
      have c2 : closedDs 0 es = true := by unfold plainDs at p2; simp only [Bool.and_eq_true] at p2; exact p2.1
      have := toPys_eqv ds es c1 c2
      simpa [PyData.eqv] using this
    cases ne with
    | true => exact op_neD (by omega) pins s σ H _ _ v u Q I rx ry ⟨_, _, g1, g3, g2, g4, by rw [ee]; exact q⟩
    | false => exact op_eqD (by omega) pins s σ H _ _ v u Q I rx ry ⟨_, _, g1, g3, g2, g4, by rw [ee]; exact q⟩
  refine (pe_cmpR hop ha hb hm).imp fun σ H Q h => ?_
  obtain ⟨ρ, L, M, d, M', r, p, e, q⟩ := h
  try dsimp only at e
  split at e
  · split at e
    · rename_i x _ e1 _ y M2 e2
      split at e
      · rename_i xs ys z1 z2
        split at e
        · rename_i hp
          simp only [Bool.and_eq_true] at hp
          cases e
          refine ⟨ρ, L, M, _, _, r, p, e1, fun v H1 L1 g1 p1 r1 => ⟨ρ, L1, _, _, _, r.mono g1, p1, e2, fun u H2 L2 g2 p2 r2 => ?_⟩⟩
          obtain ⟨a1, xs1, y1, y2, y3⟩ := (r1.mono g2).itemsL p2 z1
          obtain ⟨a2, xs2, y4, y5, y6⟩ := r2.itemsL p2 z2
          exact ⟨a1, a2, xs1, xs2, L2, xs, ys, y1, y4, y2, y5, y3, y6, hp.1, hp.2, (q.later (g1.trans g2)).here p2 rfl⟩
        · cases e
      · cases e
    · cases e
  · cases e
theorem se_idx (hu : X.A.units + 65 < cLine) (hs : PlainIx b) (ha : SQ X a fq) (hb : SE X b f) : SE X (.Subscript a b pos) (fun ρ M => match fq ρ M with
    | some (x, M1) => match f ρ M1 with
      | some (y, M2) => (idxS x y M2).map fun d => (d, M2)
      | none => none
    | none => none) := by
  refine (pe_ix (op_idx (by omega)) ha hb hs).imp fun σ H Q h => ?_
  obtain ⟨ρ, L, M, d, M', r, p, e, q⟩ := h
  try dsimp only at e
  split at e
  · split at e
    · rename_i x _ e1 _ y M2 e2
      cases z : idxS x y M2 with
      | none => rw [z] at e; cases e
      | some k =>
        rw [z] at e
        cases e
        exact ⟨ρ, L, M, _, _, r, p, e1, fun v H1 L1 g1 p1 r1 => ⟨ρ, L1, _, _, _, r.mono g1, p1, e2, fun u H2 L2 g2 p2 r2 => ⟨L2, _, x, y, d, p2, r1.mono g2, r2, z, fun w' rw' => (q.later (g1.trans g2)).here p2 rw'⟩⟩⟩
    · cases e
  · cases e
theorem sp_no : SP' X none (fun _ M => some (none, M)) := by
  refine po_none.imp fun σ H Q h => ?_
  obtain ⟨ρ, L, M, d, M', r, p, e, q⟩ := h
  cases e
  exact q H L (Grow.refl _ _) p
theorem sp_yes (ha : SE X a f) : SP' X (some a) (fun ρ M => match f ρ M with
    | some (.int i, M1) => some (some i, M1)
    | _ => none) := by
  refine (po_some ha).imp fun σ H Q h => ?_
  obtain ⟨ρ, L, M, d, M', r, p, e, q⟩ := h
  try dsimp only at e
  split at e
  · rename_i i M1 e1
    cases e
    exact ⟨ρ, L, M, _, _, r, p, e1, fun v H1 L1 g1 p1 r1 => ⟨i, r1, q H1 L1 g1 p1⟩⟩
  · cases e
theorem se_slc {lo hi : Option Expr} {p2 : Pos} {fl fh : Env → Store → R (Option Int)} (ha : SE X a f) (hl : SP' X lo fl) (hh : SP' X hi fh) : SE X (.Subscript a (.Slice lo hi none p2) pos) (fun ρ M => match f ρ M with
    | some (x, M1) => match fl ρ M1 with
      | some (l, M2) => match fh ρ M2 with
        | some (h, M3) => slcS x l h M3
        | none => none
      | none => none
    | none => none) := by
  refine (pe_slice sl_slc ha hl hh).imp fun σ H Q h => ?_
  obtain ⟨ρ, L, M, d, M', r, p, e, q⟩ := h
  try dsimp only at e
  split at e
  · rename_i x M1 e1
    split at e
    · rename_i l M2 e2
      split at e
      · rename_i h M3 e3
        exact ⟨ρ, L, M, _, _, r, p, e1, fun v H1 L1 g1 p1 r1 => ⟨ρ, L1, _, _, _, r.mono g1, p1, e2, fun H2 L2 g2 p2 => ⟨ρ, L2, _, _, _, r.mono (g1.trans g2), p2, e3, fun H3 L3 g3 p3 =>
          ⟨L3, _, x, d, M', p3, RD.mono (g2.trans g3) _ _ r1, e, q.later ((g1.trans g2).trans g3)⟩⟩⟩⟩
      · cases e
    · cases e
  · cases e
/-- one sequence as an argument list -/
theorem sa_q (ha : SQ X a fq) (hst : starEach [a] X.env = (false, eval a X.env) :: starEach [] X.env) : PA X [a] (fun σ H Q => tQv X.K fq σ H fun v H1 => Q [v] H1) :=
  (pa_cons ha pa_nil hst).imp fun σ H Q h => h
theorem agg_in {K : PySem.W.Frag} {ag : Agg} : ∀ σ H Q, tD K (fun ρ M => match fq ρ M with
    | some (x, M1) => (aggS ag x M1).map fun d => (d, M1)
    | none => none) σ H Q → tCB (rAgg K ag) (fun σ H Q => tQv K fq σ H fun v H1 => Q [v] H1) σ H Q := by
  intro σ H Q h
  obtain ⟨ρ, L, M, d, M', r, p, e, q⟩ := h
  try dsimp only at e
  split at e
  · rename_i x M1 e1
    cases z : aggS ag x M1 with
    | none => rw [z] at e; cases e
    | some k =>
      rw [z] at e
      cases e
      exact ⟨ρ, L, M, _, _, r, p, e1, fun v H1 L1 g1 p1 r1 => ⟨L1, _, x, v, d, rfl, p1, r1, z, q.later g1⟩⟩
  · cases e
theorem se_aggB {ag : Agg} {id : String} {x : Str} {p : Pos} (hv : aggV ag = .builtin id) (hc : X.calm = true) (hg : Gl X x) (hm : X.mg x = none) (hb : bootBuiltins x = some (.builtin id)) (hn : x ≠ "__name__") (hdb : (x == ("__debug__" : Str)) = false) (ha : SQ X a fq)
    (hst : starEach [a] X.env = (false, eval a X.env) :: starEach [] X.env) : SE X (.Call (.Name x p) [a] [] pos) (fun ρ M => match fq ρ M with
    | some (x, M1) => (aggS ag x M1).map fun d => (d, M1)
    | none => none) := by
  have hne : ag ≠ .lenSet := fun z => by rw [z] at hv; cases hv
  exact (pe_callB (by rw [← hv]; exact cr_agg hc hne) hg hm hb (sa_q ha hst) hn hdb hst (by rfl)).imp agg_in
theorem se_aggT {ag : Agg} {T : String} {x : Str} {p : Pos} (hv : aggV ag = .type T) (hc : X.calm = true) (hg : Gl X x) (hm : X.mg x = none) (hb : bootBuiltins x = some (.type T)) (hn : x ≠ "__name__") (hdb : (x == ("__debug__" : Str)) = false) (ha : SQ X a fq)
    (hst : starEach [a] X.env = (false, eval a X.env) :: starEach [] X.env) : SE X (.Call (.Name x p) [a] [] pos) (fun ρ M => match fq ρ M with
    | some (x, M1) => (aggS ag x M1).map fun d => (d, M1)
    | none => none) := by
  have hne : ag ≠ .lenSet := fun z => by rw [z] at hv; cases hv
  exact (pe_callTy (by rw [← hv]; exact cr_agg hc hne) hg hm hb (sa_q ha hst) hn hdb hst (by rfl)).imp agg_in
theorem blt_in {K : PySem.W.Frag} {b : Blt} {fs : Env → Store → R (List D)} {t : TA} (ht : ∀ σ H Q, tDs K fs σ H (fun vs H1 => Q (vs ++ (match bltC b with | some c => [V.ty c] | none => [])) H1) → t σ H Q) : ∀ σ H Q, tD K (fun ρ M => match fs ρ M with
    | some (ds, M1) => (bltS b ds M1).map fun d => (d, M1)
    | none => none) σ H Q → tCB (rBlt K b) t σ H Q := by
  intro σ H Q h
  obtain ⟨ρ, L, M, d, M', r, p, e, q⟩ := h
  try dsimp only at e
  split at e
  · rename_i x M1 e1
    cases z : bltS b x M1 with
    | none => rw [z] at e; cases e
    | some k =>
      rw [z] at e
      cases e
      exact ht _ _ _ ⟨ρ, L, M, _, _, r, p, e1, fun v H1 L1 g1 p1 r1 => ⟨L1, _, x, v, d, rfl, p1, r1, z, fun w' rw' => (q.later g1).here p1 rw'⟩⟩
  · cases e
theorem se_bltB {bl : Blt} {id : String} {x : Str} {p : Pos} {fs : Env → Store → R (List D)} {t : TA} (hv : bltV bl = .builtin id) (hc : X.calm = true) (hg : Gl X x) (hm : X.mg x = none) (hb : bootBuiltins x = some (.builtin id)) (hn : x ≠ "__name__") (hdb : (x == ("__debug__" : Str)) = false)
    (ha : PA X (a :: es) t) (ht : ∀ σ H Q, tDs X.K fs σ H (fun vs H1 => Q (vs ++ (match bltC bl with | some c => [V.ty c] | none => [])) H1) → t σ H Q) (hst : starEach (a :: es) X.env = (false, eval a X.env) :: starEach es X.env) (hpl : (backTo pos (starEach es X.env)).any (·.1) = false) : SE X (.Call (.Name x p) (a :: es) [] pos) (fun ρ M => match fs ρ M with
    | some (ds, M1) => (bltS bl ds M1).map fun d => (d, M1)
    | none => none) :=
  (pe_callB (by rw [← hv]; exact cr_blt hc) hg hm hb ha hn hdb hst hpl).imp (blt_in ht)
theorem se_bltT {bl : Blt} {T : String} {x : Str} {p : Pos} {fs : Env → Store → R (List D)} {t : TA} (hv : bltV bl = .type T) (hc : X.calm = true) (hg : Gl X x) (hm : X.mg x = none) (hb : bootBuiltins x = some (.type T)) (hn : x ≠ "__name__") (hdb : (x == ("__debug__" : Str)) = false)
    (ha : PA X (a :: es) t) (ht : ∀ σ H Q, tDs X.K fs σ H (fun vs H1 => Q (vs ++ (match bltC bl with | some c => [V.ty c] | none => [])) H1) → t σ H Q) (hst : starEach (a :: es) X.env = (false, eval a X.env) :: starEach es X.env) (hpl : (backTo pos (starEach es X.env)).any (·.1) = false) : SE X (.Call (.Name x p) (a :: es) [] pos) (fun ρ M => match fs ρ M with
    | some (ds, M1) => (bltS bl ds M1).map fun d => (d, M1)
    | none => none) :=
  (pe_callTy (by rw [← hv]; exact cr_blt hc) hg hm hb ha hn hdb hst hpl).imp (blt_in ht)

/-! ### calls of the text's own defs -/
def spF (K : PySem.W.Frag) (n : Nat) (F : Fn) : Sp := fun vs H Q _ => ∃ L M ds d M', ds.length = n ∧ Rep K H L M ∧ RDs K H L ds vs ∧ F ds M = some (d, M') ∧ Fin1 K H L M' d Q
theorem se_call {n k : Nat} {F : Fn} {fa : Addr} {fd : FuncData} {ps : List Str} {x : Str} {p : Pos} {fs : Env → Store → R (List D)} (FO : FnOk X.prog X.w X.K X.mg X.base CX0 k fa fd ps (spF X.K n F)) (hF : ∀ ds M d M', F ds M = some (d, M') → ds.length = n) (hr : Room k X.A) (hg : Gl X x) (hm : X.mg x = some (.ref fa)) (hk : PySem.W.keepIn X.K (.ref fa) = true) (hb : Binds X.K fd ps [])
    (hdb : (x == ("__debug__" : Str)) = false) (ha : SA X (a :: es) fs) (hst : starEach (a :: es) X.env = (false, eval a X.env) :: starEach es X.env) (hpl : (backTo pos (starEach es X.env)).any (·.1) = false) : SE X (.Call (.Name x p) (a :: es) [] pos) (fun ρ M => match fs ρ M with
    | some (ds, M1) => F ds M1
    | none => none) := by
  refine (pe_call FO hr hg hm hk hb .nil pass0 ha hdb hst hpl).imp fun σ H Q h => ?_
  obtain ⟨ρ, L, M, d, M', r, p, e, q⟩ := h
  try dsimp only at e
  split at e
  · rename_i ds M1 e1
    refine ⟨ρ, L, M, _, _, r, p, e1, fun v H1 L1 g1 p1 r1 => ?_⟩
    show spF X.K n F (v ++ []) H1 Q _
    rw [List.append_nil]
    exact ⟨L1, M1, ds, d, M', hF _ _ _ _ e, p1, r1, e, q.later g1⟩
  · cases e

theorem se_call0 {n k : Nat} {F : Fn} {fa : Addr} {fd : FuncData} {ps : List Str} {x : Str} {p : Pos} (FO : FnOk X.prog X.w X.K X.mg X.base CX0 k fa fd ps (spF X.K n F)) (hF : ∀ ds M d M', F ds M = some (d, M') → ds.length = n) (hr : Room k X.A) (hg : Gl X x) (hm : X.mg x = some (.ref fa)) (hk : PySem.W.keepIn X.K (.ref fa) = true) (hb : Binds X.K fd ps [])
    (hdb : (x == ("__debug__" : Str)) = false) : SE X (.Call (.Name x p) [] [] pos) (fun ρ M => F [] M) := by
  refine (pe_call0 FO hr hg hm hk hb .nil pass0 hdb).imp fun σ H Q h => ?_
  obtain ⟨ρ, L, M, d, M', r, p, e, q⟩ := h
  exact ⟨L, M, [], d, M', hF _ _ _ _ e, p, rfl, e, q⟩

/-! ### methods -/
theorem recv_list {K : PySem.W.Frag} {H : Hp} {L : List Place} {M : Store} {m : Mt} {x : D} {v : V} (h1 : m ≠ .get1) (h2 : m ≠ .get2) (p : Rep K H L M) (r : RD K H L x v) (e : recv m x M = true) : tyV K "list" v H := by
  unfold recv at e
  split at e
  · split at e
    · rename_i q
      obtain ⟨a, xs, z1, z2, z3⟩ := list_of p q
      obtain ⟨sl, y1, rfl⟩ := r
      rw [z1] at y1
      cases y1
      exact .inl ⟨rfl, xs, SqL.of z2⟩
    · cases m <;> first | exact absurd rfl h1 | exact absurd rfl h2 | cases e
    · cases e
  · cases e
theorem recv_dict {K : PySem.W.Frag} {H : Hp} {L : List Place} {M : Store} {m : Mt} {x : D} {v : V} (h1 : m = .get1 ∨ m = .get2) (p : Rep K H L M) (r : RD K H L x v) (e : recv m x M = true) : tyV K "dict" v H := by
  unfold recv at e
  split at e
  · split at e
    · rcases h1 with rfl | rfl <;> cases e
    · rename_i q
      obtain ⟨a, xs, z1, z2, z3⟩ := dK_of p q
      obtain ⟨sl, y1, rfl⟩ := r
      rw [z1] at y1
      cases y1
      exact .inr (.inr (.inl ⟨rfl, .inl ⟨xs, z2⟩⟩))
    · cases e
  · cases e
def mtT : Mt → String
  | .get1 => "dict"
  | .get2 => "dict"
  | _ => "list"
theorem recv_ty {K : PySem.W.Frag} {H : Hp} {L : List Place} {M : Store} {m : Mt} {x : D} {v : V} (p : Rep K H L M) (r : RD K H L x v) (e : recv m x M = true) : tyV K (mtT m) v H := by
  by_cases h : m = .get1 ∨ m = .get2
  · have := recv_dict h p r e
    rcases h with rfl | rfl <;> exact this
  · have h1 : m ≠ .get1 := fun z => h (.inl z)
    have h2 : m ≠ .get2 := fun z => h (.inr z)
    have := recv_list h1 h2 p r e
    cases m <;> first | exact absurd rfl h1 | exact absurd rfl h2 | exact this
theorem mth_in {K : PySem.W.Frag} {m : Mt} {fs : Env → Store → R (List D)} : ∀ σ H Q, tD K (fun ρ M => match f ρ M with
    | some (x, M1) => if recv m x M1 then match fs ρ M1 with
      | some (ds, M2) => mthS m x ds M2
      | none => none
      else none
    | none => none) σ H Q → tBM K (mtT m) (rMth K m) (tD K f) (tDs K fs) σ H Q := by
  intro σ H Q h
  obtain ⟨ρ, L, M, d, M', r, p, e, q⟩ := h
  try dsimp only at e
  split at e
  · rename_i x M1 e1
    split at e
    · rename_i hrv
      split at e
      · rename_i ds M2 e2
        refine ⟨ρ, L, M, _, _, r, p, e1, fun v H1 L1 g1 p1 r1 => ⟨recv_ty p1 r1 hrv, ρ, L1, _, _, _, r.mono g1, p1, e2, fun vs H2 L2 g2 p2 r2 => ?_⟩⟩
        exact ⟨L2, M2, x, ds, d, M', p2, RD.mono g2 _ _ r1, r2, e, q.later (g1.trans g2)⟩
      · cases e
    · cases e
  · cases e
theorem se_mth {m : Mt} {name : Str} {apos cpos : Pos} {fs : Env → Store → R (List D)} (hu : X.A.units + 65 < cLine) (hm : m ≠ .remove) (pa : PlainAttrs (mtT m)) (slot : Slot (mtT m) name (mtId m)) (hty : typeOf (.builtin (mtId m)) = pure (.type "method_descriptor")) (ho : SE X e f) (ha : SA X (a :: es) fs)
    (hbase : attributeBase e name X.env (eval e X.env) = eval e X.env) (hfew : ((backTo cpos (starEach (a :: es) X.env)).all (fun x => !x.1) && (backToKw cpos (keywordEach [] X.env)).all (fun x => x.1.isSome)
      && decide ((a :: es).length + ([] : List Keyword).length + (if ([] : List Keyword).isEmpty then 0 else 1) < 30)) = true)
    (hline : (apos.endLine == cpos.line) = true) (hst : starEach (a :: es) X.env = (false, eval a X.env) :: starEach es X.env) (hpl : (backTo cpos (starEach es X.env)).any (·.1) = false) : SE X (.Call (.Attribute e name apos) (a :: es) [] cpos) (fun ρ M => match f ρ M with
    | some (x, M1) => if recv m x M1 then match fs ρ M1 with
      | some (ds, M2) => mthS m x ds M2
      | none => none
      else none
    | none => none) :=
  (pe_bm pa slot hty (mt_mth hu hm) ho ha hbase hfew hline hst hpl).imp mth_in
theorem se_mth0 {m : Mt} {name : Str} {apos cpos : Pos} (hu : X.A.units + 65 < cLine) (hm : m ≠ .remove) (pa : PlainAttrs (mtT m)) (slot : Slot (mtT m) name (mtId m)) (hty : typeOf (.builtin (mtId m)) = pure (.type "method_descriptor")) (ho : SE X e f)
    (hbase : attributeBase e name X.env (eval e X.env) = eval e X.env) (hline : (apos.endLine == cpos.line) = true) : SE X (.Call (.Attribute e name apos) [] [] cpos) (fun ρ M => match f ρ M with
    | some (x, M1) => if recv m x M1 then match (some ([], M1) : R (List D)) with
      | some (ds, M2) => mthS m x ds M2
      | none => none
      else none
    | none => none) := by
  refine (pe_bm0 pa slot hty (mt_mth hu hm) ho hbase hline).imp fun σ H Q h => ?_
  obtain ⟨ρ, L, M, d, M', r, p, e, q⟩ := h
  try dsimp only at e
  split at e
  · rename_i x M1 e1
    split at e
    · rename_i hrv
      exact ⟨ρ, L, M, _, _, r, p, e1, fun v H1 L1 g1 p1 r1 => ⟨recv_ty p1 r1 hrv, L1, M1, x, [], d, M', p1, r1, rfl, e, q.later g1⟩⟩
    · cases e
  · cases e
theorem se_ext {apos cpos : Pos} (ho : SE X e f) (ha : SQ X a fq) (hbase : attributeBase e "extend" X.env (eval e X.env) = eval e X.env)
    (hfew : ((backTo cpos (starEach [a] X.env)).all (fun x => !x.1) && (backToKw cpos (keywordEach [] X.env)).all (fun x => x.1.isSome)
      && decide ([a].length + ([] : List Keyword).length + (if ([] : List Keyword).isEmpty then 0 else 1) < 30)) = true)
    (hline : (apos.endLine == cpos.line) = true) (hst : starEach [a] X.env = (false, eval a X.env) :: starEach [] X.env) : SE X (.Call (.Attribute e "extend" apos) [a] [] cpos) (fun ρ M => match f ρ M with
    | some (x, M1) => if recv .append x M1 then match fq ρ M1 with
      | some (y, M2) => extS x y M2
      | none => none
      else none
    | none => none) := by
  refine (pe_bm PySem.F.plainAttrs_list PySem.F.slot_list_extend PySem.F.type_list_extend mt_extend ho (sa_q ha hst) hbase hfew hline hst (by rfl)).imp fun σ H Q h => ?_
  obtain ⟨ρ, L, M, d, M', r, p, e, q⟩ := h
  try dsimp only at e
  split at e
  · rename_i x M1 e1
    split at e
    · rename_i hrv
      split at e
      · rename_i y M2 e2
        refine ⟨ρ, L, M, _, _, r, p, e1, fun v H1 L1 g1 p1 r1 => ⟨recv_ty (m := .append) p1 r1 hrv, ρ, L1, _, _, _, r.mono g1, p1, e2, fun u H2 L2 g2 p2 r2 => ?_⟩⟩
        unfold extS at e
        split at e
        · split at e
          · rename_i n xs ys z1 z2
            split at e
            · rename_i hl
              cases e
              obtain ⟨a1, xs1, y1, y2, y3⟩ := list_of p2 z1
              obtain ⟨sl, w1, rfl⟩ := RD.mono g2 _ _ r1
              rw [y1] at w1
              cases w1
              obtain ⟨a2, xs2, y4, y5, y6⟩ := r2.itemsW p2 z2
              subst y4
              exact ⟨a1, a2, xs1, xs2, rfl, rfl, y2, y5, by rw [← y3.length, ← y6.length]; exact hl, (q.later (g1.trans g2)).setL p2 y1 (y3.append y6) rfl⟩
            · cases e
          · cases e
        · cases e
      · cases e
    · cases e
  · cases e
end
end PS

set_option Elab.async false
set_option linter.all false
set_option maxRecDepth 100000
set_option maxHeartbeats 4000000
/-! PS9: expressions that make lists, iterables, targets, comprehensions. -/
namespace PS
open PySem PySem.Spec PyProof.Rows L2
def FinL (K : PySem.W.Frag) (H : Hp) (L : List Place) (M' : Store) (ds : List D) (Q : VK) : Prop :=
  ∀ a xs H' L', Grow H H' L L' → Rep K H' L' M' → H a = none → Place.w a ∉ L' → H' a = some (.lst xs) → RDs K H' L' ds xs → Q (.ref a) H'
section
variable {K : PySem.W.Frag} {H H1 H' : Hp} {L L1 L' : List Place} {M M' : Store} {ds : List D} {xs : List V} {Q : VK}
theorem FinL.new {p : Addr} (f : FinL K H L M ds Q) (g : Grow H H1 L L1) (r : Rep K H1 L1 M) (h : RDs K H1 L1 ds xs) (hp : H1 p = none) : Q (.ref p) (upd H1 p (.lst xs)) := by
  have g2 : Grow H1 (upd H1 p (.lst xs)) L1 L1 := Grow.fresh hp
  exact f p xs _ L1 (g.trans g2) (Rep.fresh hp r) (g.none r hp) (r.free hp) upd_same (RDs.mono g2 _ _ h)
end
section
variable {X : Cx} {e a b : Expr} {es : List Expr} {pos : Pos} {t t' : TE} {f g : Env → Store → R D} {fq gq : Env → Store → R QV}
theorem sl_list' {p : Pos} (hg : Gl X "list") (hm : X.mg "list" = none) (ha : SQ X a fq) (hst : starEach [a] X.env = (false, eval a X.env) :: starEach [] X.env) : SL X (.Call (.Name "list" p) [a] [] pos) (fun ρ M => match fq ρ M with
    | some (x, M1) => (items M1 x).map fun ds => (ds, M1)
    | none => none) := by
  refine (pe_callTy call_list_of hg hm (by decide +kernel) (sa_q ha hst) (by decide) (by decide) hst (by rfl)).imp fun σ H Q h => ?_
  obtain ⟨ρ, L, M, ds, M', r, p, e, q⟩ := h
  try dsimp only at e
  split at e
  · rename_i x M1 e1
    cases z : items M1 x with
    | none => rw [z] at e; cases e
    | some k =>
      rw [z] at e
      cases e
      refine ⟨ρ, L, M, _, _, r, p, e1, fun v H1 L1 g1 p1 r1 => ?_⟩
      obtain ⟨a1, xs, rfl, h1, h2⟩ := r1.items p1 z
      exact ⟨a1, xs, rfl, h1, fun l hl => FinL.new q g1 p1 h2 hl⟩
  · cases e
theorem rgV_rd {K : PySem.W.Frag} {H : Hp} {L : List Place} (i j : Int) : RDs K H L (rngD i j) (rgV i j) := by
  unfold rngD rgV
  generalize List.range (j - i).toNat = l
  induction l with
  | nil => rfl
  | cons n l ih => exact ⟨_, _, rfl, rfl, ih⟩
theorem rgOk_of {i j : Int} (h : rngOk i j = true) (h2 : (j - i).toNat ≤ lim) : RgOk i j := by
  unfold rngOk at h
  simp only [Bool.and_eq_true, decide_eq_true_eq] at h
  obtain ⟨⟨⟨h3, h4⟩, h5⟩, h6⟩ := h
  exact ⟨h3, h4, h5, h6, h2⟩
theorem sl_listR1 {p p' pos' : Pos} (hc : X.calm = true) (hg : Gl X "list") (hm : X.mg "list" = none) (hg' : Gl X "range") (hm' : X.mg "range" = none) (ha : SE X a f) (hst : starEach [a] X.env = (false, eval a X.env) :: starEach [] X.env) : SL X (.Call (.Name "list" p) [.Call (.Name "range" p') [a] [] pos'] [] pos) (fun ρ M => match f ρ M with
    | some (.int i, M1) => if rngOk 0 i && i.toNat ≤ lim then some (rngD 0 i, M1) else none
    | _ => none) := by
  refine (pe_listRg hc hg hm (prg_1 hg' hm' ha hst)).imp fun σ H Q h => ?_
  obtain ⟨ρ, L, M, ds, M', r, p, e, q⟩ := h
  try dsimp only at e
  split at e
  · rename_i i M1 e1
    split at e
    · rename_i hk
      simp only [Bool.and_eq_true, decide_eq_true_eq] at hk
      cases e
      exact ⟨ρ, L, M, _, _, r, p, e1, fun v H1 L1 g1 p1 r1 => ⟨i, r1, rgOk_of hk.1 (by simpa using hk.2), fun l hl => FinL.new q g1 p1 (rgV_rd 0 i) hl⟩⟩
    · cases e
  · cases e
theorem sl_listR2 {p p' pos' : Pos} (hc : X.calm = true) (hg : Gl X "list") (hm : X.mg "list" = none) (hg' : Gl X "range") (hm' : X.mg "range" = none) (ha : SE X a f) (hb : SE X b g) (hst : starEach [a, b] X.env = (false, eval a X.env) :: starEach [b] X.env) (hst2 : starEach [b] X.env = (false, eval b X.env) :: starEach [] X.env) (hpl : (backTo pos' (starEach [b] X.env)).any (·.1) = false) : SL X (.Call (.Name "list" p) [.Call (.Name "range" p') [a, b] [] pos'] [] pos) (fun ρ M => match f ρ M with
    | some (.int i, M1) => match g ρ M1 with
      | some (.int j, M2) => if rngOk i j && (j - i).toNat ≤ lim then some (rngD i j, M2) else none
      | _ => none
    | _ => none) := by
  refine (pe_listRg hc hg hm (prg_2 hg' hm' ha hb hst hst2 hpl)).imp fun σ H Q h => ?_
  obtain ⟨ρ, L, M, ds, M', r, p, e, q⟩ := h
  try dsimp only at e
  split at e
  · rename_i i M1 e1
    split at e
    · rename_i j M2 e2
      split at e
      · rename_i hk
        simp only [Bool.and_eq_true, decide_eq_true_eq] at hk
        cases e
        exact two r p e1 e2 fun v u H2 L2 g2 p2 r1 r2 => ⟨i, j, r1, r2, rgOk_of hk.1 (by simpa using hk.2), fun l hl => FinL.new q g2 p2 (rgV_rd i j) hl⟩
      · cases e
    · cases e
  · cases e
theorem tR1_in {i : Int} {K : PySem.W.Frag} {H H1 : Hp} {L L1 : List Place} {M1 : Store} {Q : VK} {pr : Addr} (q : Fin1 K H L M1 (.tup (rngD 0 i)) Q) (g1 : Grow H H1 L L1) (p1 : Rep K H1 L1 M1) (hl : H1 pr = none) : Q (.ref pr) (upd H1 pr (.tup (rgV 0 i))) := (q.later g1).tuple p1 (rgV_rd 0 i) hl
/-- tuple(range(n)) -/
theorem se_tupR1 {p p' pos' : Pos} (hc : X.calm = true) (hg : Gl X "tuple") (hm : X.mg "tuple" = none) (hg' : Gl X "range") (hm' : X.mg "range" = none) (ha : SE X a f) (hst : starEach [a] X.env = (false, eval a X.env) :: starEach [] X.env) : SE X (.Call (.Name "tuple" p) [.Call (.Name "range" p') [a] [] pos'] [] pos) (fun ρ M => match f ρ M with
    | some (.int i, M1) => if rngOk 0 i && i.toNat ≤ lim then some (.tup (rngD 0 i), M1) else none
    | _ => none) := by
  refine (pe_tupRg hc hg hm (prg_1 hg' hm' ha hst)).imp fun σ H Q h => ?_
  obtain ⟨ρ, L, M, ds, M', r, p, e, q⟩ := h
  try dsimp only at e
  split at e
  · rename_i i M1 e1
    split at e
    · rename_i hk
      simp only [Bool.and_eq_true, decide_eq_true_eq] at hk
      cases e
      exact ⟨ρ, L, M, _, _, r, p, e1, fun v H1 L1 g1 p1 r1 => ⟨i, r1, rgOk_of hk.1 (by simpa using hk.2), fun l hl => (q.later g1).tuple p1 (rgV_rd 0 i) hl⟩⟩
    · cases e
  · cases e
theorem sl_slice {lo hi : Option Expr} {p2 : Pos} {fl fh : Env → Store → R (Option Int)} (ha : SQ X a fq) (hl : SP' X lo fl) (hh : SP' X hi fh) : SL X (.Subscript a (.Slice lo hi none p2) pos) (fun ρ M => match fq ρ M with
    | some (x, M1) => match fl ρ M1 with
      | some (l, M2) => match fh ρ M2 with
        | some (h, M3) => (itemsL M3 x).map fun ds => (cutD ds l h, M3)
        | none => none
      | none => none
    | none => none) := by
  refine (pe_slice sl_list ha hl hh).imp fun σ H Q h => ?_
  obtain ⟨ρ, L, M, ds, M', r, p, e, q⟩ := h
  try dsimp only at e
  split at e
  · rename_i x M1 e1
    split at e
    · rename_i l M2 e2
      split at e
      · rename_i h M3 e3
        cases z : itemsL M3 x with
        | none => rw [z] at e; cases e
        | some k =>
          rw [z] at e
          cases e
          refine ⟨ρ, L, M, _, _, r, p, e1, fun v H1 L1 g1 p1 r1 => ⟨ρ, L1, _, _, _, r.mono g1, p1, e2, fun H2 L2 g2 p2 => ⟨ρ, L2, _, _, _, r.mono (g1.trans g2), p2, e3, fun H3 L3 g3 p3 => ?_⟩⟩⟩
          obtain ⟨a1, xs, rfl, h1, h2⟩ := (r1.mono (g2.trans g3)).itemsL p3 z
          exact ⟨a1, xs, rfl, h1, fun l hl => FinL.new q ((g1.trans g2).trans g3) p3 (h2.cut _ _) hl⟩
      · cases e
    · cases e
  · cases e
theorem sl_rev {k : Nat} {p1 p2 p3 : Pos} (ha : SQ X a fq) : SL X (.Subscript a (.Slice none none (some (.UnaryOp .USub (.Constant (.int 1) k p1) p2)) p3) pos) (fun ρ M => match fq ρ M with
    | some (x, M1) => (itemsL M1 x).map fun ds => (ds.reverse, M1)
    | none => none) := by
  refine (pe_revL ha).imp fun σ H Q h => ?_
  obtain ⟨ρ, L, M, ds, M', r, p, e, q⟩ := h
  try dsimp only at e
  split at e
  · rename_i x M1 e1
    cases z : itemsL M1 x with
    | none => rw [z] at e; cases e
    | some k =>
      rw [z] at e
      cases e
      refine ⟨ρ, L, M, _, _, r, p, e1, fun v H1 L1 g1 p1 r1 => ?_⟩
      obtain ⟨a1, xs, rfl, h1, h2⟩ := r1.itemsL p1 z
      exact ⟨a1, xs, rfl, h1, fun l hl => FinL.new q g1 p1 h2.reverse hl⟩
  · cases e
theorem sl_cat (ha : SQ X a fq) (hb : SQ X b gq) : SL X (.BinOp a .Add b pos) (fun ρ M => match fq ρ M with
    | some (x, M1) => match gq ρ M1 with
      | some (y, M2) => match itemsW M2 x, itemsW M2 y with
        | some xs, some ys => if xs.length + ys.length ≤ lim then some (xs ++ ys, M2) else none
        | _, _ => none
      | none => none
    | none => none) := by
  refine (pe_op op_cat ha hb).imp fun σ H Q h => ?_
  obtain ⟨ρ, L, M, ds, M', r, p, e, q⟩ := h
  try dsimp only at e
  split at e
  · rename_i x M1 e1
    split at e
    · rename_i y M2 e2
      split at e
      · rename_i xs ys z1 z2
        split at e
        · rename_i hl
          cases e
          refine ⟨ρ, L, M, _, _, r, p, e1, fun v H1 L1 g1 p1 r1 => ⟨ρ, L1, _, _, _, r.mono g1, p1, e2, fun u H2 L2 g2 p2 r2 => ?_⟩⟩
          obtain ⟨a1, xs1, y1, y2, y3⟩ := (r1.mono g2).itemsW p2 z1
          obtain ⟨a2, xs2, y4, y5, y6⟩ := r2.itemsW p2 z2
          exact ⟨a1, a2, xs1, xs2, y1, y4, y2, y5, by rw [← y3.length, ← y6.length]; exact hl, fun l hl => FinL.new q (g1.trans g2) p2 (y3.append y6) hl⟩
        · cases e
      · cases e
    · cases e
  · cases e
theorem sl_rep (ha : SQ X a fq) (hb : SE X b g) : SL X (.BinOp a .Mult b pos) (fun ρ M => match fq ρ M with
    | some (x, M1) => match g ρ M1 with
      | some (.int k, M2) => (itemsW M2 x).bind fun xs => if -(9223372036854775808) ≤ k ∧ k < 9223372036854775808 ∧ xs.length * k.toNat ≤ lim then some ((List.replicate k.toNat xs).flatten, M2) else none
      | _ => none
    | none => none) := by
  refine (pe_op op_rep ha hb).imp fun σ H Q h => ?_
  obtain ⟨ρ, L, M, ds, M', r, p, e, q⟩ := h
  try dsimp only at e
  split at e
  · rename_i x M1 e1
    split at e
    · rename_i k M2 e2
      cases z : itemsW M2 x with
      | none => rw [z] at e; cases e
      | some xs =>
        rw [z] at e
        simp only [Option.bind] at e
        split at e
        · rename_i hk
          cases e
          refine ⟨ρ, L, M, _, _, r, p, e1, fun v H1 L1 g1 p1 r1 => ⟨ρ, L1, _, _, _, r.mono g1, p1, e2, fun u H2 L2 g2 p2 r2 => ?_⟩⟩
          obtain ⟨a1, xs1, y1, y2, y3⟩ := (r1.mono g2).itemsW p2 z
          exact ⟨a1, k, xs1, y1, r2, y2, hk.1, hk.2.1, by rw [← y3.length]; exact hk.2.2, fun l hl => FinL.new q (g1.trans g2) p2 (y3.rep _) hl⟩
        · cases e
    · cases e
  · cases e

/-! ### iterables -/
/-- the walk J yields ds, as long as ok holds -/
def RJ (K : PySem.W.Frag) (J : It) (ok : Store → Bool) (ds : List D) (H1 : Hp) (L1 : List Place) : Prop :=
  ∀ (i : Nat) (H : Hp) (L : List Place) (M : Store), Grow H1 H L1 L → Rep K H L M → ok M = true →
    (∀ d, ds[i]? = some d → J.go i H ∧ ∀ x H', J.yld i H x H' → Grow H H' L L ∧ Rep K H' L M ∧ RD K H' L d x) ∧ (ds.length ≤ i → J.stop i H)
def tIt (K : PySem.W.Frag) (f : Env → Store → Option ((Store → Bool) × List D × Store)) : TI := fun σ H R => ∃ ρ L M ok ds M', RE K H L ρ σ ∧ Rep K H L M ∧ f ρ M = some (ok, ds, M') ∧
  ∀ J H' L', Grow H H' L L' → Rep K H' L' M' → RJ K J ok ds H' L' → R J H'
abbrev SI (X : Cx) (tg e : Expr) (f : Env → Store → Option ((Store → Bool) × List D × Store)) : Prop := PI X tg e (tIt X.K f)
theorem _root_.L2.PI.imp {tg : Expr} {t t' : TI} (h : PI X tg e t) (i : ∀ σ H R, t' σ H R → t σ H R) : PI X tg e t' := ⟨fun pins s σ H R I q => h.run pins s σ H R I (i σ H R q)⟩
/-- a list or a tuple -/
def iSeq (K : PySem.W.Frag) (tl : TE) : TI := fun σ H R => tl σ H fun x H1 => (∃ a, x = .ref a ∧ (∃ xs, SqL K H1 a xs) ∧ R (Itl K a) H1) ∨ ∃ a, x = .ref a ∧ (∃ xs, SqT K H1 a xs) ∧ R (Itt K a) H1
theorem pi_seq {l tg : Expr} {tl : TE} (hl : PE X l tl) : PI X tg l (iSeq X.K tl) := by
  refine ⟨fun pins s σ H R I h => ?_⟩
  refine thn (hl.run pins s σ H _ I h) fun v s1 ⟨x, H1, I1, r1, q1⟩ => ?_
  rcases q1 with ⟨a, e, ⟨xs, hq⟩, q⟩ | ⟨a, e, ⟨xs, hq⟩, q⟩
  · subst e
    cases r1
    obtain ⟨its, rv, p, hz⟩ := I1.list hq
    refine wpAny_pyIter_list p.isList ?_
    refine ⟨s1.heap.objs.size, [s1.heap.objs.size], _, _, H1, rfl, I1.kept (t' := s1.toks) fun b o e => Heap.get?_push_of_some _ e, turn_list a _, ⟨_, Heap.get?_push_size _ rfl, rfl, rfl⟩, fun b hb => ?_, q⟩
    have e : b = s1.heap.objs.size := by simpa using hb
    subst e
    exact I1.fpOk (Nat.le_refl _) (I1.hok.fresh (Nat.le_refl _))
  · subst e
    cases r1
    obtain ⟨its, rv, p, hz⟩ := I1.tuple hq
    refine wpAny_pyIter_tuple (show s1.heap.IsTuple a its.toArray from p) ?_
    refine ⟨s1.heap.objs.size, [s1.heap.objs.size], _, _, H1, rfl, I1.kept (t' := s1.toks) fun b o e => Heap.get?_push_of_some _ e, turn_tuple a _, ⟨_, Heap.get?_push_size _ rfl, rfl, rfl⟩, fun b hb => ?_, q⟩
    have e : b = s1.heap.objs.size := by simpa using hb
    subst e
    exact I1.fpOk (Nat.le_refl _) (I1.hok.fresh (Nat.le_refl _))
theorem stands_items {M M' : Store} {q : QV} {ds : List D} (e : items M q = some ds) (h : stands q ds M' = true) : items M' q = some ds := by
  unfold items at *
  unfold stands at h
  split at e
  · exact e
  · exact e
  · simpa using h
  · cases e
theorem stands_itemsL {M M' : Store} {q : QV} {ds : List D} (e : itemsL M q = some ds) (h : stands q ds M' = true) : itemsL M' q = some ds := by
  unfold itemsL at *
  unfold stands at h
  split at e
  · exact e
  · simpa using h
  · cases e
theorem RDs.get' {K : PySem.W.Frag} {H : Hp} {L : List Place} : ∀ {ds : List D} {xs : List V} {i : Nat} {v : V}, RDs K H L ds xs → xs[i]? = some v → ∃ d, ds[i]? = some d ∧ RD K H L d v := by
  intro ds xs i v h e
  have hl := h.length
  have hi : i < ds.length := by rw [hl]; exact (List.getElem?_eq_some_iff.mp e).1
  obtain ⟨w, e2, r⟩ := h.get (List.getElem?_eq_getElem hi)
  rw [e] at e2
  cases e2
  exact ⟨_, List.getElem?_eq_getElem hi, r⟩
theorem rj_list {K : PySem.W.Frag} {q : QV} {ds : List D} {v : V} {a : Addr} {H1 : Hp} {L1 : List Place} {M1 : Store} (hq : RQ K H1 L1 q v) (hv : v = .ref a) (e : itemsL M1 q = some ds) : RJ K (Itl K a) (stands q ds) ds H1 L1 := by
  intro i H L M g r h
  obtain ⟨b, xs, e1, h1, h2⟩ := (hq.mono g).itemsL r (stands_itemsL e h)
  rw [hv] at e1
  cases e1
  refine ⟨fun d hd => ?_, fun hl => ⟨xs, h1, by rw [← h2.length]; exact hl⟩⟩
  obtain ⟨w, e2, rw'⟩ := h2.get hd
  exact ⟨⟨xs, w, h1, e2⟩, fun x H' hy => by
    obtain ⟨rfl, hx⟩ := hy
    have := hx xs h1
    rw [e2] at this
    cases this
    exact ⟨Grow.refl _ _, r, rw'⟩⟩
theorem rj_tup {K : PySem.W.Frag} {ok : Store → Bool} {ds : List D} {xs : List V} {a : Addr} {H1 : Hp} {L1 : List Place} (h1 : SqT K H1 a xs) (h2 : RDs K H1 L1 ds xs) : RJ K (Itt K a) ok ds H1 L1 := by
  intro i H L M g r h
  have h1' := SqT.grow g h1
  have h2' := RDs.mono g _ _ h2
  refine ⟨fun d hd => ?_, fun hl => ⟨xs, h1', by rw [← h2.length]; exact hl⟩⟩
  obtain ⟨w, e2, rw'⟩ := h2'.get hd
  exact ⟨⟨xs, w, h1', e2⟩, fun x H' hy => by
    obtain ⟨rfl, hx⟩ := hy
    have := hx xs h1'
    rw [e2] at this
    cases this
    exact ⟨Grow.refl _ _, r, rw'⟩⟩
theorem si_q {tg : Expr} (ha : SQ X e fq) : SI X tg e (fun ρ M => match fq ρ M with
    | some (x, M1) => (items M1 x).map fun ds => (stands x ds, ds, M1)
    | none => none) := by
  refine (pi_seq ha).imp fun σ H R h => ?_
  obtain ⟨ρ, L, M, ok, ds, M', r, p, e, q⟩ := h
  try dsimp only at e
  split at e
  · rename_i x M1 e1
    cases z : items M1 x with
    | none => rw [z] at e; cases e
    | some ks =>
      rw [z] at e
      cases e
      refine ⟨ρ, L, M, _, _, r, p, e1, fun v H1 L1 g1 p1 r1 => ?_⟩
      cases x with
      | tmp es =>
        obtain ⟨a1, xs, rfl, h1, h2⟩ := r1.itemsL (ds := es) p1 rfl
        cases z
        exact .inl ⟨a1, rfl, ⟨xs, h1⟩, q _ H1 L1 g1 p1 (rj_list r1 rfl (M1 := M') rfl)⟩
      | val d =>
        cases d with
        | tup es =>
          cases z
          obtain ⟨a1, xs, rfl, h1, h2⟩ := r1
          exact .inr ⟨a1, rfl, ⟨xs, h1⟩, q _ H1 L1 g1 p1 (rj_tup h1 h2)⟩
        | ref n =>
          have z' : itemsL M' (.val (.ref n)) = some ds := z
          obtain ⟨a1, xs, rfl, h1, h2⟩ := r1.itemsL p1 z'
          exact .inl ⟨a1, rfl, ⟨xs, h1⟩, q _ H1 L1 g1 p1 (rj_list r1 rfl z')⟩
        | non => cases z
        | bl _ => cases z
        | int _ => cases z
        | str _ => cases z
  · cases e
theorem rngD_get {i j : Int} {k : Nat} {d : D} (h : (rngD i j)[k]? = some d) : k < (j - i).toNat ∧ d = .int (i + (k : Nat)) := by
  unfold rngD at h
  rw [List.getElem?_map] at h
  have hl : k < (j - i).toNat := by
    cases q : (List.range (j - i).toNat)[k]? with
    | none => rw [q] at h; cases h
    | some m => have := (List.getElem?_eq_some_iff.mp q).1; simpa using this
  rw [List.getElem?_range hl] at h
  cases h
  exact ⟨hl, rfl⟩
theorem rngD_length (i j : Int) : (rngD i j).length = (j - i).toNat := by simp [rngD]
theorem rj_rng {K : PySem.W.Frag} {i j : Int} {H1 : Hp} {L1 : List Place} : RJ K (Itr i (j - i).toNat) (fun _ => true) (rngD i j) H1 L1 := by
  intro k H L M g r h
  refine ⟨fun d hd => ?_, fun hl => by rw [rngD_length] at hl; exact hl⟩
  obtain ⟨h1, rfl⟩ := rngD_get hd
  exact ⟨h1, fun x H' hy => by
    obtain ⟨rfl, rfl⟩ := hy
    exact ⟨Grow.refl _ _, r, rfl⟩⟩
theorem rngOk_bd {i j : Int} (h : rngOk i j = true) : -(2 ^ 62) ≤ i ∧ i < 2 ^ 62 ∧ -(2 ^ 62) ≤ j ∧ j < 2 ^ 62 := by
  unfold rngOk at h
  simp only [Bool.and_eq_true, decide_eq_true_eq] at h
  obtain ⟨⟨⟨h3, h4⟩, h5⟩, h6⟩ := h
  exact ⟨h3, h4, h5, h6⟩
theorem starNil (env : Env) : True := trivial
theorem si_rng1 {tg : Expr} {p : Pos} (hg : Gl X "range") (hm : X.mg "range" = none) (ha : SE X a f) (hst : starEach [a] X.env = (false, eval a X.env) :: starEach [] X.env) : SI X tg (.Call (.Name "range" p) [a] [] pos) (fun ρ M => match f ρ M with
    | some (.int i, M1) => if rngOk 0 i then some (fun _ => true, rngD 0 i, M1) else none
    | _ => none) := by
  refine (pi_range1 hg hm (pa_cons ha pa_nil hst) (by rw [hst]; rfl)).imp fun σ H R h => ?_
  obtain ⟨ρ, L, M, ok, ds, M', r, p, e, q⟩ := h
  try dsimp only at e
  split at e
  · rename_i i M1 e1
    split at e
    · rename_i hk
      cases e
      obtain ⟨b1, b2, b3, b4⟩ := rngOk_bd hk
      refine ⟨ρ, L, M, _, _, r, p, e1, fun v H1 L1 g1 p1 r1 => ⟨i, by rw [show v = V.int i from r1], b3, b4, q _ H1 L1 g1 p1 ?_⟩⟩
      have := rj_rng (K := X.K) (i := 0) (j := i) (H1 := H1) (L1 := L1)
      simpa using this
    · cases e
  · cases e
theorem si_rng2 {tg : Expr} {p : Pos} (hg : Gl X "range") (hm : X.mg "range" = none) (ha : SE X a f) (hb : SE X b g) (hst : starEach [a, b] X.env = (false, eval a X.env) :: starEach [b] X.env) (hst2 : starEach [b] X.env = (false, eval b X.env) :: starEach [] X.env) : SI X tg (.Call (.Name "range" p) [a, b] [] pos) (fun ρ M => match f ρ M with
    | some (x, M1) => match g ρ M1 with
      | some (y, M2) => rng2S x y M2
      | _ => none
    | _ => none) := by
  refine (pi_range2 hg hm (pa_cons ha (pa_cons hb pa_nil hst2) hst) (by rw [hst, hst2]; rfl) (by rw [hst2]; rfl)).imp fun σ H R h => ?_
  obtain ⟨ρ, L, M, ok, ds, M', r, p, e, q⟩ := h
  try dsimp only at e
  split at e
  · rename_i x M1 e1
    split at e
    · rename_i y M2 e2
      unfold rng2S at e
      split at e
      · rename_i i j
        split at e
        · rename_i hk
          cases e
          exact two r p e1 e2 fun v u H2 L2 g2 p2 r1 r2 => ⟨i, j, by rw [show v = V.int i from r1, show u = V.int j from r2], rngOk_bd hk, q _ H2 L2 g2 p2 rj_rng⟩
        · cases e
      · cases e
    · cases e
  · cases e
end
end PS

set_option Elab.async false
set_option linter.all false
set_option maxRecDepth 100000
set_option maxHeartbeats 4000000
/-! PS10: targets, statements, loops, comprehensions. -/
namespace PS
open PySem PySem.Spec PyProof.Rows L2

/-! ### slots -/
theorem wipe_mem {σ : L2.St} : ∀ {vs : List Nat} {i : Nat}, i ∈ vs → i < σ.length → (wipe σ vs)[i]? = some none
  | v :: vs, i, h, hl => by
    show ((wipe σ vs).set v none)[i]? = some none
    by_cases e : i = v
    · subst e
      rw [List.getElem?_set_self (by rw [wipe_length]; exact hl)]
    · rw [List.getElem?_set_ne (fun z => e z.symm)]
      exact wipe_mem ((List.mem_cons.mp h).resolve_left e) hl
theorem wipe_eq {σ τ : L2.St} {vs : List Nat} (hl : σ.length = τ.length) (h : ∀ i, i ∉ vs → σ[i]? = τ[i]?) : wipe σ vs = wipe τ vs := by
  apply List.ext_getElem?
  intro i
  by_cases m : i ∈ vs
  · by_cases q : i < σ.length
    · rw [wipe_mem m q, wipe_mem m (by rw [← hl]; exact q)]
    · rw [List.getElem?_eq_none (by rw [wipe_length]; omega), List.getElem?_eq_none (by rw [wipe_length]; omega)]
  · rw [wipe_out m, wipe_out m, h i m]
theorem wipe_set {σ : L2.St} {vs : List Nat} {i : Nat} {x : Option V} (h : i ∈ vs) : wipe (σ.set i x) vs = wipe σ vs :=
  wipe_eq (by simp) fun j hj => List.getElem?_set_ne fun e => hj (by rw [← e]; exact h)
theorem wipe_wipe {σ : L2.St} {vs : List Nat} : wipe (wipe σ vs) vs = wipe σ vs := wipe_eq (wipe_length _ _) fun i hi => wipe_out hi
theorem wipeD_out {ρ : Env} {i : Nat} : ∀ {vs : List Nat}, i ∉ vs → (wipeD ρ vs)[i]? = ρ[i]?
  | [], _ => rfl
  | v :: vs, h => by
    show ((wipeD ρ vs).set v none)[i]? = ρ[i]?
    rw [List.getElem?_set_ne (fun e => h (by rw [e]; exact List.mem_cons_self))]
    exact wipeD_out fun m => h (List.mem_cons_of_mem _ m)
theorem wipeD_length (ρ : Env) : ∀ vs : List Nat, (wipeD ρ vs).length = ρ.length
  | [] => rfl
  | v :: vs => by
    show ((wipeD ρ vs).set v none).length = ρ.length
    rw [List.length_set, wipeD_length ρ vs]
theorem wipeD_mem {ρ : Env} : ∀ {vs : List Nat} {i : Nat}, i ∈ vs → ∀ d, (wipeD ρ vs)[i]? ≠ some (some d)
  | v :: vs, i, h, d => by
    show ((wipeD ρ vs).set v none)[i]? ≠ _
    by_cases e : i = v
    · subst e
      by_cases q : i < (wipeD ρ vs).length
      · rw [List.getElem?_set_self q]; intro z; cases z
      · rw [List.getElem?_eq_none (by rw [List.length_set]; omega)]; intro z; cases z
    · rw [List.getElem?_set_ne (fun z => e z.symm)]
      exact wipeD_mem ((List.mem_cons.mp h).resolve_left e) d
section
variable {K : PySem.W.Frag} {H H1 H' : Hp} {L L1 L' : List Place} {M M' : Store} {ρ ρ' : Env} {σ : L2.St} {d : D} {v : V}
theorem RE.set {i : Nat} (r : RE K H L ρ σ) (h : RD K H L d v) : RE K H L (ρ.set i (some d)) (σ.set i (some v)) := ⟨by simp [r.len], fun j e q => by
  by_cases z : j = i
  · subst z
    have hj : j < ρ.length := by
      have := (List.getElem?_eq_some_iff.mp q).1
      simpa using this
    rw [List.getElem?_set_self hj] at q
    cases q
    exact ⟨v, List.getElem?_set_self (by rw [← r.len]; exact hj), h⟩
  · rw [List.getElem?_set_ne (fun k => z k.symm)] at q
    rw [List.getElem?_set_ne (fun k => z k.symm)]
    exact r.at_ j e q⟩
theorem RE.wipe {vs : List Nat} (r : RE K H L ρ σ) : RE K H L (wipeD ρ vs) (L2.wipe σ vs) := ⟨by rw [wipeD_length, wipe_length]; exact r.len, fun j e q => by
  by_cases m : j ∈ vs
  · exact absurd q (wipeD_mem m e)
  · rw [wipeD_out m] at q
    rw [wipe_out m]
    exact r.at_ j e q⟩
end

/-! ### targets -/
def gD (K : PySem.W.Frag) (tsl : List Nat) (f : D → Env → Store → Option (Env × Store)) : TG := fun v σ H Qk => ∃ ρ L M d ρ' M', RE K H L ρ σ ∧ Rep K H L M ∧ RD K H L d v ∧ f d ρ M = some (ρ', M') ∧
  ∀ σ' H' L', Grow H H' L L' → RE K H' L' ρ' σ' → Rep K H' L' M' → (∀ vs, (∀ i, i ∈ tsl → i ∈ vs) → wipe σ' vs = wipe σ vs) → Qk σ' H'
def gDs (K : PySem.W.Frag) (tsl : List Nat) (f : List D → Env → Store → Option (Env × Store)) : TGs := fun xs σ H Qk => ∃ ρ L M ds ρ' M', RE K H L ρ σ ∧ Rep K H L M ∧ RDs K H L ds xs ∧ f ds ρ M = some (ρ', M') ∧
  ∀ σ' H' L', Grow H H' L L' → RE K H' L' ρ' σ' → Rep K H' L' M' → (∀ vs, (∀ i, i ∈ tsl → i ∈ vs) → wipe σ' vs = wipe σ vs) → Qk σ' H'
section
variable {X : Cx} {tg : Expr} {tgs : List Expr} {pos : Pos}
abbrev SG (X : Cx) (tg : Expr) (tsl : List Nat) (f : D → Env → Store → Option (Env × Store)) : Prop := PG X tg (gD X.K tsl f)
abbrev SGs (X : Cx) (tgs : List Expr) (tsl : List Nat) (f : List D → Env → Store → Option (Env × Store)) : Prop := PGs X tgs (gDs X.K tsl f)
theorem _root_.L2.PG.imp {t t' : TG} (h : PG X tg t) (i : ∀ v σ H Q, t' v σ H Q → t v σ H Q) : PG X tg t' := ⟨fun pins s σ H v u Q I r q => h.run pins s σ H v u Q I r (i v σ H Q q)⟩
theorem _root_.L2.PGs.imp {t t' : TGs} (h : PGs X tgs t) (i : ∀ v σ H Q, t' v σ H Q → t v σ H Q) : PGs X tgs t' := ⟨fun pins s σ H v u Q I r q => h.run pins s σ H v u Q I r (i v σ H Q q)⟩
theorem sg_name {i : Nat} {x : Str} (hN : X.N.Nodup) (hi : X.N[i]? = some x) (hx : Loc X.env.scope x) (hf : X.fn x = true ∨ X.env.scope.names.lookup x = some .local) : SG X (.Name x pos) [i] (fun d ρ M => if i < ρ.length then some (ρ.set i (some d), M) else none) := by
  refine (pg_name hN hi hx hf).imp fun v σ H Q h => ?_
  obtain ⟨ρ, L, M, d, ρ', M', r, p, rd, e, q⟩ := h
  try dsimp only at e
  split at e
  · cases e
    exact q _ H L (Grow.refl _ _) (r.set rd) p fun vs hv => wipe_set (hv i List.mem_cons_self)
  · cases e
theorem sgs_nil : SGs X [] [] (fun ds ρ M => match ds with | [] => some (ρ, M) | _ => none) := by
  refine pgs_nil.imp fun v σ H Q h => ?_
  obtain ⟨ρ, L, M, d, ρ', M', r, p, rd, e, q⟩ := h
  try dsimp only at e
  split at e
  · cases e
    exact ⟨rd, q σ H L (Grow.refl _ _) r p fun vs _ => rfl⟩
  · cases e
theorem sgs_cons {t1 t2 : List Nat} {f : D → Env → Store → Option (Env × Store)} {fs : List D → Env → Store → Option (Env × Store)} (h1 : SG X tg t1 f) (h2 : SGs X tgs t2 fs) (hs : (assignEach (tg :: tgs) X.env).map (·.2) = assign tg X.env :: (assignEach tgs X.env).map (·.2)) :
    SGs X (tg :: tgs) (t1 ++ t2) (fun ds ρ M => match ds with
      | d :: ds => match f d ρ M with
        | some (ρ1, M1) => fs ds ρ1 M1
        | none => none
      | [] => none) := by
  refine (pgs_cons h1 h2 hs).imp fun v σ H Q h => ?_
  obtain ⟨ρ, L, M, ds, ρ', M', r, p, rd, e, q⟩ := h
  try dsimp only at e
  split at e
  · rename_i d ds
    obtain ⟨v, vs, rfl, r1, r2⟩ := rd
    split at e
    · rename_i ρ1 M1 e1
      refine ⟨v, vs, rfl, ρ, L, M, d, ρ1, M1, r, p, r1, e1, fun σ1 H1 L1 g1 q1 p1 w1 => ⟨ρ1, L1, M1, ds, ρ', M', q1, p1, RDs.mono g1 _ _ r2, e, fun σ2 H2 L2 g2 q2 p2 w2 => q σ2 H2 L2 (g1.trans g2) q2 p2 fun vs hv => ?_⟩⟩
      rw [w2 vs fun i hi => hv i (List.mem_append_right _ hi), w1 vs fun i hi => hv i (List.mem_append_left _ hi)]
    · cases e
  · cases e
theorem sg_tup {tsl : List Nat} {k : Nat} {fs : List D → Env → Store → Option (Env × Store)} (hc : X.calm = true) (h : SGs X tgs tsl fs) (n : Nat) (hl : ∀ ds ρ M r, fs ds ρ M = some r → ds.length = n) (hn : (assignEach tgs X.env).length = n) (hst : (assignEach tgs X.env).findIdx? (·.1) = none) :
    SG X (.Tuple tgs k pos) tsl (fun d ρ M => match d with
      | .tup ds => fs ds ρ M
      | _ => none) := by
  refine (pg_tup hc h hn hst).imp fun v σ H Q h => ?_
  obtain ⟨ρ, L, M, d, ρ', M', r, p, rd, e, q⟩ := h
  try dsimp only at e
  split at e
  · rename_i ds
    obtain ⟨a, xs, rfl, h1, h2⟩ := rd
    exact ⟨a, xs, rfl, h1, by rw [← h2.length]; exact hl _ _ _ _ e, ρ, L, M, ds, ρ', M', r, p, h2, e, q⟩
  · cases e
theorem sg_sub {o i : Expr} {f g : Env → Store → R D} (hu : X.A.units + 65 < cLine) (ho : SE X o f) (hi : SE X i g) (ha : ∀ v, assign (.Subscript o i pos) X.env v = (do
      let ov ← holding [v] (eval o X.env)
      let iv ← holding [v, ov] (eval i X.env)
      standAt pos
      holding [v, ov, iv] (setItem ov iv v)
      release [v, ov, iv] [])) : SG X (.Subscript o i pos) [] (fun d ρ M => match f ρ M with
    | some (x, M1) => match g ρ M1 with
      | some (y, M2) => (putS x y d M2).map fun M3 => (ρ, M3)
      | none => none
    | none => none) := by
  refine (pg_sub ho hi (set_put (by omega)) ha).imp fun v σ H Q h => ?_
  obtain ⟨ρ, L, M, d, ρ', M', r, p, rd, e, q⟩ := h
  try dsimp only at e
  split at e
  · rename_i x M1 e1
    split at e
    · rename_i y M2 e2
      cases z : putS x y d M2 with
      | none => rw [z] at e; cases e
      | some M3 =>
        rw [z] at e
        cases e
        exact two r p e1 e2 fun v u H2 L2 g2 p2 r1 r2 => ⟨L2, M2, x, y, d, _, p2, r1, r2, RD.mono g2 _ _ rd, z, fun H3 g3 p3 => q σ H3 L2 (g2.trans g3) (r.mono (g2.trans g3)) p3 fun vs _ => rfl⟩
    · cases e
  · cases e
end

/-! ### statements -/
def EndOk (K : PySem.W.Frag) (H : Hp) (L : List Place) (o : Out) (ρ' : Env) (M' : Store) (Dn : Ends) : Prop := match o with
  | .nx => ∀ σ' H' L', Grow H H' L L' → RE K H' L' ρ' σ' → Rep K H' L' M' → Dn.nx σ' H'
  | .bk => ∀ σ' H' L', Grow H H' L L' → RE K H' L' ρ' σ' → Rep K H' L' M' → Dn.bk σ' H'
  | .ct => ∀ σ' H' L', Grow H H' L L' → RE K H' L' ρ' σ' → Rep K H' L' M' → Dn.ct σ' H'
  | .rt d => Fin1 K H L M' d Dn.rt
theorem EndOk.later {K : PySem.W.Frag} {H H1 : Hp} {L L1 : List Place} {o : Out} {ρ' : Env} {M' : Store} {Dn : Ends} (h : EndOk K H L o ρ' M' Dn) (g : Grow H H1 L L1) : EndOk K H1 L1 o ρ' M' Dn := by
  cases o with
  | nx => exact fun σ' H' L' g' r p => h σ' H' L' (g.trans g') r p
  | bk => exact fun σ' H' L' g' r p => h σ' H' L' (g.trans g') r p
  | ct => exact fun σ' H' L' g' r p => h σ' H' L' (g.trans g') r p
  | rt d => exact Fin1.later h g
def tSt (K : PySem.W.Frag) (f : Env → Store → Option (Out × Env × Store)) : TS := fun Dn σ H => ∃ ρ L M o ρ' M', RE K H L ρ σ ∧ Rep K H L M ∧ f ρ M = some (o, ρ', M') ∧ EndOk K H L o ρ' M' Dn
section
variable {X : Cx} {st : Stmt} {sts : List Stmt} {e a b tg : Expr} {pos : Pos} {f g : Env → Store → R D} {fs fs2 : Env → Store → Option (Out × Env × Store)}
abbrev SS (X : Cx) (st : Stmt) (f : Env → Store → Option (Out × Env × Store)) : Prop := PS X st (tSt X.K f)
abbrev SSs (X : Cx) (sts : List Stmt) (f : Env → Store → Option (Out × Env × Store)) : Prop := PSs X sts (tSt X.K f)
theorem _root_.L2.PS.imp {t t' : TS} (h : L2.PS X st t) (i : ∀ Dn σ H, t' Dn σ H → t Dn σ H) : L2.PS X st t' := ⟨fun pins s σ H Dn I q => h.run pins s σ H Dn I (i Dn σ H q)⟩
theorem _root_.L2.PSs.imp {t t' : TS} (h : PSs X sts t) (i : ∀ Dn σ H, t' Dn σ H → t Dn σ H) : PSs X sts t' := ⟨fun pins s σ H Dn I q => h.run pins s σ H Dn I (i Dn σ H q)⟩
theorem sss_nil : SSs X [] (fun ρ M => some (.nx, ρ, M)) := by
  refine pss_nil.imp fun Dn σ H h => ?_
  obtain ⟨ρ, L, M, o, ρ', M', r, p, e, q⟩ := h
  cases e
  exact q σ H L (Grow.refl _ _) r p
theorem sss_cons (h1 : SS X st fs) (h2 : SSs X sts fs2) : SSs X (st :: sts) (fun ρ M => match fs ρ M with
    | some (.nx, ρ1, M1) => fs2 ρ1 M1
    | r => r) := by
  refine (pss_cons h1 h2).imp fun Dn σ H h => ?_
  obtain ⟨ρ, L, M, o, ρ', M', r, p, e, q⟩ := h
  try dsimp only at e
  split at e
  · rename_i ρ1 M1 e1
    exact ⟨ρ, L, M, .nx, ρ1, M1, r, p, e1, fun σ1 H1 L1 g1 r1 p1 => ⟨ρ1, L1, M1, o, ρ', M', r1, p1, e, q.later g1⟩⟩
  · rename_i r' hne
    refine ⟨ρ, L, M, o, ρ', M', r, p, e, ?_⟩
    cases o with
    | nx => exact absurd e (hne _ _)
    | bk => exact q
    | ct => exact q
    | rt d => exact q
theorem ss_asg {tsl : List Nat} {fg : D → Env → Store → Option (Env × Store)} (he : SE X e f) (hg : SG X tg tsl fg) (hs : swapsWithSole [tg] e pos.line X.env = pure false) (hw : swappedStores [tg] e X.env = pure none) (h1 : (assignEach [tg] X.env).map (·.2) = [assign tg X.env]) :
    SS X (.Assign [tg] e pos) (fun ρ M => match f ρ M with
      | some (d, M1) => match fg d ρ M1 with
        | some (ρ1, M2) => some (.nx, ρ1, M2)
        | none => none
      | none => none) := by
  refine (ps_asg he hg hs hw h1).imp fun Dn σ H h => ?_
  obtain ⟨ρ, L, M, o, ρ', M', r, p, e, q⟩ := h
  try dsimp only at e
  split at e
  · rename_i d M1 e1
    split at e
    · rename_i ρ1 M2 e2
      cases e
      exact ⟨ρ, L, M, d, M1, r, p, e1, fun v H1 L1 g1 p1 r1 => ⟨ρ, L1, M1, d, _, _, r.mono g1, p1, r1, e2, fun σ2 H2 L2 g2 r2 p2 _ => q σ2 H2 L2 (g1.trans g2) r2 p2⟩⟩
    · cases e
  · cases e
/-- a, b = x, y of plain locals -/
theorem ss_par {i j : Nat} {x y : Str} {px py pt : Pos} {kt k2 : Nat} {pt2 : Pos} {fas : Env → Store → R (List D)} (hc : X.calm = true) (hN : X.N.Nodup) (hi : X.N[i]? = some x) (hj : X.N[j]? = some y) (hij : i ≠ j)
    (hx : X.env.scope.names.lookup x = some .local) (hy : X.env.scope.names.lookup y = some .local) (ha : SA X [a, b] fas)
    (hw : swappedStores [.Tuple [.Name x px, .Name y py] kt pt] (.Tuple [a, b] k2 pt2) X.env = pure (some [x, y])) (hs : swapsWithSole [.Tuple [.Name x px, .Name y py] kt pt] (.Tuple [a, b] k2 pt2) pos.line X.env = pure false)
    (h2 : ∀ ρ M ds M1, fas ρ M = some (ds, M1) → ds.length = 2) :
    SS X (.Assign [.Tuple [.Name x px, .Name y py] kt pt] (.Tuple [a, b] k2 pt2) pos) (fun ρ M => match fas ρ M with
      | some (d1 :: d2 :: _, M1) => if i < ρ.length ∧ j < ρ.length then some (.nx, (ρ.set i (some d1)).set j (some d2), M1) else none
      | _ => none) := by
  refine (ps_par hc hN hi hj hij hx hy ha hw hs).imp fun Dn σ H h => ?_
  obtain ⟨ρ, L, M, o, ρ', M', r, p, e, q⟩ := h
  try dsimp only at e
  split at e
  · rename_i d1 d2 ds M1 e1
    split at e
    · cases e
      have hl := h2 _ _ _ _ e1
      have e0 : ds = [] := by
        cases ds with
        | nil => rfl
        | cons _ _ => simp at hl
      subst e0
      refine ⟨ρ, L, M, _, _, r, p, e1, fun vs H1 L1 g1 p1 r1 => ?_⟩
      obtain ⟨v, w', rfl, r2, r3⟩ := r1.inv2
      exact ⟨v, w', rfl, q _ H1 L1 g1 (((r.mono g1).set r2).set r3) p1⟩
    · cases e
  · cases e
/-- ints, texts and tuples: += is +, -= is -, .. -/
theorem iop_bin {o : Operator} : OpR X (inplaceOp o) (fun x y H Q => ∃ L M dx dy d M', Rep X.K H L M ∧ RD X.K H L dx x ∧ RD X.K H L dy y ∧ augS o dx dy M = some (d, M') ∧ Fin1 X.K H L M' d Q) := by
  intro pins s σ H x y v u Q I rx ry h
  obtain ⟨L, M, dx, dy, d, M', r, hx, hy, e, f⟩ := h
  unfold augS at e
  split at e
  · cases e
    exact iop_add pins s σ H x y v u Q I rx ry ⟨_, _, hx, hy, f.here r rfl⟩
  · cases e
    exact iop_sub pins s σ H x y v u Q I rx ry ⟨_, _, hx, hy, f.here r rfl⟩
  · split at e
    · rename_i hm
      cases e
      exact iop_add_str pins s σ H x y v u Q I rx ry ⟨_, _, hx.1, hy.1, hm, f.here r ⟨rfl, strOk_append hx.2 hy.2⟩⟩
    · cases e
  · cases e
theorem ss_aug {i : Nat} {x : Str} {o : Operator} {pos' : Pos} (hN : X.N.Nodup) (hi : X.N[i]? = some x) (hx : Loc X.env.scope x) (hf : X.fn x = true ∨ X.env.scope.names.lookup x = some .local) (he : SE X e f) :
    SS X (.AugAssign (.Name x pos') o e pos) (fun ρ M => match ρ[i]? with
      | some (some x) => match f ρ M with
        | some (y, M1) => match augS o x y M1 with
          | some (z, M2) => some (.nx, ρ.set i (some z), M2)
          | none => none
        | none => none
      | _ => none) := by
  refine (ps_aug hN hi hx he (fun pins s σ H x y v u Q I rx ry h => iop_bin pins s σ H x y v u Q I rx ry h) hf).imp fun Dn σ H h => ?_
  obtain ⟨ρ, L, M, o, ρ', M', r, p, e, q⟩ := h
  try dsimp only at e
  split at e
  · rename_i x z
    obtain ⟨v, e1, r1⟩ := r.at_ i _ z
    split at e
    · rename_i y M1 e2
      split at e
      · rename_i z' M2 e3
        cases e
        exact ⟨v, e1, ρ, L, M, y, M1, r, p, e2, fun u H1 L1 g1 p1 r2 => ⟨L1, M1, x, y, z', _, p1, RD.mono g1 _ _ r1, r2, e3, fun w' H2 L2 g2 p2 r3 => q _ H2 L2 (g1.trans g2) ((r.mono (g1.trans g2)).set r3) p2⟩⟩
      · cases e
    · cases e
  · cases e
theorem ss_ex (he : SE X e f) (hs : swapsWith e none pos.line X.env = pure false) : SS X (.Expr e pos) (fun ρ M => match f ρ M with
    | some (_, M1) => some (.nx, ρ, M1)
    | none => none) := by
  refine (ps_expr he hs).imp fun Dn σ H h => ?_
  obtain ⟨ρ, L, M, o, ρ', M', r, p, e, q⟩ := h
  try dsimp only at e
  split at e
  · rename_i d M1 e1
    cases e
    exact ⟨ρ, L, M, d, _, r, p, e1, fun v H1 L1 g1 p1 _ => q σ H1 L1 g1 (r.mono g1) p1⟩
  · cases e
theorem ss_if {c : Expr} {as bs : List Stmt} {h : Env → Store → R D} (hc : SB X c (evT h)) (ha : SSs X as fs) (hb : SSs X bs fs2) : SS X (.If c as bs pos) (fun ρ M => match h ρ M with
    | some (x, M1) => match truth M1 x with
      | some true => fs ρ M1
      | some false => fs2 ρ M1
      | none => none
    | none => none) := by
  refine (ps_if hc ha hb).imp fun Dn σ H h => ?_
  obtain ⟨ρ, L, M, o, ρ', M', r, p, e, q⟩ := h
  try dsimp only at e
  split at e
  · rename_i x M1 e1
    split at e
    · rename_i z
      exact ⟨ρ, L, M, true, M1, r, p, by unfold evT; rw [e1]; simp only []; rw [z]; rfl, fun H1 L1 g1 p1 => iteT ⟨ρ, L1, M1, o, ρ', M', r.mono g1, p1, e, q.later g1⟩⟩
    · rename_i z
      exact ⟨ρ, L, M, false, M1, r, p, by unfold evT; rw [e1]; simp only []; rw [z]; rfl, fun H1 L1 g1 p1 => iteF ⟨ρ, L1, M1, o, ρ', M', r.mono g1, p1, e, q.later g1⟩⟩
    · cases e
  · cases e
theorem ss_ret (he : SE X e f) : SS X (.Return (some e) pos) (fun ρ M => match f ρ M with
    | some (d, M1) => some (.rt d, ρ, M1)
    | none => none) := by
  refine (ps_ret he).imp fun Dn σ H h => ?_
  obtain ⟨ρ, L, M, o, ρ', M', r, p, e, q⟩ := h
  try dsimp only at e
  split at e
  · rename_i d M1 e1
    cases e
    exact ⟨ρ, L, M, d, _, r, p, e1, q⟩
  · cases e
theorem ss_retN : SS X (.Return none pos) (fun ρ M => some (.rt .non, ρ, M)) := by
  refine ps_retN.imp fun Dn σ H h => ?_
  obtain ⟨ρ, L, M, o, ρ', M', r, p, e, q⟩ := h
  cases e
  exact Fin1.here q p rfl
theorem ss_brk : SS X (.Break pos) (fun ρ M => some (.bk, ρ, M)) := by
  refine ps_break.imp fun Dn σ H h => ?_
  obtain ⟨ρ, L, M, o, ρ', M', r, p, e, q⟩ := h
  cases e
  exact q σ H L (Grow.refl _ _) r p
theorem ss_cnt : SS X (.Continue pos) (fun ρ M => some (.ct, ρ, M)) := by
  refine ps_continue.imp fun Dn σ H h => ?_
  obtain ⟨ρ, L, M, o, ρ', M', r, p, e, q⟩ := h
  cases e
  exact q σ H L (Grow.refl _ _) r p
theorem ss_pass : SS X (.Pass pos) (fun ρ M => some (.nx, ρ, M)) := by
  refine ps_pass.imp fun Dn σ H h => ?_
  obtain ⟨ρ, L, M, o, ρ', M', r, p, e, q⟩ := h
  cases e
  exact q σ H L (Grow.refl _ _) r p

/-! ### loops -/
theorem ss_for {tsl : List Nat} {iter : Expr} {body : List Stmt} {fi : Env → Store → Option ((Store → Bool) × List D × Store)} {fg : D → Env → Store → Option (Env × Store)} (hp : PassesOwn (model X.prog X.w) X.A X.env X.xe) (hc : X.calm = true) (hi : SI X tg iter fi) (hg : SG X tg tsl fg) (hb : SSs X body fs)
    (hs : ∀ x, foldedSetIterable iter X.env x = pure x) : SS X (.For tg iter body [] pos) (fun ρ M => match fi ρ M with
      | some (ok, ds, M1) => forG ok (fun d ρ M => match fg d ρ M with
          | some (ρ1, M1) => fs ρ1 M1
          | none => none) ds ρ M1
      | none => none) := by
  refine (ps_for hp hc hi hg hb hs).imp fun Dn σ H h => ?_
  obtain ⟨ρ, L, M, o, ρ', M', r, p, e, q⟩ := h
  try dsimp only at e
  split at e
  · rename_i ok ds M1 e1
    refine ⟨ρ, L, M, ok, ds, M1, r, p, e1, fun J H1 L1 g1 p1 hJ => ?_⟩
    generalize hF : (fun d ρ M => match fg d ρ M with
          | some (ρ1, M1) => fs ρ1 M1
          | none => none) = F at e
    refine ⟨fun i m σ2 H2 => m = ds.length - i ∧ i ≤ ds.length ∧ ∃ ρ2 L2 M2, Grow H1 H2 L1 L2 ∧ RE X.K H2 L2 ρ2 σ2 ∧ Rep X.K H2 L2 M2 ∧ ∃ o ρ' M', forG ok F (ds.drop i) ρ2 M2 = some (o, ρ', M') ∧ EndOk X.K H2 L2 o ρ' M' Dn, ⟨ds.length, by simp, Nat.zero_le _, ρ, L1, M1, Grow.refl _ _, r.mono g1, p1, o, ρ', M', by simpa using e, q.later g1⟩, ?_⟩
    rintro i m σ2 H2 ⟨rfl, hi2, ρ2, L2, M2, g2, r2, p2, o2, ρ3, M3, e2, q2⟩
    by_cases hlt : i < ds.length
    · right
      have hd : ds.drop i = ds[i] :: ds.drop (i + 1) := List.drop_eq_getElem_cons hlt
      rw [hd] at e2
      unfold forG at e2
      split at e2
      · rename_i hok
        obtain ⟨hgo, -⟩ := hJ i H2 L2 M2 g2 p2 hok
        obtain ⟨hg1, hy⟩ := hgo ds[i] (List.getElem?_eq_getElem hlt)
        refine ⟨hg1, fun σ' H' => (ds.length - (i + 1) = ds.length - (i + 1) ∧ i + 1 ≤ ds.length ∧ ∃ ρ2 L2 M2, Grow H1 H' L1 L2 ∧ RE X.K H' L2 ρ2 σ' ∧ Rep X.K H' L2 M2 ∧ ∃ o ρ' M', forG ok F (ds.drop (i + 1)) ρ2 M2 = some (o, ρ', M') ∧ EndOk X.K H' L2 o ρ' M' Dn), fun σ' H' hN => ⟨_, by omega, hN⟩, fun x H' hyx => ?_⟩
        obtain ⟨g3, p3, rd⟩ := hy x H' hyx
        have key : ∃ ρ4 M4, fg ds[i] ρ2 M2 = some (ρ4, M4) ∧ ∃ o5 ρ5 M5, fs ρ4 M4 = some (o5, ρ5, M5) ∧ (match (some (o5, ρ5, M5) : Option (Out × Env × Store)) with
            | some (.nx, ρ1, M1) => forG ok F (ds.drop (i + 1)) ρ1 M1
            | some (.ct, ρ1, M1) => forG ok F (ds.drop (i + 1)) ρ1 M1
            | some (.bk, ρ1, M1) => some (.nx, ρ1, M1)
            | some (.rt d, ρ1, M1) => some (.rt d, ρ1, M1)
            | none => none) = some (o2, ρ3, M3) := by
          rw [← hF] at e2
          cases z : fg ds[i] ρ2 M2 with
          | none => simp only [z] at e2; cases e2
          | some w =>
            obtain ⟨ρ4, M4⟩ := w
            simp only [z] at e2
            cases z2 : fs ρ4 M4 with
            | none => rw [z2] at e2; cases e2
            | some w2 =>
              obtain ⟨o5, ρ5, M5⟩ := w2
              rw [z2] at e2
              rw [hF] at e2
              exact ⟨ρ4, M4, rfl, o5, ρ5, M5, z2, e2⟩
        obtain ⟨ρ4, M4, k1, o5, ρ5, M5, k2, k3⟩ := key
        refine ⟨ρ2, L2, M2, ds[i], ρ4, M4, r2.mono g3, p3, rd, k1, fun σ4 H4 L4 g4 r4 p4 _ => ⟨ρ4, L4, M4, o5, ρ5, M5, r4, p4, k2, ?_⟩⟩
        have gq : Grow H2 H4 L2 L4 := g3.trans g4
        cases o5 with
        | nx => exact fun σ5 H5 L5 g5 r5 p5 => ⟨rfl, hlt, ρ5, L5, M5, g2.trans (gq.trans g5), r5, p5, o2, ρ3, M3, k3, q2.later (gq.trans g5)⟩
        | ct => exact fun σ5 H5 L5 g5 r5 p5 => ⟨rfl, hlt, ρ5, L5, M5, g2.trans (gq.trans g5), r5, p5, o2, ρ3, M3, k3, q2.later (gq.trans g5)⟩
        | bk =>
          cases k3
          exact fun σ5 H5 L5 g5 r5 p5 => q2 σ5 H5 L5 (gq.trans g5) r5 p5
        | rt d =>
          cases k3
          exact Fin1.later q2 gq
      · cases e2
    · left
      have hi3 : i = ds.length := by omega
      subst hi3
      rw [List.drop_length] at e2
      unfold forG at e2
      split at e2
      · rename_i hok
        cases e2
        obtain ⟨-, hst⟩ := hJ ds.length H2 L2 _ g2 p2 hok
        exact ⟨hst (Nat.le_refl _), q2 σ2 H2 L2 (Grow.refl _ _) r2 p2⟩
      · cases e2
  · cases e
theorem ss_while {c : Expr} {body : List Stmt} {h : Env → Store → R D} {W : Nat} (hp : PassesOwn (model X.prog X.w) X.A X.env X.xe) (hc : SB X c (evT h)) (hb : SSs X body fs) : SS X (.While c body [] pos) (fun ρ M => whlG (evT h) fs W ρ M) := by
  refine (ps_while hp hc hb).imp fun Dn σ H hh => ?_
  obtain ⟨ρ, L, M, o, ρ', M', r, p, e, q⟩ := hh
  refine ⟨fun m σ2 H2 => ∃ ρ2 L2 M2 o ρ' M', RE X.K H2 L2 ρ2 σ2 ∧ Rep X.K H2 L2 M2 ∧ whlG (evT h) fs m ρ2 M2 = some (o, ρ', M') ∧ EndOk X.K H2 L2 o ρ' M' Dn, ⟨W, ρ, L, M, o, ρ', M', r, p, e, q⟩, ?_⟩
  rintro m σ2 H2 ⟨ρ2, L2, M2, o2, ρ3, M3, r2, p2, e2, q2⟩
  cases m with
  | zero => cases e2
  | succ m =>
    unfold whlG at e2
    split at e2
    · rename_i M4 z1
      refine ⟨ρ2, L2, M2, true, M4, r2, p2, z1, fun H4 L4 g4 p4 => iteT ⟨fun σ' H' => ∃ ρ2 L2 M2 o ρ' M', RE X.K H' L2 ρ2 σ' ∧ Rep X.K H' L2 M2 ∧ whlG (evT h) fs m ρ2 M2 = some (o, ρ', M') ∧ EndOk X.K H' L2 o ρ' M' Dn, fun σ' H' hN => ⟨m, Nat.lt_succ_self m, hN⟩, ?_⟩⟩
      cases z2 : fs ρ2 M4 with
      | none => rw [z2] at e2; cases e2
      | some w =>
        obtain ⟨o5, ρ5, M5⟩ := w
        rw [z2] at e2
        refine ⟨ρ2, L4, M4, o5, ρ5, M5, r2.mono g4, p4, z2, ?_⟩
        cases o5 with
        | nx => exact fun σ5 H5 L5 g5 r5 p5 => ⟨ρ5, L5, M5, o2, ρ3, M3, r5, p5, e2, q2.later (g4.trans g5)⟩
        | ct => exact fun σ5 H5 L5 g5 r5 p5 => ⟨ρ5, L5, M5, o2, ρ3, M3, r5, p5, e2, q2.later (g4.trans g5)⟩
        | bk =>
          cases e2
          exact fun σ5 H5 L5 g5 r5 p5 => q2 σ5 H5 L5 (g4.trans g5) r5 p5
        | rt d =>
          cases e2
          exact Fin1.later q2 g4
    · rename_i M4 z1
      cases e2
      exact ⟨ρ2, L2, M2, false, _, r2, p2, z1, fun H4 L4 g4 p4 => iteF (q2 σ2 H4 L4 g4 (r2.mono g4) p4)⟩
    · cases e2
end
end PS

set_option Elab.async false
set_option linter.all false
set_option maxRecDepth 100000
set_option maxHeartbeats 4000000
/-! PS11: comprehensions. -/
namespace PS
open PySem PySem.Spec PyProof.Rows L2
/-- one turn of a comprehension -/
def turnC (fg : D → Env → Store → Option (Env × Store)) (fc : Env → Store → R Bool) (fe : Env → Store → R D) (ρ : Env) (d : D) (M : Store) : R (Option D) := match fg d ρ M with
  | some (ρ1, M1) => match fc ρ1 M1 with
    | some (true, M2) => match fe ρ1 M2 with
      | some (y, M3) => some (some y, M3)
      | none => none
    | some (false, M2) => some (none, M2)
    | none => none
  | none => none
def turnD (fg : D → Env → Store → Option (Env × Store)) (fc : Env → Store → R Bool) (fk fv : Env → Store → R D) (ρ : Env) (d : D) (M : Store) : R (Option (D × D)) := match fg d ρ M with
  | some (ρ1, M1) => match fc ρ1 M1 with
    | some (true, M2) => match fk ρ1 M2 with
      | some (x, M3) => match fv ρ1 M3 with
        | some (y, M4) => some (some (x, y), M4)
        | none => none
      | none => none
    | some (false, M2) => some (none, M2)
    | none => none
  | none => none
def lcF (fi : Env → Store → Option ((Store → Bool) × List D × Store)) (fg : D → Env → Store → Option (Env × Store)) (fc : Env → Store → R Bool) (fe : Env → Store → R D) (vs : List Nat) (ρ : Env) (M : Store) : R (List D) := match fi ρ M with
  | some (ok, ds, M1) => compG ok (turnC fg fc fe (wipeD ρ vs)) ds [] M1
  | none => none
def dcF (fi : Env → Store → Option ((Store → Bool) × List D × Store)) (fg : D → Env → Store → Option (Env × Store)) (fc : Env → Store → R Bool) (fk fv : Env → Store → R D) (vs : List Nat) (ρ : Env) (M : Store) : R (List (Key × D)) := match fi ρ M with
  | some (ok, ds, M1) => dcG ok (turnD fg fc fk fv (wipeD ρ vs)) ds [] M1
  | none => none
section
variable {X : Cx} {elt kx vx tg iter : Expr} {ifs : List Expr} {scope : Scope} {own : List (Str × Nat)} {pos : Pos} {tsl : List Nat}
  {fi : Env → Store → Option ((Store → Bool) × List D × Store)} {fg : D → Env → Store → Option (Env × Store)} {fc : Env → Store → R Bool} {fe fk fv : Env → Store → R D}
abbrev STs (X : Cx) (ifs : List Expr) (f : Env → Store → R Bool) : Prop := PTs X ifs (tBl X.K f)
theorem _root_.L2.PTs.imp {X : Cx} {ifs : List Expr} {t t' : TT} (h : PTs X ifs t) (i : ∀ σ H Q, t' σ H Q → t σ H Q) : PTs X ifs t' := ⟨fun pins s σ H Q I q => h.run pins s σ H Q I (i σ H Q q)⟩
theorem sts_nil : STs X [] (fun _ M => some (true, M)) := by
  refine pts_nil.imp fun σ H Q h => ?_
  obtain ⟨ρ, L, M, b, M', r, p, e, q⟩ := h
  cases e
  exact q H L (Grow.refl _ _) p
theorem sts_one {c : Expr} {f : Env → Store → R Bool} (h : SB X c f) : STs X [c] f := pts_one h
/-- the turns, over the list at the new address -/
theorem lc_in {K : PySem.W.Frag} (vs : List Nat) (hv : ∀ i, i ∈ tsl → i ∈ vs) : ∀ σ H Q, tLn K (lcF fi fg fc fe vs) σ H Q → tLc (tIt K fi) (gD K tsl fg) (tBl K fc) (tD K fe) vs σ H Q := by
  intro σ H Q h
  obtain ⟨ρ, L, M, ds', M', r, p, e, q⟩ := h
  try unfold lcF at e
  try unfold dcF at e
  split at e
  · rename_i ok ds M1 e1
    refine ⟨ρ, L, M, ok, ds, M1, r, p, e1, fun J H1 L1 g1 p1 hJ Dp hD => ?_⟩
    refine ⟨fun i m H2 => m = ds.length - i ∧ i ≤ ds.length ∧ ∃ L2 M2 accD accV, Grow H1 H2 L1 L2 ∧ Rep K H2 L2 M2 ∧ Place.w Dp ∉ L2 ∧ H2 Dp = some (.lst accV) ∧ RDs K H2 L2 accD accV ∧ compG ok (turnC fg fc fe (wipeD ρ vs)) (ds.drop i) accD M2 = some (ds', M'),
      ⟨ds.length, by simp, Nat.zero_le _, L1, M1, [], [], Grow.tmp (Grow.refl _ _) hD, Rep.fresh hD p1, p1.free hD, upd_same, rfl, by simpa using e⟩, ?_⟩
    rintro i m H2 ⟨rfl, hi2, L2, M2, accD, accV, g2, p2, hn, hH, ra, e2⟩
    by_cases hlt : i < ds.length
    · right
      have hd : ds.drop i = ds[i] :: ds.drop (i + 1) := List.drop_eq_getElem_cons hlt
      rw [hd] at e2
      unfold compG at e2
      split at e2
      · rename_i hok
        obtain ⟨hgo, -⟩ := hJ i H2 L2 M2 g2 p2 hok
        obtain ⟨hg1, hy⟩ := hgo ds[i] (List.getElem?_eq_getElem hlt)
        refine ⟨hg1, fun H' => (ds.length - (i + 1) = ds.length - (i + 1) ∧ i + 1 ≤ ds.length ∧ ∃ L2 M2 accD accV, Grow H1 H' L1 L2 ∧ Rep K H' L2 M2 ∧ Place.w Dp ∉ L2 ∧ H' Dp = some (.lst accV) ∧ RDs K H' L2 accD accV ∧ compG ok (turnC fg fc fe (wipeD ρ vs)) (ds.drop (i + 1)) accD M2 = some (ds', M')), fun H' hN => ⟨_, by omega, hN⟩, fun x H3 hyx => ?_⟩
        obtain ⟨g3, p3, rd⟩ := hy x H3 hyx
        cases z0 : turnC fg fc fe (wipeD ρ vs) ds[i] M2 with
        | none => rw [z0] at e2; cases e2
        | some w0 =>
        rw [z0] at e2
        unfold turnC at z0
        cases z1 : fg ds[i] (wipeD ρ vs) M2 with
        | none => rw [z1] at z0; cases z0
        | some w1 =>
        obtain ⟨ρ1, M3⟩ := w1
        rw [z1] at z0
        try dsimp only at z0
        cases z2 : fc ρ1 M3 with
        | none => rw [z2] at z0; cases z0
        | some w2 =>
        obtain ⟨bb, M4⟩ := w2
        rw [z2] at z0
        try dsimp only at z0
        refine ⟨wipeD ρ vs, L2, M2, ds[i], ρ1, M3, ((r.mono (g1.trans (g2.trans g3))).wipe), p3, rd, z1, fun σ4 H4 L4 g4 r4 p4 w4 => ⟨?_, ρ1, L4, M3, bb, M4, r4, p4, z2, fun H5 L5 g5 p5 => ?_⟩⟩
        · rw [w4 vs hv, wipe_wipe]
        have gq : Grow H2 H5 L2 L5 := (g3.trans g4).trans g5
        cases bb with
        | true =>
          try dsimp only at z0
          cases z3 : fe ρ1 M4 with
          | none => rw [z3] at z0; cases z0
          | some w3 =>
          obtain ⟨y, M5⟩ := w3
          rw [z3] at z0
          cases z0
          try dsimp only at e2
          refine iteT ⟨ρ1, L5, M4, y, M5, r4.mono g5, p5, z3, fun v H6 L6 g6 p6 r6 => ⟨accV, (gq.trans g6).keep _ _ hH hn, ?_, rfl, hlt, L6, M5, accD ++ [y], accV ++ [v], ?_⟩⟩
          · split at e2
            · rename_i hl
              rw [← ra.length]
              exact hl
            · cases e2
          · have gz := gq.trans g6
            have hH6 := gz.keep _ _ hH hn
            have hn6 := gz.notin hH hn
            have x6 : Ext H6 (upd H6 Dp (.lst (accV ++ [v]))) L6 L6 := Ext.tmp hH6 rfl
            refine ⟨Grow.tmp (g2.trans gz) hD, Rep.tmp hH6 rfl hn6 p6, hn6, upd_same, RDs.ext x6 _ _ ((RDs.mono gz _ _ ra).snoc r6), ?_⟩
            split at e2
            · exact e2
            · cases e2
        | false =>
          cases z0
          try dsimp only at e2
          exact iteF ⟨rfl, hlt, L5, _, accD, accV, g2.trans gq, p5, gq.notin hH hn, gq.keep _ _ hH hn, RDs.mono gq _ _ ra, e2⟩
      · cases e2
    · left
      have hi3 : i = ds.length := by omega
      subst hi3
      rw [List.drop_length] at e2
      unfold compG at e2
      split at e2
      · rename_i hok
        cases e2
        obtain ⟨-, hst⟩ := hJ ds.length H2 L2 _ g2 p2 hok
        exact ⟨hst (Nat.le_refl _), q Dp accV H2 L2 (g1.trans g2) p2 (g1.none p1 hD) hn hH ra⟩
      · cases e2
  · cases e
theorem sl_comp (hc : X.calm = true) (hN : X.N.Nodup) (hi : SI X tg iter fi) (ok : BlkOk X.N X.env.scope scope own) (hv : ∀ i, i ∈ tsl → i ∈ own.map (·.2))
    (hg : ∀ (s : Shared) (H : Hp) (C : Addr) (cl : List (Str × Addr)) (fp : List Addr), SG (X.blk s H scope (compEnvC scope cl C X.env) fp) tg tsl fg) (ht : ∀ (s : Shared) (H : Hp) (C : Addr) (cl : List (Str × Addr)) (fp : List Addr), STs (X.blk s H scope (compEnvC scope cl C X.env) fp) ifs fc)
    (he : ∀ (s : Shared) (H : Hp) (C : Addr) (cl : List (Str × Addr)) (fp : List Addr), SE (X.blk s H scope (compEnvC scope cl C X.env) fp) elt fe) (hs : ∀ x, foldedSetIterable iter X.env x = pure x) :
    SL X (.ListComp elt [⟨tg, iter, ifs, 0⟩] scope pos) (lcF fi fg fc fe (own.map (·.2))) :=
  (pe_lc (g := gD X.K tsl fg) (tt := tBl X.K fc) (te := tD X.K fe) hc hN hi ok hg ht he hs).imp (lc_in _ hv)
/-- name = [..], the name a plain local: used as it comes -/
theorem ss_setLc {i : Nat} {y : Str} {py spos : Pos} (hc : X.calm = true) (hN : X.N.Nodup) (hy : X.N[i]? = some y) (hyl : X.env.scope.names.lookup y = some .local)
    (hsw : swapsWith (.ListComp elt [⟨tg, iter, ifs, 0⟩] scope pos) (some (.Name y py)) spos.line X.env = pure true) (hi : SI X tg iter fi) (ok : BlkOk X.N X.env.scope scope own) (hv : ∀ i, i ∈ tsl → i ∈ own.map (·.2))
    (hg : ∀ (s : Shared) (H : Hp) (C : Addr) (cl : List (Str × Addr)) (fp : List Addr), SG (X.blk s H scope (compEnvC scope cl C X.env) fp) tg tsl fg) (ht : ∀ (s : Shared) (H : Hp) (C : Addr) (cl : List (Str × Addr)) (fp : List Addr), STs (X.blk s H scope (compEnvC scope cl C X.env) fp) ifs fc)
    (he : ∀ (s : Shared) (H : Hp) (C : Addr) (cl : List (Str × Addr)) (fp : List Addr), SE (X.blk s H scope (compEnvC scope cl C X.env) fp) elt fe) (hs : ∀ x, foldedSetIterable iter X.env x = pure x) :
    SS X (.Assign [.Name y py] (.ListComp elt [⟨tg, iter, ifs, 0⟩] scope pos) spos) (fun ρ M => match lcF fi fg fc fe (own.map (·.2)) ρ M with
      | some (ds, M1) => if i < ρ.length then some (.nx, ρ.set i (some (.ref M1.length)), M1 ++ [.lst ds]) else none
      | none => none) := by
  refine (ps_setLc (g := gD X.K tsl fg) (tt := tBl X.K fc) (te := tD X.K fe) hc hN hy hyl hsw hi ok hg ht he hs).imp fun Dn σ H h => ?_
  obtain ⟨ρ, L, M, o, ρ', M', r, p, e, q⟩ := h
  try dsimp only at e
  refine lc_in (K := X.K) (own.map (·.2)) hv σ H _ ?_
  split at e
  · rename_i ds M1 e1
    split at e
    · cases e
      refine ⟨ρ, L, M, ds, M1, r, p, e1, fun a xs H1 L1 g1 p1 h0 hn h1 r1 => ?_⟩
      have pt : Rep X.K H1 (L1 ++ [.w a]) (M1 ++ [.lst ds]) := p1.take hn ⟨xs, h1, r1⟩
      refine q _ H1 (L1 ++ [.w a]) (g1.take h0) ((r.mono g1).pre.set ⟨.w a, ?_, rfl⟩) pt
      rw [← p1.len, List.getElem?_append_right (Nat.le_refl _)]
      simp
    · cases e
  · cases e

/-! ### dict comprehensions -/
theorem dc_in {K : PySem.W.Frag} (vs : List Nat) (hv : ∀ i, i ∈ tsl → i ∈ vs) : ∀ σ H (Q : VK), (∃ ρ L M ds M', RE K H L ρ σ ∧ Rep K H L M ∧ dcF fi fg fc fk fv vs ρ M = some (ds, M') ∧ ∀ a ks H' L', Grow H H' L L' → Rep K H' L' M' → H a = none → Place.w a ∉ L' → H' a = some (.dK ks) → RKs K H' L' ds ks → Q (.ref a) H') → tDc (tIt K fi) (gD K tsl fg) (tBl K fc) (tD K fk) (tD K fv) vs σ H Q := by
  intro σ H Q h
  obtain ⟨ρ, L, M, ds', M', r, p, e, q⟩ := h
  try unfold lcF at e
  try unfold dcF at e
  split at e
  · rename_i ok ds M1 e1
    refine ⟨ρ, L, M, ok, ds, M1, r, p, e1, fun J H1 L1 g1 p1 hJ Dp hD => ?_⟩
    refine ⟨fun i m H2 => m = ds.length - i ∧ i ≤ ds.length ∧ ∃ L2 M2 accD accV, Grow H1 H2 L1 L2 ∧ Rep K H2 L2 M2 ∧ Place.w Dp ∉ L2 ∧ H2 Dp = some (.dK accV) ∧ RKs K H2 L2 accD accV ∧ dcG ok (turnD fg fc fk fv (wipeD ρ vs)) (ds.drop i) accD M2 = some (ds', M'),
      ⟨ds.length, by simp, Nat.zero_le _, L1, M1, [], [], Grow.tmp (Grow.refl _ _) hD, Rep.fresh hD p1, p1.free hD, upd_same, .nil, by simpa using e⟩, ?_⟩
    rintro i m H2 ⟨rfl, hi2, L2, M2, accD, accV, g2, p2, hn, hH, ra, e2⟩
    by_cases hlt : i < ds.length
    · right
      have hd : ds.drop i = ds[i] :: ds.drop (i + 1) := List.drop_eq_getElem_cons hlt
      rw [hd] at e2
      unfold dcG at e2
      split at e2
      · rename_i hok
        obtain ⟨hgo, -⟩ := hJ i H2 L2 M2 g2 p2 hok
        obtain ⟨hg1, hy⟩ := hgo ds[i] (List.getElem?_eq_getElem hlt)
        refine ⟨hg1, fun H' => (ds.length - (i + 1) = ds.length - (i + 1) ∧ i + 1 ≤ ds.length ∧ ∃ L2 M2 accD accV, Grow H1 H' L1 L2 ∧ Rep K H' L2 M2 ∧ Place.w Dp ∉ L2 ∧ H' Dp = some (.dK accV) ∧ RKs K H' L2 accD accV ∧ dcG ok (turnD fg fc fk fv (wipeD ρ vs)) (ds.drop (i + 1)) accD M2 = some (ds', M')), fun H' hN => ⟨_, by omega, hN⟩, fun x H3 hyx => ?_⟩
        obtain ⟨g3, p3, rd⟩ := hy x H3 hyx
        cases z0 : turnD fg fc fk fv (wipeD ρ vs) ds[i] M2 with
        | none => rw [z0] at e2; cases e2
        | some w0 =>
        rw [z0] at e2
        unfold turnD at z0
        cases z1 : fg ds[i] (wipeD ρ vs) M2 with
        | none => rw [z1] at z0; cases z0
        | some w1 =>
        obtain ⟨ρ1, M3⟩ := w1
        rw [z1] at z0
        try dsimp only at z0
        cases z2 : fc ρ1 M3 with
        | none => rw [z2] at z0; cases z0
        | some w2 =>
        obtain ⟨bb, M4⟩ := w2
        rw [z2] at z0
        try dsimp only at z0
        refine ⟨wipeD ρ vs, L2, M2, ds[i], ρ1, M3, ((r.mono (g1.trans (g2.trans g3))).wipe), p3, rd, z1, fun σ4 H4 L4 g4 r4 p4 w4 => ⟨?_, ρ1, L4, M3, bb, M4, r4, p4, z2, fun H5 L5 g5 p5 => ?_⟩⟩
        · rw [w4 vs hv, wipe_wipe]
        have gq : Grow H2 H5 L2 L5 := (g3.trans g4).trans g5
        cases bb with
        | true =>
          try dsimp only at z0
          cases z3 : fk ρ1 M4 with
          | none => rw [z3] at z0; cases z0
          | some w3 =>
          obtain ⟨y, M5⟩ := w3
          rw [z3] at z0
          try dsimp only at z0
          cases z4 : fv ρ1 M5 with
          | none => rw [z4] at z0; cases z0
          | some w4 =>
          obtain ⟨y', M6⟩ := w4
          rw [z4] at z0
          cases z0
          try dsimp only at e2
          cases z5 : keyOf y with
          | none => rw [z5] at e2; cases e2
          | some key =>
          rw [z5] at e2
          try dsimp only at e2
          refine iteT ⟨ρ1, L5, M4, y, M5, r4.mono g5, p5, z3, fun v H6 L6 g6 p6 r6 => ⟨ρ1, L6, M5, y', M6, r4.mono (g5.trans g6), p6, z4, fun v' H7 L7 g7 p7 r7 => ⟨accV, key, keyOf_rd z5 r6, ((gq.trans g6).trans g7).keep _ _ hH hn, ?_, rfl, hlt, L7, M6, putD accD key y', putK accV key v', ?_⟩⟩⟩
          · split at e2
            · rename_i hl
              rw [← ra.length]
              exact hl
            · cases e2
          · have gz := (gq.trans g6).trans g7
            have hH6 := gz.keep _ _ hH hn
            have hn6 := gz.notin hH hn
            have x6 : Ext H7 (upd H7 Dp (.dK (putK accV key v'))) L7 L7 := Ext.tmp hH6 rfl
            refine ⟨Grow.tmp (g2.trans gz) hD, Rep.tmp hH6 rfl hn6 p7, hn6, upd_same, ((ra.mono gz).put r7).ext x6, ?_⟩
            split at e2
            · exact e2
            · cases e2
        | false =>
          cases z0
          try dsimp only at e2
          exact iteF ⟨rfl, hlt, L5, _, accD, accV, g2.trans gq, p5, gq.notin hH hn, gq.keep _ _ hH hn, ra.mono gq, e2⟩
      · cases e2
    · left
      have hi3 : i = ds.length := by omega
      subst hi3
      rw [List.drop_length] at e2
      unfold dcG at e2
      split at e2
      · rename_i hok
        cases e2
        obtain ⟨-, hst⟩ := hJ ds.length H2 L2 _ g2 p2 hok
        exact ⟨hst (Nat.le_refl _), q Dp accV H2 L2 (g1.trans g2) p2 (g1.none p1 hD) hn hH ra⟩
      · cases e2
  · cases e
theorem se_dctC (hc : X.calm = true) (hN : X.N.Nodup) (hi : SI X tg iter fi) (ok : BlkOk X.N X.env.scope scope own) (hv : ∀ i, i ∈ tsl → i ∈ own.map (·.2))
    (hg : ∀ (s : Shared) (H : Hp) (C : Addr) (cl : List (Str × Addr)) (fp : List Addr), SG (X.blk s H scope (compEnvC scope cl C X.env) fp) tg tsl fg) (ht : ∀ (s : Shared) (H : Hp) (C : Addr) (cl : List (Str × Addr)) (fp : List Addr), STs (X.blk s H scope (compEnvC scope cl C X.env) fp) ifs fc)
    (hk : ∀ (s : Shared) (H : Hp) (C : Addr) (cl : List (Str × Addr)) (fp : List Addr), SE (X.blk s H scope (compEnvC scope cl C X.env) fp) kx fk)
    (he : ∀ (s : Shared) (H : Hp) (C : Addr) (cl : List (Str × Addr)) (fp : List Addr), SE (X.blk s H scope (compEnvC scope cl C X.env) fp) vx fv) (hs : ∀ x, foldedSetIterable iter X.env x = pure x) :
    SE X (.DictComp kx vx [⟨tg, iter, ifs, 0⟩] scope pos) (fun ρ M => match dcF fi fg fc fk fv (own.map (·.2)) ρ M with
      | some (kvs, M2) => some (.ref M2.length, M2 ++ [.dK kvs])
      | none => none) := by
  refine (pe_dc (g := gD X.K tsl fg) (tt := tBl X.K fc) (tk := tD X.K fk) (tv := tD X.K fv) hc hN hi ok hg ht hk he hs).imp fun σ H Q h => ?_
  obtain ⟨ρ, L, M, d, M', r, p, e, q⟩ := h
  try dsimp only at e
  refine dc_in (K := X.K) (own.map (·.2)) hv σ H _ ?_
  split at e
  · rename_i ds M1 e1
    cases e
    refine ⟨ρ, L, M, ds, M1, r, p, e1, fun a ks H1 L1 g1 p1 h0 hn h1 r1 => ?_⟩
    refine q _ H1 (L1 ++ [.w a]) (g1.take h0) (p1.take (o := .dK ds) hn ⟨ks, h1, r1⟩) ⟨.w a, ?_, rfl⟩
    rw [← p1.len, List.getElem?_append_right (Nat.le_refl _)]
    simp
  · cases e
/-- name = {..}, the name a plain local -/
theorem ps_setDc' {i : Nat} {y : Str} {py spos : Pos} {wi : TI} {g : TG} {tt : TT} {tk tv : TE} (hc : X.calm = true) (hN : X.N.Nodup) (hy : X.N[i]? = some y) (hyl : X.env.scope.names.lookup y = some .local)
    (hsw : swapsWith (.DictComp kx vx [⟨tg, iter, ifs, 0⟩] scope pos) (some (.Name y py)) spos.line X.env = pure true) (hi : PI X tg iter wi) (ok : BlkOk X.N X.env.scope scope own)
    (hg : ∀ (s : Shared) (H : Hp) (C : Addr) (cl : List (Str × Addr)) (fp : List Addr), PG (X.blk s H scope (compEnvC scope cl C X.env) fp) tg g) (ht : ∀ (s : Shared) (H : Hp) (C : Addr) (cl : List (Str × Addr)) (fp : List Addr), PTs (X.blk s H scope (compEnvC scope cl C X.env) fp) ifs tt)
    (hk : ∀ (s : Shared) (H : Hp) (C : Addr) (cl : List (Str × Addr)) (fp : List Addr), PE (X.blk s H scope (compEnvC scope cl C X.env) fp) kx tk)
    (he : ∀ (s : Shared) (H : Hp) (C : Addr) (cl : List (Str × Addr)) (fp : List Addr), PE (X.blk s H scope (compEnvC scope cl C X.env) fp) vx tv) (hs : ∀ x, foldedSetIterable iter X.env x = pure x) :
    L2.PS X (.Assign [.Name y py] (.DictComp kx vx [⟨tg, iter, ifs, 0⟩] scope pos) spos) (tAsg (tDc wi g tt tk tv (own.map (·.2))) (gName i)) := by
  refine ⟨fun pins s σ H D I h => ?_⟩
  rw [exec_Assign_Name_used _ _ _ _ hsw]
  refine wpAny_bind (wpAny_standAt (wpAny_bind ?_))
  show wpAny _ X.A (do let _ ← comprehension (.DictComp kx vx [⟨tg, iter, ifs, 0⟩] scope pos) scope X.env (firstIterPos [⟨tg, iter, ifs, 0⟩] pos) newDict false (eval iter X.env) (some (assign (.Name y py) X.env))) _ _ s
  have h : tDc wi g tt tk tv (own.map (·.2)) σ H (fun x H1 => gName i x σ H1 D.nx) := h
  refine wpAny_bind (thn (dc_core (Qf := fun _ s' => L2.SP X pins D .next s') hc hN I hi ok hg ht hk he hs h fun L C s' m H' I' q hn f => ?_) fun _ s' hq => wpAny_pure (wpAny_pure hq))
  show wpAny _ _ (assign (.Name y py) X.env (.ref L)) _ _ _
  refine wpAny_assign_Name (store_ok2 (v := V.ref L) I' hN hy (.inl hyl) rfl (fun s2 I2 ⟨a, sb, ha⟩ => ?_) (.inr hyl))
  obtain ⟨f0, f1, f2, f3, f4, f5⟩ := f
  have haC : C ≠ a := by
    rcases ha with z | z
    · rw [z]; exact f1
    · exact fun e => f4 y a z e.symm
  refine ⟨m, hn.sameBut sb haC, fun h3 sb3 => ?_⟩
  exact ⟨_, H', I2.turned (t' := s2.toks) (fun b o hb e => (sb3.2 b hb).trans e) f0 f1 f3 f4 f5, q⟩
theorem ss_setDc {i : Nat} {y : Str} {py spos : Pos} (hc : X.calm = true) (hN : X.N.Nodup) (hy : X.N[i]? = some y) (hyl : X.env.scope.names.lookup y = some .local)
    (hsw : swapsWith (.DictComp kx vx [⟨tg, iter, ifs, 0⟩] scope pos) (some (.Name y py)) spos.line X.env = pure true) (hi : SI X tg iter fi) (ok : BlkOk X.N X.env.scope scope own) (hv : ∀ i, i ∈ tsl → i ∈ own.map (·.2))
    (hg : ∀ (s : Shared) (H : Hp) (C : Addr) (cl : List (Str × Addr)) (fp : List Addr), SG (X.blk s H scope (compEnvC scope cl C X.env) fp) tg tsl fg) (ht : ∀ (s : Shared) (H : Hp) (C : Addr) (cl : List (Str × Addr)) (fp : List Addr), STs (X.blk s H scope (compEnvC scope cl C X.env) fp) ifs fc)
    (hk : ∀ (s : Shared) (H : Hp) (C : Addr) (cl : List (Str × Addr)) (fp : List Addr), SE (X.blk s H scope (compEnvC scope cl C X.env) fp) kx fk)
    (he : ∀ (s : Shared) (H : Hp) (C : Addr) (cl : List (Str × Addr)) (fp : List Addr), SE (X.blk s H scope (compEnvC scope cl C X.env) fp) vx fv) (hs : ∀ x, foldedSetIterable iter X.env x = pure x) :
    SS X (.Assign [.Name y py] (.DictComp kx vx [⟨tg, iter, ifs, 0⟩] scope pos) spos) (fun ρ M => match dcF fi fg fc fk fv (own.map (·.2)) ρ M with
      | some (kvs, M1) => if i < ρ.length then some (.nx, ρ.set i (some (.ref M1.length)), M1 ++ [.dK kvs]) else none
      | none => none) := by
  refine (ps_setDc' (g := gD X.K tsl fg) (tt := tBl X.K fc) (tk := tD X.K fk) (tv := tD X.K fv) hc hN hy hyl hsw hi ok hg ht hk he hs).imp fun Dn σ H h => ?_
  obtain ⟨ρ, L, M, o, ρ', M', r, p, e, q⟩ := h
  try dsimp only at e
  refine dc_in (K := X.K) (own.map (·.2)) hv σ H _ ?_
  split at e
  · rename_i ds M1 e1
    split at e
    · cases e
      refine ⟨ρ, L, M, ds, M1, r, p, e1, fun a xs H1 L1 g1 p1 h0 hn h1 r1 => ?_⟩
      have pt : Rep X.K H1 (L1 ++ [.w a]) (M1 ++ [.dK ds]) := p1.take hn ⟨xs, h1, r1⟩
      refine q _ H1 (L1 ++ [.w a]) (g1.take h0) ((r.mono g1).pre.set ⟨.w a, ?_, rfl⟩) pt
      rw [← p1.len, List.getElem?_append_right (Nat.le_refl _)]
      simp
    · cases e
  · cases e
end
end PS

set_option Elab.async false
set_option linter.all false
set_option maxRecDepth 100000
set_option maxHeartbeats 4000000
/-! PS11s: sorted. -/
namespace PS
open PySem PySem.Spec PyProof.Rows L2

/-! ### plain: insertion sort by a weak order -/
section
variable {α : Type} {lt : α → α → Bool}
theorem insB_perm (a : α) : ∀ l : List α, (insB lt a l).Perm (a :: l)
  | [] => List.Perm.refl _
  | b :: l => by
    unfold insB
    split
    · exact ((insB_perm a l).cons b).trans (List.Perm.swap a b l)
    · exact List.Perm.refl _
theorem sortB_perm : ∀ l : List α, (sortB lt l).Perm l
  | [] => List.Perm.refl _
  | a :: l => (insB_perm a _).trans ((sortB_perm l).cons a)
theorem insB_srt (O : SrtO.Swo lt) (a : α) : ∀ l : List α, l.Pairwise (fun x y => lt y x = false) → (insB lt a l).Pairwise (fun x y => lt y x = false)
  | [], _ => by simp [insB]
  | b :: l, h => by
    obtain ⟨h1, h2⟩ := List.pairwise_cons.mp h
    unfold insB
    split
    · rename_i z
      refine List.pairwise_cons.mpr ⟨fun y hy => ?_, insB_srt O a l h2⟩
      rcases List.mem_cons.mp ((insB_perm a l).mem_iff.mp hy) with e | hy
      · subst e
        exact O.asym _ _ z
      · exact h1 y hy
    · rename_i z
      have z : lt b a = false := by simpa using z
      refine List.pairwise_cons.mpr ⟨fun y hy => ?_, h⟩
      rcases List.mem_cons.mp hy with e | hy
      · subst e
        exact z
      · exact O.tr a b y z (h1 y hy)
theorem sortB_srt (O : SrtO.Swo lt) : ∀ l : List α, (sortB lt l).Pairwise (fun x y => lt y x = false)
  | [] => List.Pairwise.nil
  | a :: l => insB_srt O a _ (sortB_srt O l)
theorem srt_uniq (O : SrtO.Swo lt) : ∀ {l m : List α}, l.Perm m → l.Pairwise (fun x y => lt y x = false) → m.Pairwise (fun x y => lt y x = false) → (∀ a ∈ l, ∀ b ∈ l, lt a b = false → lt b a = false → a = b) → l = m
  | [], m, p, _, _, _ => (List.Perm.eq_nil p.symm).symm
  | x :: l, [], p, _, _, _ => absurd p.length_eq (by simp)
  | x :: l, y :: m, p, hl, hm, anti => by
    obtain ⟨a1, a2⟩ := List.pairwise_cons.mp hl
    obtain ⟨b1, b2⟩ := List.pairwise_cons.mp hm
    have hy : y ∈ x :: l := p.mem_iff.mpr List.mem_cons_self
    have hx : x ∈ y :: m := p.mem_iff.mp List.mem_cons_self
    have e : x = y := by
      refine anti x List.mem_cons_self y hy ?_ ?_
      · rcases List.mem_cons.mp hx with e | hx
        · rw [e]; exact O.refl y
        · exact b1 x hx
      · rcases List.mem_cons.mp hy with e | hy
        · rw [e]; exact O.refl x
        · exact a1 y hy
    subst e
    rw [srt_uniq O p.cons_inv a2 b2 fun a ha b hb => anti a (List.mem_cons_of_mem _ ha) b (List.mem_cons_of_mem _ hb)]
end
theorem itLt_eq : ∀ a b, itLt a b = itemLt a b
  | .inl _, .inl _ => rfl
  | .inl _, .inr _ => rfl
  | .inr _, .inl _ => rfl
  | .inr _, .inr _ => rfl
theorem ksLt_eq : ∀ a b, ksLt a b = lexLt itemOrd a b
  | [], [] => rfl
  | [], _ :: _ => rfl
  | _ :: _, [] => rfl
  | x :: r, y :: t => by
    rw [ksLt, lex_cons, ksLt_eq r t, itLt_eq, itLt_eq]
theorem ksLt_swo : SrtO.Swo ksLt := by
  refine ⟨fun x y h => ?_, fun x y z h1 h2 => ?_⟩
  · rw [ksLt_eq] at h ⊢
    exact KeyOrd.klt_asymm (O := listOrd itemOrd) h
  · rw [ksLt_eq] at h1 h2 ⊢
    exact KeyOrd.kle_trans (O := listOrd itemOrd) h1 h2
theorem ksLt_total {x y : List (Int ⊕ List Nat)} (h1 : ksLt x y = false) (h2 : ksLt y x = false) : x = y := by
  rw [ksLt_eq] at h1 h2
  exact (listOrd itemOrd).total x y h1 h2
theorem dLt_swo : SrtO.Swo dLt := ⟨fun x y h => ksLt_swo.asym _ _ h, fun x y z h1 h2 => ksLt_swo.tr _ _ _ h1 h2⟩
theorem str_ext {a b : Str} (h : a.cps.toList = b.cps.toList) : a = b := by
  cases a
  cases b
  have := Array.toList_inj.mp h
  cases this
  rfl
theorem keyI_inj {a b : D} {k : Int ⊕ List Nat} (h1 : keyI a = some k) (h2 : keyI b = some k) : a = b := by
  cases a <;> simp [keyI] at h1 <;> cases b <;> simp [keyI] at h2 <;> subst h1
  · cases h2; rfl
  · cases h2
  · cases h2
  · rw [str_ext (Sum.inr.inj h2)]
theorem keyIs_inj : ∀ {a b : List D} {k : List (Int ⊕ List Nat)}, keyIs a = some k → keyIs b = some k → a = b
  | [], [], _, _, _ => rfl
  | [], b :: bs, k, h1, h2 => by
    simp [keyIs] at h1
    subst h1
    unfold keyIs at h2
    split at h2
    · cases h2
    · cases h2
  | a :: as, [], k, h1, h2 => by
    simp [keyIs] at h2
    subst h2
    unfold keyIs at h1
    split at h1
    · cases h1
    · cases h1
  | a :: as, b :: bs, k, h1, h2 => by
    unfold keyIs at h1 h2
    split at h1
    · rename_i k1 ks1 e1 e2
      split at h2
      · rename_i k2 ks2 e3 e4
        cases h1
        cases h2
        rw [keyI_inj e1 e3, keyIs_inj e2 e4]
      · cases h2
    · cases h1
theorem srT_key {sh : List Bool} {d : D} (h : srT sh d = true) : ∃ es k, d = .tup es ∧ keyIs es = some k ∧ k.map Sum.isRight = sh := by
  unfold srT at h
  split at h
  · split at h
    · rename_i es _ k e
      exact ⟨es, k, rfl, e, by simpa using h⟩
    · cases h
  · cases h
theorem dLt_anti {ds : List D} (h : sortable ds = true) : ∀ a ∈ ds, ∀ b ∈ ds, dLt a b = false → dLt b a = false → a = b := by
  intro a ha b hb h1 h2
  have e := ksLt_total h1 h2
  unfold sortable at h
  simp only [Bool.or_eq_true, Bool.and_eq_true, List.all_eq_true] at h
  rcases h with (h | h) | h
  · have ga := h a ha
    have gb := h b hb
    cases a <;> simp [srI] at ga
    cases b <;> simp [srI] at gb
    simp [keyD, keyI] at e
    rw [e]
  · have ga := h.1 a ha
    have gb := h.1 b hb
    cases a <;> simp [srS] at ga
    cases b <;> simp [srS] at gb
    simp only [keyD, keyI, Option.map_some, Option.getD_some, List.cons.injEq, Sum.inr.injEq, and_true] at e
    rw [str_ext e]
  · obtain ⟨es, k, rfl, e1, _⟩ := srT_key (h.1 a ha)
    obtain ⟨es', k', rfl, e2, _⟩ := srT_key (h.1 b hb)
    simp only [keyD, e1, e2, Option.getD_some] at e
    subst e
    rw [keyIs_inj e1 e2]
theorem sort_uniq {ds es : List D} (h : sortable ds = true) (p : es.Perm ds) (s : es.Pairwise (fun x y => dLt y x = false)) : es = sortB dLt ds :=
  srt_uniq dLt_swo (p.trans (sortB_perm ds).symm) s (sortB_srt dLt_swo ds) fun a ha b hb => dLt_anti h a (p.mem_iff.mp ha) b (p.mem_iff.mp hb)

/-! ### the rule -/
section
variable {K : PySem.W.Frag} {H : Hp} {L : List Place}
theorem perm_rd : ∀ {ys xs : List V}, ys.Perm xs → ∀ {ds : List D}, RDs K H L ds xs → ∃ es, es.Perm ds ∧ RDs K H L es ys := by
  intro ys xs p
  induction p with
  | nil => intro ds h; exact ⟨ds, List.Perm.refl _, h⟩
  | cons x p ih =>
    intro ds h
    cases ds with
    | nil => exact absurd h (by intro z; cases z)
    | cons d ds =>
      obtain ⟨v, vs, e, r1, r2⟩ := h
      cases e
      obtain ⟨es, p1, r3⟩ := ih r2
      exact ⟨d :: es, p1.cons d, _, _, rfl, r1, r3⟩
  | swap x y l =>
    intro ds h
    cases ds with
    | nil => exact absurd h (by intro z; cases z)
    | cons d ds =>
      obtain ⟨v, vs, e, r1, r2⟩ := h
      cases e
      cases ds with
      | nil => exact absurd r2 (by intro z; cases z)
      | cons d2 ds =>
        obtain ⟨v, vs, e, r3, r4⟩ := r2
        cases e
        exact ⟨d2 :: d :: ds, List.Perm.swap _ _ _, _, _, rfl, r3, _, _, rfl, r1, r4⟩
  | trans p q ih1 ih2 =>
    intro ds h
    obtain ⟨es, p1, r1⟩ := ih2 h
    obtain ⟨fs, p2, r2⟩ := ih1 r1
    exact ⟨fs, p2.trans p1, r2⟩
theorem rds_ints : ∀ {ds : List D} {xs : List V}, (∀ d ∈ ds, srI d = true) → RDs K H L ds xs → ∃ ns : List Int, ds = ns.map D.int ∧ xs = ns.map V.int
  | [], _, _, h => ⟨[], rfl, h⟩
  | d :: ds, xs, g, h => by
    obtain ⟨v, vs, rfl, r1, r2⟩ := h
    obtain ⟨ns, rfl, rfl⟩ := rds_ints (fun d m => g d (List.mem_cons_of_mem _ m)) r2
    have gd := g d List.mem_cons_self
    cases d <;> simp [srI] at gd
    exact ⟨_ :: ns, rfl, by rw [show v = _ from r1]; rfl⟩
theorem rds_of_ints : ∀ ns : List Int, RDs K H L (ns.map D.int) (ns.map V.int)
  | [] => rfl
  | n :: ns => ⟨_, _, rfl, rfl, rds_of_ints ns⟩
theorem rds_strs : ∀ {ds : List D} {xs : List V}, (∀ d ∈ ds, srS d = true) → RDs K H L ds xs → ∃ ns : List Str, ds = ns.map D.str ∧ xs = ns.map V.str ∧ ∀ s ∈ ns, PyData.strOk s = true
  | [], _, _, h => ⟨[], rfl, h, fun s m => by simp at m⟩
  | d :: ds, xs, g, h => by
    obtain ⟨v, vs, rfl, r1, r2⟩ := h
    obtain ⟨ns, rfl, rfl, h3⟩ := rds_strs (fun d m => g d (List.mem_cons_of_mem _ m)) r2
    have gd := g d List.mem_cons_self
    cases d <;> simp [srS] at gd
    refine ⟨_ :: ns, rfl, by rw [r1.1]; rfl, fun s m => ?_⟩
    rcases List.mem_cons.mp m with e | m
    · subst e
      exact r1.2
    · exact h3 s m
theorem rds_of_strs : ∀ {ns : List Str}, (∀ s ∈ ns, PyData.strOk s = true) → RDs K H L (ns.map D.str) (ns.map V.str)
  | [], _ => rfl
  | n :: ns, h => ⟨_, _, rfl, ⟨rfl, h n List.mem_cons_self⟩, rds_of_strs fun s m => h s (List.mem_cons_of_mem _ m)⟩
end
theorem rising_pw : ∀ (p : Str) (l : List Str), risingS p l = true → (p :: l).Pairwise (fun x y => ksLt [.inr y.cps.toList] [.inr x.cps.toList] = false)
  | p, [], _ => by simp
  | p, x :: r, h => by
    have h : (!ltCps x.cps.toList p.cps.toList && risingS x r) = true := h
    simp only [Bool.and_eq_true, Bool.not_eq_true'] at h
    have ih := rising_pw x r h.2
    have h1 : ksLt [.inr x.cps.toList] [.inr p.cps.toList] = false := by
      have := h.1
      rw [ltCps_eq] at this
      simp only [ksLt, itLt, this, Bool.and_false, Bool.or_false]
    refine List.pairwise_cons.mpr ⟨fun y hy => ?_, ih⟩
    rcases List.mem_cons.mp hy with e | hy
    · subst e
      exact h1
    · exact ksLt_swo.tr _ _ _ h1 ((List.pairwise_cons.mp ih).1 y hy)
theorem sortedS_pw : ∀ {l : List Str}, sortedS l = true → l.Pairwise (fun x y => ksLt [.inr y.cps.toList] [.inr x.cps.toList] = false)
  | [], _ => List.Pairwise.nil
  | x :: r, h => rising_pw x r h

/-! ### tuples in the heap -/
def shF (sh : List Bool) : Nat → Bool := fun i => sh.getD i false
theorem items_key {K : PySem.W.Frag} {H : Hp} {L : List Place} {f : Nat → Bool} : ∀ {es : List D} {xs : List V} {us : List Value} {k : List (Int ⊕ List Nat)} (i : Nat), RDs K H L es xs → Vals xs us → keyIs es = some k → (∀ j b, (k.map Sum.isRight)[j]? = some b → f (i + j) = b) → tupItems f i us = some k
  | [], xs, us, k, i, h, r, e, hf => by
    have hx : xs = [] := h
    subst hx
    cases r
    cases e
    rfl
  | d :: es, xs, us, k, i, h, r, e, hf => by
    obtain ⟨v, vs, rfl, r1, r2⟩ := h
    cases r with
    | cons q t =>
    unfold keyIs at e
    split at e
    · rename_i k1 ks e1 e2
      cases e
      have ih := items_key (i + 1) r2 t e2 fun j b hb => by
        have := hf (j + 1) b (by simpa using hb)
        rw [show i + 1 + j = i + (j + 1) by omega]
        exact this
      have h0 : f i = k1.isRight := by
        have := hf 0 k1.isRight (by simp)
        simpa using this
      cases d with
      | int n =>
        cases e1
        have r1 : v = V.int n := r1
        subst r1
        obtain ⟨tk, rfl⟩ := q
        have h0 : f i = false := h0
        unfold tupItems
        rw [if_neg (by rw [h0]; decide), ih]
        rfl
      | str s =>
        cases e1
        have r1 : v = V.str s := r1.1
        subst r1
        obtain ⟨tk, rfl⟩ := q
        have h0 : f i = true := h0
        unfold tupItems
        rw [if_pos h0, ih]
        rfl
      | non => cases e1
      | bl b => cases e1
      | tup ds => cases e1
      | ref n => cases e1
    · cases e
section
variable {X : Cx} {pins : List (Addr × Obj)} {σ : L2.St} {H : Hp} {s : Shared} {L : List Place}
theorem tup_fact (I : Inv X pins σ H s) {sh : List Bool} (hne : sh ≠ []) {d : D} {v : V} {u : Value} (hs : srT sh d = true) (r : RD X.K H L d v) (q : RelV v u) : ∃ k, keyD d = some k ∧ G.tupKeyC s.heap (shF sh) u = some k ∧ (∃ f, TupOf s.heap (shF sh) u f) ∧ ∃ a, u = .ref a := by
  obtain ⟨es, k, rfl, e1, e2⟩ := srT_key hs
  obtain ⟨a, xs, rfl, h1, h2⟩ := r
  have q : u = .ref a := q
  subst q
  obtain ⟨its, rv, ⟨o, ho, hc, n, hd⟩, hz⟩ := I.tuple h1
  have hk : tupItems (shF sh) 0 its = some k := items_key 0 h2 rv e1 fun j b hb => by
    rw [e2] at hb
    unfold shF
    rw [Nat.zero_add, List.getD_eq_getElem?_getD, hb]
    rfl
  refine ⟨k, e1, ?_, ?_, a, rfl⟩
  · unfold G.tupKeyC
    have hi : G.isTupObj s.heap (.ref a) = true := by
      unfold G.isTupObj
      simp only [ho, hc]
      rfl
    rw [if_pos hi]
    unfold tupKey
    simp only [ho, hd]
    exact hk
  · cases es with
    | nil =>
      cases e1
      exact absurd e2.symm hne
    | cons d es =>
      obtain ⟨w, ws, rfl, r1, r2⟩ := h2
      cases rv with
      | cons q t =>
        rename_i u us
        refine ⟨u, a, o, _, n, rfl, ho, hc, hd, by simp, ?_⟩
        unfold keyIs at e1
        split at e1
        · rename_i k1 ks e3 e4
          cases e1
          have h0 : shF sh 0 = k1.isRight := by
            unfold shF
            rw [← e2]
            rfl
          cases d with
          | int m =>
            cases e3
            have r1 : w = V.int m := r1
            subst r1
            obtain ⟨tk, rfl⟩ := q
            exact ⟨fun _ => ⟨m, tk, rfl⟩, fun z => by rw [h0] at z; cases z⟩
          | str x =>
            cases e3
            have r1 : w = V.str x := r1.1
            subst r1
            obtain ⟨tk, rfl⟩ := q
            exact ⟨fun z => (by rw [h0] at z; cases z), fun _ => ⟨x, tk, rfl⟩⟩
          | non => cases e3
          | bl b => cases e3
          | tup ds => cases e3
          | ref n => cases e3
        · cases e1
theorem tups_of {h : Heap} {f : Nat → Bool} : ∀ {us : List Value}, (∀ u ∈ us, ∃ x, TupOf h f u x) → ∃ fs, TupsOf h f us fs
  | [], _ => ⟨[], .nil⟩
  | u :: us, h => by
    obtain ⟨x, hx⟩ := h u List.mem_cons_self
    obtain ⟨fs, hf⟩ := tups_of fun u m => h u (List.mem_cons_of_mem _ m)
    exact ⟨x :: fs, .cons hx hf⟩
def ltK (h : Heap) (f : Nat → Bool) (u v : Value) : Bool := ksLt ((G.tupKeyC h f u).getD []) ((G.tupKeyC h f v).getD [])
theorem ltK_swo (h : Heap) (f : Nat → Bool) : SrtO.Swo (ltK h f) := ⟨fun x y h => ksLt_swo.asym _ _ h, fun x y z h1 h2 => ksLt_swo.tr _ _ _ h1 h2⟩
def rSrt (K : PySem.W.Frag) : List V → Hp → VK → Prop := fun vs H Q => ∃ (a : Addr) (xs : List V) (L : List Place) (ds : List D), vs = [V.ref a] ∧ SqL K H a xs ∧ RDs K H L ds xs ∧ sortable ds = true ∧
  ∀ ys p, RDs K H L (sortB dLt ds) ys → H p = none → Q (.ref p) (upd H p (.lst ys))
theorem cr_srt : CallR X (.builtin "sorted") (rSrt X.K) := by
  intro pins s σ H vs us Q I r h
  obtain ⟨a, xs, L, ds, rfl, hs, rd, hso, q⟩ := h
  have hso' := hso
  unfold sortable at hso'
  simp only [Bool.or_eq_true, Bool.and_eq_true, List.all_eq_true, decide_eq_true_eq, Bool.not_eq_true'] at hso'
  rcases hso' with (h1 | h1) | h1
  · obtain ⟨ns, rfl, rfl⟩ := rds_ints h1 rd
    refine cr_sortedI pins s σ H _ us Q I r ⟨a, ns, rfl, hs, fun ns' p hp hw hn => ?_⟩
    refine q _ p ?_ hn
    rw [← sort_uniq hso (hp.map D.int) (List.pairwise_map.mpr (hw.imp fun {x y} hxy => by
      show ksLt [.inl y] [.inl x] = false
      simp [ksLt, itLt]
      omega))]
    exact rds_of_ints ns'
  · obtain ⟨ns, rfl, rfl, hok⟩ := rds_strs h1.1 rd
    refine cr_sortedS pins s σ H _ us Q I r ⟨a, ns, rfl, hs, by simpa using h1.2, fun ns' p hp hw hn => ?_⟩
    refine q _ p ?_ hn
    rw [← sort_uniq hso (hp.map D.str) (List.pairwise_map.mpr (sortedS_pw hw))]
    exact rds_of_strs fun s m => hok s (hp.mem_iff.mp m)
  · obtain ⟨h1, h2⟩ := h1
    have hne : shp ds ≠ [] := by
      intro z
      rw [z] at h2
      cases h2
    obtain ⟨its, rv, hl, hz⟩ := I.list hs
    obtain ⟨u, rfl, ru⟩ := vals1 r
    obtain rfl : u = Value.ref a := ru
    have fact : ∀ u ∈ its, ∃ d v, d ∈ ds ∧ RD X.K H L d v ∧ RelV v u := fun u hu => by
      obtain ⟨i, hi, e⟩ := List.getElem_of_mem hu
      have hx : i < xs.length := by rw [rv.length]; exact hi
      have hd : i < ds.length := by rw [rd.length]; exact hx
      obtain ⟨v, e1, r1⟩ := RDs.get rd (List.getElem?_eq_getElem hd)
      obtain ⟨u', e2, r2⟩ := Vals.get rv e1
      rw [List.getElem?_eq_getElem hi, e] at e2
      cases e2
      exact ⟨_, v, List.getElem_mem hd, r1, r2⟩
    have fact2 : ∀ u ∈ its, (∃ k, G.tupKeyC s.heap (shF (shp ds)) u = some k) ∧ (∃ f, TupOf s.heap (shF (shp ds)) u f) ∧ ∃ a, u = .ref a := fun u hu => by
      obtain ⟨d, v, m, r1, r2⟩ := fact u hu
      obtain ⟨k, -, e2, e3, e4⟩ := tup_fact I hne (h1 d m) r1 r2
      exact ⟨⟨k, e2⟩, e3, e4⟩
    refine SrtO.sorted_ord (ltK_swo s.heap (shF (shp ds))) hl.isList (by rw [← rv.length]; exact hz) (fun hlen h₁ a₁ ha kk => ?_) fun out o1 o2 => ?_
    · intro h' keep
      have kT : G.KeepsTups s.heap h' := fun b o e c => by
        obtain ⟨-, e2⟩ := kk b o e
        refine keep b o (fun z => ?_) e2
        subst z
        have e3 : h₁.get? b = some o := e2
        rw [ha] at e3
        cases e3
        exact absurd (Value.type.inj c) (by decide)
      obtain ⟨fs, hf⟩ := tups_of fun u hu => (fact2 u hu).2.1
      refine ⟨tuples' true, fun Q E hq => ?_, fun p q hp hq => ?_⟩
      · exact tup_kind (s := { s with heap := h' }) (by rw [G.TupsOf.length hf]; omega) (G.TupsOf.keep kT hf) hq
      · obtain ⟨k1, e1⟩ := (fact2 p.1 hp).1
        obtain ⟨k2, e2⟩ := (fact2 q.1 hq).1
        refine G.tupC_ltAt (s := { s with heap := h' }) true kT _ _ _ _ k1 k2 e1 e2 ⟨rfl, ?_⟩
        show lexLt itemOrd k1 k2 = ltK s.heap (shF (shp ds)) p.1 q.1
        unfold ltK
        rw [e1, e2, ← ksLt_eq]
        rfl
    · have href : ∀ u ∈ out, ∃ a, u = Value.ref a := fun u hu => (fact2 u (o2.perm.mem_iff.mp hu)).2.2
      have e1 : xs = its.map backV := (refs_back rv fun x m => by
        obtain ⟨i, hi, e⟩ := List.getElem_of_mem m
        have hu : i < its.length := by rw [← rv.length]; exact hi
        obtain ⟨u', e2, r2⟩ := Vals.get rv (List.getElem?_eq_getElem hi)
        rw [List.getElem?_eq_getElem hu] at e2
        obtain ⟨b, hb⟩ := (fact2 _ (List.getElem_mem hu)).2.2
        cases e2
        rw [hb, e] at r2
        cases x <;> first | (cases r2; done) | (obtain ⟨_, z⟩ := r2; cases z; done) | exact ⟨_, rfl⟩).1
      have hv : Vals (out.map backV) out := vals_back href
      obtain ⟨es, p1, r1⟩ := perm_rd (ys := out.map backV) (xs := xs) (by rw [e1]; exact o2.perm.map backV) rd
      have hes : es = sortB dLt ds := by
        refine sort_uniq hso p1 (List.pairwise_iff_getElem.mpr fun i j hi hj hij => ?_)
        have li : i < out.length := by have := r1.length; simp at this; omega
        have lj : j < out.length := by have := r1.length; simp at this; omega
        have key : ∀ m (hm : m < es.length) (lm : m < out.length), ∃ k, keyD es[m] = some k ∧ G.tupKeyC s.heap (shF (shp ds)) out[m] = some k := fun m hm lm => by
          obtain ⟨v, e2, r2⟩ := RDs.get r1 (List.getElem?_eq_getElem hm)
          obtain ⟨u', e3, r3⟩ := Vals.get hv e2
          rw [List.getElem?_eq_getElem lm] at e3
          cases e3
          obtain ⟨k, z1, z2, -, -⟩ := tup_fact I hne (h1 _ (p1.mem_iff.mp (List.getElem_mem hm))) r2 r3
          exact ⟨k, z1, z2⟩
        obtain ⟨k1, z1, z2⟩ := key i hi li
        obtain ⟨k2, z3, z4⟩ := key j hj lj
        have := List.pairwise_iff_getElem.mp o1 i j li lj hij
        unfold ltK at this
        rw [z2, z4] at this
        unfold dLt
        rw [z1, z3]
        exact this
      rw [hes] at r1
      obtain ⟨n, hn⟩ := sortedAll_at s.heap its out.toArray
      refine ⟨.ref (s.heap.objs.size + 1), upd H (s.heap.objs.size + 1) (.lst (out.map backV)), I.laid (t' := s.toks) (fun b o e => sortedAll_old e) (Nat.le_succ _) ⟨?_, out, n, hv, hn⟩, rfl, q _ _ r1 (I.hok.fresh (Nat.le_succ _))⟩
      rw [List.length_map, o2.perm.length_eq, ← rv.length]
      exact hz
end

/-! ### as expressions -/
section
variable {X : Cx} {e a : Expr} {pos : Pos} {f : Env → Store → R D} {fq : Env → Store → R QV}
theorem sl_sorted {p : Pos} (hg : Gl X "sorted") (hm : X.mg "sorted" = none) (ha : SQ X a fq) (hst : starEach [a] X.env = (false, eval a X.env) :: starEach [] X.env) : SL X (.Call (.Name "sorted" p) [a] [] pos) (fun ρ M => match fq ρ M with
    | some (x, M1) => (itemsL M1 x).bind fun ds => if plainDs ds then (sortD ds).map fun es => (es, M1) else none
    | none => none) := by
  refine (pe_callB cr_srt hg hm (by decide +kernel) (sa_q ha hst) (by decide) (by decide) hst (by rfl)).imp fun σ H Q h => ?_
  obtain ⟨ρ, L, M, ds, M', r, p, e, q⟩ := h
  try dsimp only at e
  split at e
  · rename_i x M1 e1
    cases z : itemsL M1 x with
    | none => rw [z] at e; cases e
    | some ds0 =>
      rw [z] at e
      have e : (if plainDs ds0 = true then (sortD ds0).map fun es => (es, M1) else none) = some (ds, M') := e
      split at e
      · unfold sortD at e
        split at e
        · rename_i hso
          cases e
          refine ⟨ρ, L, M, _, _, r, p, e1, fun v H1 L1 g1 p1 r1 => ?_⟩
          obtain ⟨a1, xs, rfl, h1, h2⟩ := r1.itemsL p1 z
          exact ⟨a1, xs, L1, ds0, rfl, h1, h2, hso, fun ys l hy hl => FinL.new q g1 p1 hy hl⟩
        · cases e
      · cases e
  · cases e
theorem keys_ints {K : PySem.W.Frag} {H : Hp} {L : List Place} : ∀ {kvs : List (Key × D)} {ks : List (Key × V)}, RKs K H L kvs ks → (∀ kv ∈ kvs, srI (dK kv.1) = true) → ∃ ns : List Int, (kvs.map fun kv => dK kv.1) = ns.map D.int ∧ ks.map (·.1) = ns.map Sum.inl
  | _, _, .nil, _ => ⟨[], rfl, rfl⟩
  | p :: kvs, q :: ks, .cons r t, h => by
    obtain ⟨ns, e1, e2⟩ := keys_ints t fun kv m => h kv (List.mem_cons_of_mem _ m)
    have h0 := h p List.mem_cons_self
    have r1 := r.1
    cases hk : p.1 with
    | inl i =>
      refine ⟨i :: ns, ?_, ?_⟩
      · rw [List.map_cons, e1, hk]; rfl
      · rw [List.map_cons, e2, ← r1, hk]; rfl
    | inr s => rw [hk] at h0; cases h0
theorem keys_strs {K : PySem.W.Frag} {H : Hp} {L : List Place} : ∀ {kvs : List (Key × D)} {ks : List (Key × V)}, RKs K H L kvs ks → (∀ kv ∈ kvs, srS (dK kv.1) = true) → ∃ ns : List Str, (kvs.map fun kv => dK kv.1) = ns.map D.str ∧ ks.map (·.1) = ns.map Sum.inr
  | _, _, .nil, _ => ⟨[], rfl, rfl⟩
  | p :: kvs, q :: ks, .cons r t, h => by
    obtain ⟨ns, e1, e2⟩ := keys_strs t fun kv m => h kv (List.mem_cons_of_mem _ m)
    have h0 := h p List.mem_cons_self
    have r1 := r.1
    cases hk : p.1 with
    | inr i =>
      refine ⟨i :: ns, ?_, ?_⟩
      · rw [List.map_cons, e1, hk]; rfl
      · rw [List.map_cons, e2, ← r1, hk]; rfl
    | inl s => rw [hk] at h0; cases h0
theorem keys_notT {sh : List Bool} {k : Key} (h : srT sh (dK k) = true) : False := by
  cases k <;> cases h
theorem sl_sortedD {p : Pos} (hc : X.calm = true) (hg : Gl X "sorted") (hm : X.mg "sorted" = none) (ha : SE X a f) (hst : starEach [a] X.env = (false, eval a X.env) :: starEach [] X.env) : SL X (.Call (.Name "sorted" p) [a] [] pos) (fun ρ M => match f ρ M with
    | some (.ref n, M1) => match M1[n]? with
      | some (.dK kvs) => if kvs.length < 64 && kvs.all (fun kv => okK kv.1) then (sortD (kvs.map fun kv => dK kv.1)).map fun es => (es, M1) else none
      | _ => none
    | _ => none) := by
  have hA : PA X [a] (tCons (tD X.K f) tNil) := pa_cons ha pa_nil hst
  have key : CallR X (.builtin "sorted") (fun vs H Q => ∃ (L : List Place) (M1 : Store) (n : Nat) (v : V) (kvs : List (Key × D)), vs = [v] ∧ Rep X.K H L M1 ∧ RD X.K H L (.ref n) v ∧ M1[n]? = some (.dK kvs) ∧ kvs.length < 64 ∧ (∀ kv ∈ kvs, okK kv.1 = true) ∧ sortable (kvs.map fun kv => dK kv.1) = true ∧
      ∀ ys p, RDs X.K H L (sortB dLt (kvs.map fun kv => dK kv.1)) ys → H p = none → Q (.ref p) (upd H p (.lst ys))) := by
    intro pins s σ H vs us Q I r h
    obtain ⟨L, M1, n, v, kvs, rfl, p, rd, hn, h64, hok, hso, q⟩ := h
    obtain ⟨sl, e1, rfl⟩ := rd
    have ro := p.ob n sl _ e1 hn
    cases sl with
    | r a => exact ro.elim
    | w a =>
      obtain ⟨ks, hk, hr⟩ := ro
      have hso' := hso
      unfold sortable at hso'
      simp only [Bool.or_eq_true, Bool.and_eq_true, List.all_eq_true, decide_eq_true_eq, Bool.not_eq_true'] at hso'
      rcases hso' with (h1 | h1) | h1
      · obtain ⟨ns, e2, e3⟩ := keys_ints hr fun kv m => h1 _ (List.mem_map.mpr ⟨kv, m, rfl⟩)
        have hl : ns.length < 64 := by
          have := congrArg List.length e2
          simp at this
          omega
        refine call_sortedDI hc pins s σ H _ us Q I r ⟨a, ks, ns, rfl, .inl hk, e3, hl, fun ns' p hp hw hn => ?_⟩
        refine q _ p ?_ hn
        rw [e2] at hso ⊢
        rw [← sort_uniq hso (hp.map D.int) (List.pairwise_map.mpr (hw.imp fun {x y} hxy => by
          show ksLt [.inl y] [.inl x] = false
          simp [ksLt, itLt]
          omega))]
        exact rds_of_ints ns'
      · obtain ⟨ns, e2, e3⟩ := keys_strs hr fun kv m => h1.1 _ (List.mem_map.mpr ⟨kv, m, rfl⟩)
        have hl : ns.length < 64 := by
          have := congrArg List.length e2
          simp at this
          omega
        have hs : ∀ s ∈ ns, PyData.strOk s = true := fun s m => by
          have : D.str s ∈ kvs.map fun kv => dK kv.1 := by rw [e2]; exact List.mem_map.mpr ⟨s, m, rfl⟩
          obtain ⟨kv, m2, e⟩ := List.mem_map.mp this
          have ok := hok kv m2
          cases hk : kv.1 with
          | inl i => rw [hk] at e; cases e
          | inr x =>
            rw [hk] at e ok
            cases e
            exact ok
        refine call_sortedD hc pins s σ H _ us Q I r ⟨a, ks, ns, rfl, .inl hk, e3, hl, fun ns' p hp hw hn => ?_⟩
        refine q _ p ?_ hn
        rw [e2] at hso ⊢
        rw [← sort_uniq hso (hp.map D.str) (List.pairwise_map.mpr (sortedS_pw hw))]
        exact rds_of_strs fun s m => hs s (hp.mem_iff.mp m)
      · cases kvs with
        | nil => exact absurd h1.2 (by decide)
        | cons kv kvs => exact (keys_notT (h1.1 _ List.mem_cons_self)).elim
  refine (pe_callB key hg hm (by decide +kernel) hA (by decide) (by decide) hst (by rfl)).imp fun σ H Q h => ?_
  obtain ⟨ρ, L, M, ds, M', r, p, e, q⟩ := h
  try dsimp only at e
  split at e
  · rename_i n M1 e1
    split at e
    · rename_i kvs e2
      split at e
      · rename_i hk
        simp only [Bool.and_eq_true, decide_eq_true_eq, List.all_eq_true] at hk
        unfold sortD at e
        split at e
        · rename_i hso
          cases e
          exact ⟨ρ, L, M, _, _, r, p, e1, fun v H1 L1 g1 p1 r1 => ⟨L1, _, n, v, kvs, rfl, p1, r1, e2, hk.1, hk.2, hso, fun ys l hy hl => FinL.new q g1 p1 hy hl⟩⟩
        · cases e
      · cases e
    · cases e
  · cases e
end
end PS

set_option Elab.async false
set_option linter.all false
set_option maxRecDepth 100000
set_option maxHeartbeats 4000000
/-! PS12: what must be seen of the text, and the contexts in which it runs. -/
namespace PS
open PySem PySem.Spec PyProof.Rows L2

/-! ### shapes -/
def notStar : Expr → Bool
  | .Starred .. => false
  | _ => true
def plainTest : Expr → Bool
  | .UnaryOp .Not _ _ => false
  | .BoolOp .. => false
  | .IfExp .. => false
  | .Compare .. => false
  | _ => true
def notSlice : Expr → Bool
  | .Slice .. => false
  | _ => true
def notSet : Expr → Bool
  | .Set .. => false
  | _ => true
def notComp : Expr → Bool
  | .ListComp .. => false
  | .SetComp .. => false
  | .DictComp .. => false
  | _ => true
def notTuple : Expr → Bool
  | .Tuple .. => false
  | _ => true
def notCall : Expr → Bool
  | .Call (.Name _ _) [] [] _ => false
  | _ => true
theorem star_of {e : Expr} {es : List Expr} {env : PySem.Env} (h : notStar e = true) : starEach (e :: es) env = (false, eval e env) :: starEach es env := by
  cases e <;> first | rfl | cases h
theorem asg_of {e : Expr} {es : List Expr} {env : PySem.Env} (h : notStar e = true) : assignEach (e :: es) env = (false, assign e env) :: assignEach es env := by
  cases e <;> first | rfl | cases h
theorem test_of {e : Expr} {env : PySem.Env} (h : plainTest e = true) : ∀ whole, isTrue e env whole = (do let v ← whole; standAt e.pos; holding [v] (truthy v)) := by
  intro whole
  cases e with
  | UnaryOp op x pos => cases op <;> first | rfl | cases h
  | BoolOp => cases h
  | IfExp => cases h
  | Compare => cases h
  | _ => rfl
theorem ix_of {b : Expr} (h : notSlice b = true) : PlainIx b := by
  intro o i
  cases b <;> first | rfl | cases h
theorem fold_of {e : Expr} {env : PySem.Env} (h : notSet e = true) : ∀ x, foldedSetIterable e env x = pure x := by
  intro x
  cases e <;> first | rfl | cases h
theorem behind_of {op : CmpOp} {e : Expr} (h : notSet e = true) : behindInMarks op e = false := by
  cases e <;> first | rfl | cases h
theorem swap_of {e : Expr} {t : Option Expr} {l : Nat} {env : PySem.Env} (h : notComp e = true) : swapsWith e t l env = pure false := by
  cases e <;> first | rfl | cases h
theorem base_of {e : Expr} {n : Str} {env : PySem.Env} {w : Sem Value} (h : notCall e = true) : attributeBase e n env w = w := by
  unfold attributeBase
  split
  · cases h
  · rfl
theorem plain_of {pos : Pos} {env : PySem.Env} : ∀ {es : List Expr}, es.all notStar = true → (backTo pos (starEach es env)).any (·.1) = false
  | [], _ => rfl
  | e :: es, h => by
    simp only [List.all_cons, Bool.and_eq_true] at h
    rw [star_of h.1]
    have := plain_of (pos := pos) (env := env) h.2
    simpa [backTo] using this
theorem few_of {pos : Pos} {env : PySem.Env} {es : List Expr} (h : es.all notStar = true) (hl : es.length < 29) : ((backTo pos (starEach es env)).all (fun x => !x.1) && (backToKw pos (keywordEach [] env)).all (fun x => x.1.isSome)
      && decide (es.length + ([] : List Keyword).length + (if ([] : List Keyword).isEmpty then 0 else 1) < 30)) = true := by
  have h1 : (backTo pos (starEach es env)).all (fun x => !x.1) = true := by
    have := plain_of (pos := pos) (env := env) h
    rw [List.all_eq_not_any_not]
    simpa using this
  rw [h1]
  have h3 : (backToKw pos (keywordEach [] env)).all (fun x => x.1.isSome) = true := rfl
  rw [h3]
  simp only [Bool.true_and, decide_eq_true_eq, List.length_nil, List.isEmpty_nil, if_true]
  omega

/-! ### tests -/
section
variable {X : Cx} {e a b : Expr} {pos : Pos} {f g : Env → Store → R D} {fq gq : Env → Store → R QV}
/-- a comparison as a test -/
theorem sb_tT {t : TE} (h : PT X e (tTest t)) (hi : ∀ σ H Q, tD X.K f σ H Q → t σ H Q) (hb : ∀ ρ M d M', f ρ M = some (d, M') → ∃ k, d = .bl k) : SB X e (evT f) := by
  refine h.imp fun σ H Q h => ?_
  obtain ⟨ρ, L, M, k, M', r, p, e, q⟩ := h
  unfold evT at e
  split at e
  · rename_i x M1 e1
    obtain ⟨k', rfl⟩ := hb _ _ _ _ e1
    cases e
    exact hi _ _ _ ⟨ρ, L, M, _, _, r, p, e1, fun v H1 L1 g1 p1 r1 => ⟨_, r1, q H1 L1 g1 p1⟩⟩
  · cases e
theorem sb_ife {c : Expr} {h : Env → Store → R D} (hc : SB X c (evT h)) (ha : SB X a (evT f)) (hb : SB X b (evT g)) : SB X (.IfExp c a b pos) (evT (fun ρ M => match h ρ M with
    | some (x, M1) => match truth M1 x with
      | some true => f ρ M1
      | some false => g ρ M1
      | none => none
    | none => none)) := by
  refine ⟨fun pins s σ H Q I hq => ?_⟩
  obtain ⟨ρ, L, M, k, M', r, p, e, q⟩ := hq
  unfold evT at e
  split at e
  · rename_i x M1 e1
    try dsimp only at e1
    split at e1
    · rename_i y M2 e2
      split at e1
      · rename_i z
        refine isTrue_IfExp (thn (hc.run pins s σ H (fun b H' => if b = true then tBl X.K (evT f) σ H' Q else tBl X.K (evT g) σ H' Q) I ⟨ρ, L, M, true, M2, r, p, by unfold evT; rw [e2]; simp only []; rw [z]; rfl, fun H1 L1 g1 p1 => iteT ⟨ρ, L1, M2, k, M', r.mono g1, p1, by unfold evT; rw [e1]; exact e, fun H2 L2 g2 p2 => q H2 L2 (g1.trans g2) p2⟩⟩) fun c s1 ⟨H1, I1, q1⟩ => ?_)
        cases c with
        | true => exact ha.run pins s1 σ H1 Q I1 q1
        | false => exact hb.run pins s1 σ H1 Q I1 q1
      · rename_i z
        refine isTrue_IfExp (thn (hc.run pins s σ H (fun b H' => if b = true then tBl X.K (evT f) σ H' Q else tBl X.K (evT g) σ H' Q) I ⟨ρ, L, M, false, M2, r, p, by unfold evT; rw [e2]; simp only []; rw [z]; rfl, fun H1 L1 g1 p1 => iteF ⟨ρ, L1, M2, k, M', r.mono g1, p1, by unfold evT; rw [e1]; exact e, fun H2 L2 g2 p2 => q H2 L2 (g1.trans g2) p2⟩⟩) fun c s1 ⟨H1, I1, q1⟩ => ?_)
        cases c with
        | true => exact ha.run pins s1 σ H1 Q I1 q1
        | false => exact hb.run pins s1 σ H1 Q I1 q1
      · cases e1
    · cases e1
  · cases e
theorem in_cmp {K : PySem.W.Frag} {o : CmpOp} : ∀ σ H Q, tD K (fun ρ M => match f ρ M with
    | some (x, M1) => match g ρ M1 with
      | some (y, M2) => (cmpS o x y).map fun k => (.bl k, M2)
      | none => none
    | none => none) σ H Q → tOp (rCmp K o) (tD K f) (tD K g) σ H Q := by
  intro σ H Q h
  obtain ⟨ρ, L, M, d, M', r, p, e, q⟩ := h
  try dsimp only at e
  split at e
  · split at e
    · rename_i x _ e1 _ y M2 e2
      cases z : cmpS o x y with
      | none => rw [z] at e; cases e
      | some k =>
        rw [z] at e
        cases e
        exact two r p e1 e2 fun v u H2 L2 g2 p2 r1 r2 => ⟨L2, _, _, k, r1, r2, z, (q.later g2).here p2 rfl⟩
    · cases e
  · cases e
theorem sb_cmp {o : CmpOp} (hu : X.A.units + 65 < cLine) (hm : behindInMarks o b = false) (ha : SE X a f) (hb : SE X b g) : SB X (.Compare a [o] [b] pos) (evT (fun ρ M => match f ρ M with
    | some (x, M1) => match g ρ M1 with
      | some (y, M2) => (cmpS o x y).map fun k => (.bl k, M2)
      | none => none
    | none => none)) := by
  refine sb_tT (pt_cmpR (op_cmp (by omega)) ha hb hm) in_cmp fun ρ M d M' e => ?_
  try dsimp only at e
  split at e
  · split at e
    · rename_i x _ e1 _ y M2 e2
      cases z : cmpS o x y with
      | none => rw [z] at e; cases e
      | some k => rw [z] at e; cases e; exact ⟨_, rfl⟩
    · cases e
  · cases e
theorem in_mem {K : PySem.W.Frag} {ne : Bool} : ∀ σ H Q, tD K (fun ρ M => match f ρ M with
    | some (x, M1) => match fq ρ M1 with
      | some (y, M2) => (memS x y M2).map fun k => (.bl (if ne then !k else k), M2)
      | none => none
    | none => none) σ H Q → tOp (rMem K ne) (tD K f) (tQv K fq) σ H Q := by
  intro σ H Q h
  obtain ⟨ρ, L, M, d, M', r, p, e, q⟩ := h
  try dsimp only at e
  split at e
  · split at e
    · rename_i x _ e1 _ y M2 e2
      cases z : memS x y M2 with
      | none => rw [z] at e; cases e
      | some k =>
        rw [z] at e
        cases e
        exact ⟨ρ, L, M, _, _, r, p, e1, fun v H1 L1 g1 p1 r1 => ⟨ρ, L1, _, _, _, r.mono g1, p1, e2, fun u H2 L2 g2 p2 r2 => ⟨L2, _, x, y, k, p2, RD.mono g2 _ _ r1, r2, z, (q.later (g1.trans g2)).here p2 rfl⟩⟩⟩
    · cases e
  · cases e
theorem sb_mem {ne : Bool} (hu : X.A.units + 65 < cLine) (hm : behindInMarks (if ne then .NotIn else .In) b = false) (ha : SE X a f) (hb : SQ X b fq) : SB X (.Compare a [if ne then .NotIn else .In] [b] pos) (evT (fun ρ M => match f ρ M with
    | some (x, M1) => match fq ρ M1 with
      | some (y, M2) => (memS x y M2).map fun k => (.bl (if ne then !k else k), M2)
      | none => none
    | none => none)) := by
  refine sb_tT (pt_cmpR (op_mem ne hu) ha hb hm) in_mem fun ρ M d M' e => ?_
  try dsimp only at e
  split at e
  · split at e
    · rename_i x _ e1 _ y M2 e2
      cases z : memS x y M2 with
      | none => rw [z] at e; cases e
      | some k => rw [z] at e; cases e; exact ⟨_, rfl⟩
    · cases e
  · cases e
def rEqL (K : PySem.W.Frag) (ne : Bool) : R2 := fun x y H Q => ∃ a b xs ys L ds es, x = .ref a ∧ y = .ref b ∧ SqL K H a xs ∧ SqL K H b ys ∧ RDs K H L ds xs ∧ RDs K H L es ys ∧ plainDs ds = true ∧ plainDs es = true ∧ Q (.bl (if ne then !eqDs ds es else eqDs ds es)) H
theorem op_eqL {ne : Bool} (hu : X.A.units + 65 < cLine) : OpR X (compareOp (if ne then .NotEq else .Eq)) (rEqL X.K ne) := by
  intro pins s σ H x y v u Q I rx ry h
  obtain ⟨a, b, xs, ys, L, ds, es, rfl, rfl, h1, h2, r1, r2, p1, p2, q⟩ := h
  obtain ⟨g1, g2⟩ := r1.shaped p1 h1
  obtain ⟨g3, g4⟩ := r2.shaped p2 h2
  have ee : PyData.eqv (.list (toPys ds)) (.list (toPys es)) = eqDs ds es := by
    have c1 : closedDs 0 ds = true := by unfold plainDs at p1; simp only [Bool.and_eq_true] at p1; exact p1.1
    have c2 : closedDs 0 es = true := by unfold plainDs at p2; simp only [Bool.and_eq_true] at p2; exact p2.1
    have := toPys_eqv ds es c1 c2
    simpa [PyData.eqv] using this
  cases ne with
  | true => exact op_neD (by omega) pins s σ H _ _ v u Q I rx ry ⟨_, _, g1, g3, g2, g4, by rw [ee]; exact q⟩
  | false => exact op_eqD (by omega) pins s σ H _ _ v u Q I rx ry ⟨_, _, g1, g3, g2, g4, by rw [ee]; exact q⟩
theorem in_eqL {K : PySem.W.Frag} {ne : Bool} : ∀ σ H Q, tD K (fun ρ M => match fq ρ M with
    | some (x, M1) => match gq ρ M1 with
      | some (y, M2) => match itemsL M2 x, itemsL M2 y with
        | some xs, some ys => if plainDs xs && plainDs ys then some (.bl (if ne then !eqDs xs ys else eqDs xs ys), M2) else none
        | _, _ => none
      | none => none
    | none => none) σ H Q → tOp (rEqL K ne) (tQv K fq) (tQv K gq) σ H Q := by
  intro σ H Q h
  obtain ⟨ρ, L, M, d, M', r, p, e, q⟩ := h
  try dsimp only at e
  split at e
  · split at e
    · rename_i x _ e1 _ y M2 e2
      split at e
      · rename_i xs ys z1 z2
        split at e
        · rename_i hp
          simp only [Bool.and_eq_true] at hp
          cases e
          refine ⟨ρ, L, M, _, _, r, p, e1, fun v H1 L1 g1 p1 r1 => ⟨ρ, L1, _, _, _, r.mono g1, p1, e2, fun u H2 L2 g2 p2 r2 => ?_⟩⟩
          obtain ⟨a1, xs1, y1, y2, y3⟩ := (r1.mono g2).itemsL p2 z1
          obtain ⟨a2, xs2, y4, y5, y6⟩ := r2.itemsL p2 z2
          exact ⟨a1, a2, xs1, xs2, L2, xs, ys, y1, y4, y2, y5, y3, y6, hp.1, hp.2, (q.later (g1.trans g2)).here p2 rfl⟩
        · cases e
      · cases e
    · cases e
  · cases e
theorem sb_eqL {ne : Bool} (hu : X.A.units + 65 < cLine) (hm : behindInMarks (if ne then .NotEq else .Eq) b = false) (ha : SQ X a fq) (hb : SQ X b gq) : SB X (.Compare a [if ne then .NotEq else .Eq] [b] pos) (evT (fun ρ M => match fq ρ M with
    | some (x, M1) => match gq ρ M1 with
      | some (y, M2) => match itemsL M2 x, itemsL M2 y with
        | some xs, some ys => if plainDs xs && plainDs ys then some (.bl (if ne then !eqDs xs ys else eqDs xs ys), M2) else none
        | _, _ => none
      | none => none
    | none => none)) := by
  refine sb_tT (pt_cmpR (op_eqL hu) ha hb hm) in_eqL fun ρ M d M' e => ?_
  try dsimp only at e
  split at e
  · split at e
    · split at e
      · split at e
        · cases e; exact ⟨_, rfl⟩
        · cases e
      · cases e
    · cases e
  · cases e
end

/-! ### contexts -/
structure Tb0 where
  fn : List (Str × Nat)
  cs : List (Str × D)
structure Tbl extends Tb0 where
  Φ : Nat → Fn
abbrev bltN : List Str := ["len", "sum", "any", "all", "min", "max", "tuple", "list", "range", "abs", "int", "isinstance", "sorted", "set", "zip", "enumerate", "str", "bool"]
structure Ctx (T : Tbl) (N : List Str) (sc : Scope) (fb : Str → Bool) (X : Cx) : Prop where
  calm : X.calm = true
  hN : X.N = N
  nd : N.Nodup
  sc : X.env.scope = sc
  fb : X.fn = fb
  un : X.A.units + 65 < cLine
  xe : X.xe = fun _ _ => False
  blt : ∀ x, x ∈ bltN → X.mg x = none
  fun_ : ∀ (f : Nat) (x : Str) (n : Nat), T.fn[f]? = some (x, n) → ∃ (k : Nat) (fa : Addr) (fd : FuncData) (ps : List Str), X.mg x = some (.ref fa) ∧ PySem.W.keepIn X.K (.ref fa) = true ∧ Binds X.K fd ps [] ∧ Room k X.A ∧
    FnOk X.prog X.w X.K X.mg X.base CX0 k fa fd ps (spF X.K n (T.Φ f)) ∧ ∀ ds M d M', T.Φ f ds M = some (d, M') → ds.length = n
  con : ∀ (x : Str) (d : D), (x, d) ∈ T.cs → ∃ u v, X.mg x = some u ∧ RelV v u ∧ ∀ H L, RD X.K H L d v
theorem Ctx.blk {T : Tbl} {N : List Str} {sc : Scope} {fb : Str → Bool} {X : Cx} (c : Ctx T N sc fb X) (s : Shared) (H : Hp) (scope : Scope) (C : Addr) (cl : List (Str × Addr)) (fp : List Addr) :
    Ctx T N (relS scope sc) (fun x => scope.names.lookup x == some .cell) (X.blk s H scope (compEnvC scope cl C X.env) fp) where
  calm := c.calm
  hN := c.hN
  nd := c.nd
  sc := by rw [← c.sc]; rfl
  fb := rfl
  un := c.un
  xe := rfl
  blt := c.blt
  fun_ := c.fun_
  con := c.con
end PS

set_option Elab.async false
set_option linter.all false
set_option maxRecDepth 100000
set_option maxHeartbeats 8000000
/-! PS13: a term is held beside the text (ck..), and then the text does what the evaluator says. -/
namespace PS
open PySem PySem.Spec PyProof.Rows L2

/-! ### the check -/
def okName (x : Str) : Bool := !(x == ("__debug__" : Str)) && !(x == ("__classdict__" : Str)) && !decide (x = ("__name__" : Str))
def isGl (sc : Scope) (x : Str) : Bool := decide (sc.names.lookup x = some .globalImplicit)
def vis (sc : Scope) (x : Str) : Bool := decide (sc.names.lookup x = some .local) || decide (sc.names.lookup x = some .cell) || decide (sc.names.lookup x = some .free)
def isLoc (sc : Scope) (fb : Str → Bool) (x : Str) : Bool := decide (sc.names.lookup x = some .local) || (decide (sc.names.lookup x = some .cell) && fb x)
def bltName : Blt → Str
  | .len => "len"
  | .abs => "abs"
  | .int => "int"
  | .max2 => "max"
  | .min2 => "min"
  | .strOf => "str"
  | _ => "isinstance"
def aggName : Agg → Str
  | .len => "len"
  | .sum => "sum"
  | .any => "any"
  | .all => "all"
  | .tup => "tuple"
  | .min => "min"
  | .max => "max"
  | .lenSet => "len"
def mtName : Mt → Str
  | .append => "append"
  | .insert => "insert"
  | .pop => "pop"
  | .popAt => "pop"
  | .index => "index"
  | .remove => "remove"
  | .get1 => "get"
  | .get2 => "get"
  | .put => ""
def mtOk : Mt → Bool
  | .remove => false
  | .put => false
  | _ => true
mutual
def tslT : T → List Nat
  | .name i => [i]
  | .tup ts => tslTs ts
  | .sub _ _ => []
def tslTs : Ts → List Nat
  | .nil => []
  | .cons t ts => tslT t ++ tslTs ts
end
def lenTs : Ts → Nat
  | .nil => 0
  | .cons _ ts => lenTs ts + 1
variable (Tb : Tb0) (N : List Str)
mutual
def ckE (sc : Scope) (fb : Str → Bool) : E → Expr → Bool
  | .var i, ex => match ex with
    | .Name x _ => decide (N[i]? = some x) && vis sc x && okName x
    | _ => false
  | .non, ex => match ex with
    | .Constant .none _ _ => true
    | _ => false
  | .bl b, ex => match ex with
    | .Constant (.bool c) _ _ => b == c
    | _ => false
  | .int i, ex => match ex with
    | .Constant (.int c) _ _ => i == c
    | _ => false
  | .str s, ex => match ex with
    | .Constant (.str c) _ _ => decide (s = c) && PyData.strOk s
    | _ => false
  | .glob x d, ex => match ex with
    | .Name y _ => decide (x = y) && isGl sc y && okName y && decide ((y, d) ∈ Tb.cs)
    | _ => false
  | .bin o a b, ex => match ex with
    | .BinOp l o' r _ => decide (o = o') && ckE sc fb a l && ckE sc fb b r
    | _ => false
  | .neg a, ex => match ex with
    | .UnaryOp .USub x _ => ckE sc fb a x
    | _ => false
  | .nt a, ex => match ex with
    | .UnaryOp .Not x _ => ckE sc fb a x
    | _ => false
  | .and a b, ex => match ex with
    | .BoolOp .And (x :: y :: rest) pos => ckE sc fb a x && (match rest with
      | [] => ckE sc fb b y
      | z :: rest => ckE sc fb b (.BoolOp .And (y :: z :: rest) pos))
    | _ => false
  | .or a b, ex => match ex with
    | .BoolOp .Or (x :: y :: rest) pos => ckE sc fb a x && (match rest with
      | [] => ckE sc fb b y
      | z :: rest => ckE sc fb b (.BoolOp .Or (y :: z :: rest) pos))
    | _ => false
  | .ife c a b, ex => match ex with
    | .IfExp t x y _ => ckE sc fb c t && ckE sc fb a x && ckE sc fb b y
    | _ => false
  | .cmp o a b, ex => match ex with
    | .Compare l [o'] [r] _ => decide (o = o') && notSet r && ckE sc fb a l && ckE sc fb b r
    | _ => false
  | .eqL ne a b, ex => match ex with
    | .Compare l [o'] [r] _ => decide (o' = if ne then .NotEq else .Eq) && notSet r && ckQ sc fb a l && ckQ sc fb b r
    | _ => false
  | .mem ne x q, ex => match ex with
    | .Compare l [o'] [r] _ => decide (o' = if ne then .NotIn else .In) && notSet r && ckE sc fb x l && ckQ sc fb q r
    | _ => false
  | .tup es, ex => match ex with
    | .Tuple xs _ _ => ckEs sc fb es xs
    | _ => false
  | .ofL l, ex => ckL sc fb l ex
  | .dctK, ex => match ex with
    | .Dict [] [] _ => true
    | _ => false
  | .dctT, _ => false
  | .dctC own t it c k v, ex => match ex with
    | .DictComp kx vx [⟨tg, iter, ifs, as⟩] scope _ => decide (as = 0) && blkC N sc scope own && notSet iter && ckI sc fb it tg iter && ckT (relS scope sc) (fun x => scope.names.lookup x == some .cell) t tg && (tslT t).all (fun i => decide (i ∈ own.map (·.2))) &&
        ckO (relS scope sc) (fun x => scope.names.lookup x == some .cell) c ifs && ckE (relS scope sc) (fun x => scope.names.lookup x == some .cell) k kx && ckE (relS scope sc) (fun x => scope.names.lookup x == some .cell) v vx
    | _ => false
  | .idx q i, ex => match ex with
    | .Subscript a b _ => notSlice b && ckQ sc fb q a && ckE sc fb i b
    | _ => false
  | .slc a lo hi, ex => match ex with
    | .Subscript x (.Slice l h none _) _ => ckE sc fb a x && ckP sc fb lo l && ckP sc fb hi h
    | _ => false
  | .call f es, ex => match ex with
    | .Call (.Name x _) as [] _ => (match Tb.fn[f]? with | some (y, _) => decide (x = y) | none => false) && isGl sc x && okName x && ckEs sc fb es as
    | _ => false
  | .blt b es, ex => match ex with
    | .Call (.Name x _) (a :: as) [] _ => decide (x = bltName b) && decide (b ≠ .strOf) && isGl sc x && okName x && (match bltC b with
      | none => ckEs sc fb es (a :: as)
      | some c => match as with
        | [.Name cn _] => decide (cn = Str.ofString c) && isGl sc cn && okName cn && ckEs sc fb es [a]
        | _ => false)
    | _ => false
  | .agg g q, ex => match g, q, ex with
    | .tup, .lst (.listR a _ false), .Call (.Name x _) [.Call (.Name y _) [n] [] _] [] _ => decide (x = ("tuple" : Str)) && isGl sc x && decide (y = ("range" : Str)) && isGl sc y && notStar n && ckE sc fb a n
    | g, q, .Call (.Name x _) [a] [] _ => decide (x = aggName g) && decide (g ≠ .lenSet) && isGl sc x && okName x && notStar a && ckQ sc fb q a
    | _, _, _ => false
  | .mth m o es, ex => match ex with
    | .Call (.Attribute ob name apos) as [] cpos => decide (name = mtName m) && mtOk m && notCall ob && (apos.endLine == cpos.line) && decide (as.length < 29) && ckE sc fb o ob && ckEs sc fb es as
    | _ => false
  | .ext o q, ex => match ex with
    | .Call (.Attribute ob name apos) [a] [] cpos => decide (name = ("extend" : Str)) && notCall ob && (apos.endLine == cpos.line) && notStar a && ckE sc fb o ob && ckQ sc fb q a
    | _ => false
def ckEs (sc : Scope) (fb : Str → Bool) : Es → List Expr → Bool
  | .nil, xs => match xs with
    | [] => true
    | _ => false
  | .cons e es, xs => match xs with
    | x :: xs => notStar x && ckE sc fb e x && ckEs sc fb es xs
    | [] => false
/-- tests of a clause -/
def ckO (sc : Scope) (fb : Str → Bool) : O → List Expr → Bool
  | .no, xs => match xs with
    | [] => true
    | _ => false
  | .yes e, xs => match xs with
    | [x] => ckE sc fb e x
    | _ => false
/-- a slice's part -/
def ckP (sc : Scope) (fb : Str → Bool) : O → Option Expr → Bool
  | .no, x => match x with
    | none => true
    | _ => false
  | .yes e, x => match x with
    | some x => ckE sc fb e x
    | none => false
def ckL (sc : Scope) (fb : Str → Bool) : L → Expr → Bool
  | .disp es, ex => match ex with
    | .List xs _ => ckEs sc fb es xs
    | _ => false
  | .comp own t it c elt, ex => match ex with
    | .ListComp x [⟨tg, iter, ifs, as⟩] scope _ => decide (as = 0) && blkC N sc scope own && notSet iter && ckI sc fb it tg iter && ckT (relS scope sc) (fun x => scope.names.lookup x == some .cell) t tg && (tslT t).all (fun i => decide (i ∈ own.map (·.2))) &&
        ckO (relS scope sc) (fun x => scope.names.lookup x == some .cell) c ifs && ckE (relS scope sc) (fun x => scope.names.lookup x == some .cell) elt x
    | _ => false
  | .comp2 .., _ => false
  | .sorted q, ex => match ex with
    | .Call (.Name x _) [a] [] _ => decide (x = ("sorted" : Str)) && isGl sc x && notStar a && ckQ sc fb q a
    | _ => false
  | .sortedD e, ex => match ex with
    | .Call (.Name x _) [a] [] _ => decide (x = ("sorted" : Str)) && isGl sc x && notStar a && ckE sc fb e a
    | _ => false
  | .sortedSet _, _ => false
  | .list q, ex => match ex with
    | .Call (.Name x _) [a] [] _ => decide (x = ("list" : Str)) && isGl sc x && notStar a && ckQ sc fb q a
    | _ => false
  | .listR a b two, ex => match ex with
    | .Call (.Name x _) [.Call (.Name y _) [n] [] _] [] _ => decide (x = ("list" : Str)) && isGl sc x && decide (y = ("range" : Str)) && isGl sc y && notStar n && !two && ckE sc fb a n
    | .Call (.Name x _) [.Call (.Name y _) [n, m] [] _] [] _ => decide (x = ("list" : Str)) && isGl sc x && decide (y = ("range" : Str)) && isGl sc y && notStar n && notStar m && two && ckE sc fb a n && ckE sc fb b m
    | _ => false
  | .slice q lo hi, ex => match ex with
    | .Subscript x (.Slice l h none _) _ => ckQ sc fb q x && ckP sc fb lo l && ckP sc fb hi h
    | _ => false
  | .rev q, ex => match ex with
    | .Subscript x (.Slice none none (some (.UnaryOp .USub (.Constant (.int 1) _ _) _)) _) _ => ckQ sc fb q x
    | _ => false
  | .cat a b, ex => match ex with
    | .BinOp l .Add r _ => ckQ sc fb a l && ckQ sc fb b r
    | _ => false
  | .rep q n, ex => match ex with
    | .BinOp l .Mult r _ => ckQ sc fb q l && ckE sc fb n r
    | _ => false
def ckQ (sc : Scope) (fb : Str → Bool) : Q → Expr → Bool
  | .val e, ex => ckE sc fb e ex
  | .lst l, ex => ckL sc fb l ex
def ckI (sc : Scope) (fb : Str → Bool) : I → Expr → Expr → Bool
  | .q q, _, ex => ckQ sc fb q ex
  | .rng1 a, _, ex => match ex with
    | .Call (.Name x _) [n] [] _ => decide (x = ("range" : Str)) && isGl sc x && notStar n && ckE sc fb a n
    | _ => false
  | .rng2 a b, _, ex => match ex with
    | .Call (.Name x _) [n, m] [] _ => decide (x = ("range" : Str)) && isGl sc x && notStar n && notStar m && ckE sc fb a n && ckE sc fb b m
    | _ => false
  | .enum _, _, _ => false
  | .zip _ _, _, _ => false
  | .keys _, _, _ => false
def ckT (sc : Scope) (fb : Str → Bool) : T → Expr → Bool
  | .name i, ex => match ex with
    | .Name x _ => decide (N[i]? = some x) && isLoc sc fb x
    | _ => false
  | .tup ts, ex => match ex with
    | .Tuple xs _ _ => ckTs sc fb ts xs
    | _ => false
  | .sub o i, ex => match ex with
    | .Subscript a b _ => notSlice b && ckE sc fb o a && ckE sc fb i b
    | _ => false
def ckTs (sc : Scope) (fb : Str → Bool) : Ts → List Expr → Bool
  | .nil, xs => match xs with
    | [] => true
    | _ => false
  | .cons t ts, xs => match xs with
    | x :: xs => notStar x && ckT sc fb t x && ckTs sc fb ts xs
    | [] => false
end
end PS

set_option Elab.async false
set_option linter.all false
set_option maxRecDepth 100000
set_option maxHeartbeats 16000000
/-! PS14: a checked term of an expression: the text does what the evaluator says. -/
namespace PS
open PySem PySem.Spec PyProof.Rows L2
structure OkE (X : Cx) (ex : Expr) (f : Env → Store → R D) : Prop where
  e : SE X ex f
  b : SB X ex (evT f)
  w : ∀ op vs pos, ex = .BoolOp op vs pos → SW X ex (evT f)
theorem OkE.plain {X : Cx} {ex : Expr} {f : Env → Store → R D} (h : SE X ex f) (hp : plainTest ex = true) : OkE X ex f :=
  ⟨h, sb_of h (test_of hp), fun op vs pos z => by rw [z] at hp; cases hp⟩
theorem OkE.two {X : Cx} {ex : Expr} {f : Env → Store → R D} (h : SE X ex f) (hb : SB X ex (evT f)) (hp : ∀ op vs pos, ex ≠ .BoolOp op vs pos) : OkE X ex f :=
  ⟨h, hb, fun op vs pos z => absurd z (hp op vs pos)⟩
section
variable {Tb : Tbl} {N : List Str} {sc : Scope} {fb : Str → Bool} {X : Cx}
theorem okName_of {x : Str} (h : okName x = true) : (x == ("__debug__" : Str)) = false ∧ (x == ("__classdict__" : Str)) = false ∧ x ≠ "__name__" := by
  unfold okName at h
  simp only [Bool.and_eq_true, Bool.not_eq_true', decide_eq_false_iff_not] at h
  exact ⟨h.1.1, h.1.2, h.2⟩
theorem gl_of {x : Str} (c : Ctx Tb N sc fb X) (h : isGl sc x = true) : Gl X x := by
  unfold isGl at h
  show X.env.scope.names.lookup x = _
  rw [c.sc]
  simpa using h
theorem vis_of {x : Str} (c : Ctx Tb N sc fb X) (h : vis sc x = true) : Vis X.env.scope x := by
  unfold vis at h
  rw [c.sc]
  simp only [Bool.or_eq_true, decide_eq_true_eq] at h
  rcases h with (h | h) | h
  · exact .inl h
  · exact .inr (.inl h)
  · exact .inr (.inr h)
theorem loc_of {x : Str} (c : Ctx Tb N sc fb X) (h : isLoc sc fb x = true) : Loc X.env.scope x ∧ (X.fn x = true ∨ X.env.scope.names.lookup x = some .local) := by
  unfold isLoc at h
  rw [c.sc, c.fb]
  simp only [Bool.or_eq_true, Bool.and_eq_true, decide_eq_true_eq] at h
  rcases h with h | h
  · exact ⟨.inl h, .inr h⟩
  · exact ⟨.inr h.1, .inl h.2⟩
theorem blt_of {x : Str} (c : Ctx Tb N sc fb X) (h : x ∈ bltN) : X.mg x = none := c.blt x h
end
variable {Tb : Tbl} {N : List Str}
theorem mtFacts (m : Mt) (h : mtOk m = true) : PlainAttrs (mtT m) ∧ PySem.Slot (mtT m) (mtName m) (mtId m) ∧ typeOf (.builtin (mtId m)) = pure (.type "method_descriptor") := by
  cases m with
  | append => exact ⟨PySem.F.plainAttrs_list, PySem.F.slot_list_append, PySem.F.type_list_append⟩
  | insert => exact ⟨PySem.F.plainAttrs_list, PySem.F.slot_list_insert, PySem.F.type_list_insert⟩
  | pop => exact ⟨PySem.F.plainAttrs_list, PySem.F.slot_list_pop, PySem.F.type_list_pop⟩
  | popAt => exact ⟨PySem.F.plainAttrs_list, PySem.F.slot_list_pop, PySem.F.type_list_pop⟩
  | index => exact ⟨PySem.F.plainAttrs_list, PySem.F.slot_list_index, PySem.F.type_list_index⟩
  | get1 => exact ⟨PySem.F.plainAttrs_dict, PySem.F.slot_dict_get, PySem.F.type_dict_get⟩
  | get2 => exact ⟨PySem.F.plainAttrs_dict, PySem.F.slot_dict_get, PySem.F.type_dict_get⟩
  | remove => cases h
  | put => cases h
theorem aggB (g : Agg) (h : g ≠ .lenSet) : (∃ id, aggV g = .builtin id ∧ bootBuiltins (aggName g) = some (.builtin id)) ∨ ∃ t, aggV g = .type t ∧ bootBuiltins (aggName g) = some (.type t) := by
  cases g with
  | len => exact .inl ⟨_, rfl, by decide +kernel⟩
  | sum => exact .inl ⟨_, rfl, by decide +kernel⟩
  | any => exact .inl ⟨_, rfl, by decide +kernel⟩
  | all => exact .inl ⟨_, rfl, by decide +kernel⟩
  | tup => exact .inr ⟨_, rfl, by decide +kernel⟩
  | min => exact .inl ⟨_, rfl, by decide +kernel⟩
  | max => exact .inl ⟨_, rfl, by decide +kernel⟩
  | lenSet => exact absurd rfl h
theorem aggMem (g : Agg) : aggName g ∈ bltN := by cases g <;> decide
theorem bltMem (b : Blt) : bltName b ∈ bltN := by cases b <;> decide
theorem bltB (b : Blt) (h : b ≠ .strOf) : (∃ id, bltV b = .builtin id ∧ bootBuiltins (bltName b) = some (.builtin id)) ∨ ∃ t, bltV b = .type t ∧ bootBuiltins (bltName b) = some (.type t) := by
  cases b with
  | len => exact .inl ⟨_, rfl, by decide +kernel⟩
  | abs => exact .inl ⟨_, rfl, by decide +kernel⟩
  | int => exact .inr ⟨_, rfl, by decide +kernel⟩
  | max2 => exact .inl ⟨_, rfl, by decide +kernel⟩
  | min2 => exact .inl ⟨_, rfl, by decide +kernel⟩
  | isInt => exact .inl ⟨_, rfl, by decide +kernel⟩
  | isBool => exact .inl ⟨_, rfl, by decide +kernel⟩
  | isStr => exact .inl ⟨_, rfl, by decide +kernel⟩
  | isTup => exact .inl ⟨_, rfl, by decide +kernel⟩
  | strOf => exact absurd rfl h
theorem bltCty {b : Blt} {c : String} (h : bltC b = some c) : bootBuiltins (Str.ofString c) = some (.type c) ∧ Str.ofString c ∈ bltN := by
  cases b <;> cases h <;> exact ⟨by decide +kernel, by decide⟩
theorem ckEs_star {Tb : Tbl} {N : List Str} {sc : Scope} {fb : Str → Bool} : ∀ (es : Es) (xs : List Expr), ckEs Tb.toTb0 N sc fb es xs = true → xs.all notStar = true
  | .nil, xs, h => by
    rw [ckEs.eq_def] at h; try dsimp only at h
    split at h
    · rfl
    · cases h
  | .cons e es, xs, h => by
    rw [ckEs.eq_def] at h; try dsimp only at h
    split at h
    · simp only [Bool.and_eq_true] at h
      simp only [List.all_cons, Bool.and_eq_true]
      exact ⟨h.1.1, ckEs_star es _ h.2⟩
    · cases h
theorem ckTs_len {Tb : Tbl} {N : List Str} {sc : Scope} {fb : Str → Bool} : ∀ (ts : Ts) (xs : List Expr), ckTs Tb.toTb0 N sc fb ts xs = true → xs.length = lenTs ts ∧ ∀ env, (assignEach xs env).length = lenTs ts ∧ (assignEach xs env).findIdx? (·.1) = none
  | .nil, xs, h => by
    rw [ckTs.eq_def] at h; try dsimp only at h
    split at h
    · exact ⟨rfl, fun env => ⟨rfl, rfl⟩⟩
    · cases h
  | .cons t ts, xs, h => by
    rw [ckTs.eq_def] at h; try dsimp only at h
    split at h
    · simp only [Bool.and_eq_true] at h
      obtain ⟨h1, h2⟩ := ckTs_len ts _ h.2
      refine ⟨by simp [lenTs, h1], fun env => ?_⟩
      obtain ⟨h3, h4⟩ := h2 env
      rw [asg_of h.1.1]
      refine ⟨by simp [lenTs, h3], ?_⟩
      rw [List.findIdx?_cons, h4]
      rfl
    · cases h
theorem asTs_len {Φ : Nat → Fn} : ∀ (ts : Ts) (ds : List D) (ρ : Env) (M : Store) (r : Env × Store), asTs Φ ts ds ρ M = some r → ds.length = lenTs ts
  | .nil, [], ρ, M, r, h => rfl
  | .nil, d :: ds, ρ, M, r, h => by simp [asTs] at h
  | .cons t ts, [], ρ, M, r, h => by simp [asTs] at h
  | .cons t ts, d :: ds, ρ, M, r, h => by
    simp only [asTs] at h
    split at h
    · have := asTs_len ts _ _ _ _ h
      simp [lenTs, this]
    · cases h
mutual
theorem sndE : ∀ (e : E) {sc : Scope} {fb : Str → Bool} {X : Cx} (c : Ctx Tb N sc fb X) (ex : Expr), ckE Tb.toTb0 N sc fb e ex = true → OkE X ex (evE Tb.Φ e)
  | .var i, sc, fb, X, c, ex, h => by
    rw [ckE.eq_def] at h; try dsimp only at h
    split at h
    · simp only [Bool.and_eq_true, decide_eq_true_eq] at h
      obtain ⟨h1, h2, _⟩ := okName_of h.2
      exact .plain (se_var (by rw [c.hN]; exact h.1.1) (vis_of c h.1.2) h1 h2) rfl
    · cases h
  | .non, sc, fb, X, c, ex, h => by
    rw [ckE.eq_def] at h; try dsimp only at h
    split at h
    · exact .plain (se_con (d := .non) pe_non fun _ _ => rfl) rfl
    · cases h
  | .bl b, sc, fb, X, c, ex, h => by
    rw [ckE.eq_def] at h; try dsimp only at h
    split at h
    · rename_i b' _ _
      obtain rfl : b = b' := by simpa using h
      exact .plain (se_con (d := .bl b) pe_bl fun _ _ => rfl) rfl
    · cases h
  | .int i, sc, fb, X, c, ex, h => by
    rw [ckE.eq_def] at h; try dsimp only at h
    split at h
    · rename_i i' _ _
      obtain rfl : i = i' := by simpa using h
      exact .plain (se_con (d := .int i) pe_int fun _ _ => rfl) rfl
    · cases h
  | .str s, sc, fb, X, c, ex, h => by
    rw [ckE.eq_def] at h; try dsimp only at h
    split at h
    · simp only [Bool.and_eq_true, decide_eq_true_eq] at h
      obtain ⟨rfl, h2⟩ := h
      exact .plain (se_con (d := .str s) pe_str fun _ _ => ⟨rfl, h2⟩) rfl
    · cases h
  | .glob x d, sc, fb, X, c, ex, h => by
    rw [ckE.eq_def] at h; try dsimp only at h
    split at h
    · simp only [Bool.and_eq_true, decide_eq_true_eq] at h
      obtain ⟨⟨⟨rfl, h2⟩, h3⟩, h4⟩ := h
      obtain ⟨u, v, e1, e2, e3⟩ := c.con _ _ h4
      exact .plain (se_con (pe_glob (gl_of c h2) e1 e2 (okName_of h3).1) e3) rfl
    · cases h
  | .bin o a b, sc, fb, X, c, ex, h => by
    rw [ckE.eq_def] at h; try dsimp only at h
    split at h
    · simp only [Bool.and_eq_true, decide_eq_true_eq] at h
      obtain ⟨⟨rfl, h2⟩, h3⟩ := h
      exact .plain (se_bin (sndE a c _ h2).e (sndE b c _ h3).e) rfl
    · cases h
  | .neg a, sc, fb, X, c, ex, h => by
    rw [ckE.eq_def] at h; try dsimp only at h
    split at h
    · exact .plain (se_neg (sndE a c _ h).e) rfl
    · cases h
  | .nt a, sc, fb, X, c, ex, h => by
    rw [ckE.eq_def] at h; try dsimp only at h
    split at h
    · exact .two (se_nt (sndE a c _ h).e) (sb_nt (sndE a c _ h).b) fun _ _ _ => Expr.noConfusion
    · cases h
  | .and a b, sc, fb, X, c, ex, h => by
    rw [ckE.eq_def] at h; try dsimp only at h
    split at h
    · rename_i x y rest pos
      simp only [Bool.and_eq_true] at h
      obtain ⟨h1, h2⟩ := h
      have ha := sndE a c _ h1
      split at h2
      · have hb := sndE b c _ h2
        have hw : SW X (.BoolOp .And [x, y] pos) (evT (evAnd (evE Tb.Φ a) (evE Tb.Φ b))) := sw_and ha.b (sw_and1 hb.b)
        exact ⟨se_and ha.e (se_one hb.e), PW.pt hw, fun op vs pos z => hw⟩
      · have hb := sndE b c _ h2
        have hw : SW X (.BoolOp .And (x :: y :: _ :: _) pos) (evT (evAnd (evE Tb.Φ a) (evE Tb.Φ b))) := sw_and ha.b (hb.w _ _ _ rfl)
        exact ⟨se_and ha.e hb.e, PW.pt hw, fun op vs pos z => hw⟩
    · cases h
  | .or a b, sc, fb, X, c, ex, h => by
    rw [ckE.eq_def] at h; try dsimp only at h
    split at h
    · rename_i x y rest pos
      simp only [Bool.and_eq_true] at h
      obtain ⟨h1, h2⟩ := h
      have ha := sndE a c _ h1
      split at h2
      · have hb := sndE b c _ h2
        have hw : SW X (.BoolOp .Or [x, y] pos) (evT (evOr (evE Tb.Φ a) (evE Tb.Φ b))) := sw_or ha.b (sw_or1 hb.b)
        exact ⟨se_or ha.e (se_one hb.e), PW.pt hw, fun op vs pos z => hw⟩
      · have hb := sndE b c _ h2
        have hw : SW X (.BoolOp .Or (x :: y :: _ :: _) pos) (evT (evOr (evE Tb.Φ a) (evE Tb.Φ b))) := sw_or ha.b (hb.w _ _ _ rfl)
        exact ⟨se_or ha.e hb.e, PW.pt hw, fun op vs pos z => hw⟩
    · cases h
  | .ife t a b, sc, fb, X, c, ex, h => by
    rw [ckE.eq_def] at h; try dsimp only at h
    split at h
    · simp only [Bool.and_eq_true] at h
      obtain ⟨⟨h1, h2⟩, h3⟩ := h
      have ht := sndE t c _ h1
      have ha := sndE a c _ h2
      have hb := sndE b c _ h3
      exact .two (se_ife ht.b ha.e hb.e) (sb_ife ht.b ha.b hb.b) fun _ _ _ => Expr.noConfusion
    · cases h
  | .cmp o a b, sc, fb, X, c, ex, h => by
    rw [ckE.eq_def] at h; try dsimp only at h
    split at h
    · simp only [Bool.and_eq_true, decide_eq_true_eq] at h
      obtain ⟨⟨⟨rfl, h2⟩, h3⟩, h4⟩ := h
      have ha := sndE a c _ h3
      have hb := sndE b c _ h4
      exact .two (se_cmp c.un (behind_of h2) ha.e hb.e) (sb_cmp c.un (behind_of h2) ha.e hb.e) fun _ _ _ => Expr.noConfusion
    · cases h
  | .eqL ne a b, sc, fb, X, c, ex, h => by
    rw [ckE.eq_def] at h; try dsimp only at h
    split at h
    · simp only [Bool.and_eq_true, decide_eq_true_eq] at h
      obtain ⟨⟨⟨rfl, h2⟩, h3⟩, h4⟩ := h
      have ha := sndQ a c _ h3
      have hb := sndQ b c _ h4
      exact .two (se_eqL c.un (behind_of h2) ha hb) (sb_eqL c.un (behind_of h2) ha hb) fun _ _ _ => Expr.noConfusion
    · cases h
  | .mem ne x q, sc, fb, X, c, ex, h => by
    rw [ckE.eq_def] at h; try dsimp only at h
    split at h
    · simp only [Bool.and_eq_true, decide_eq_true_eq] at h
      obtain ⟨⟨⟨rfl, h2⟩, h3⟩, h4⟩ := h
      have ha := sndE x c _ h3
      have hb := sndQ q c _ h4
      exact .two (se_mem c.un (behind_of h2) ha.e hb) (sb_mem c.un (behind_of h2) ha.e hb) fun _ _ _ => Expr.noConfusion
    · cases h
  | .tup es, sc, fb, X, c, ex, h => by
    rw [ckE.eq_def] at h; try dsimp only at h
    split at h
    · exact .plain (se_tup (sndEs es c _ h)) rfl
    · cases h
  | .ofL l, sc, fb, X, c, ex, h => by
    rw [ckE.eq_def] at h; try dsimp only at h
    refine .plain (se_ofL (sndL l c _ h)) ?_
    cases l with
    | disp es => rw [ckL.eq_def] at h; (try dsimp only at h); split at h <;> first | rfl | cases h
    | comp => rw [ckL.eq_def] at h; (try dsimp only at h); split at h <;> first | rfl | cases h
    | comp2 => rw [ckL.eq_def] at h; (try dsimp only at h); cases h
    | sorted => rw [ckL.eq_def] at h; (try dsimp only at h); split at h <;> first | rfl | cases h
    | sortedD => rw [ckL.eq_def] at h; (try dsimp only at h); split at h <;> first | rfl | cases h
    | sortedSet => rw [ckL.eq_def] at h; (try dsimp only at h); cases h
    | list => rw [ckL.eq_def] at h; (try dsimp only at h); split at h <;> first | rfl | cases h
    | listR => rw [ckL.eq_def] at h; (try dsimp only at h); split at h <;> first | rfl | cases h
    | slice => rw [ckL.eq_def] at h; (try dsimp only at h); split at h <;> first | rfl | cases h
    | rev => rw [ckL.eq_def] at h; (try dsimp only at h); split at h <;> first | rfl | cases h
    | cat => rw [ckL.eq_def] at h; (try dsimp only at h); split at h <;> first | rfl | cases h
    | rep => rw [ckL.eq_def] at h; (try dsimp only at h); split at h <;> first | rfl | cases h
  | .dctK, sc, fb, X, c, ex, h => by
    rw [ckE.eq_def] at h; try dsimp only at h
    split at h
    · exact .plain se_dctK rfl
    · cases h
  | .dctT, sc, fb, X, c, ex, h => by
    rw [ckE.eq_def] at h; try dsimp only at h
    cases h
  | .dctC own t it cd k v, sc, fb, X, c, ex, h => by
    rw [ckE.eq_def] at h; try dsimp only at h
    split at h
    · simp only [Bool.and_eq_true, decide_eq_true_eq, List.all_eq_true] at h
      obtain ⟨⟨⟨⟨⟨⟨⟨⟨rfl, h1⟩, h2⟩, h3⟩, h4⟩, h5⟩, h6⟩, h7⟩, h8⟩ := h
      refine .plain (SE.cast (se_dctC c.calm (by rw [c.hN]; exact c.nd) (sndI it c _ _ h3) (blkOk_by (by rw [c.hN, c.sc]; exact h1)) h5 (fun s H C cl fp => sndT t (c.blk s H _ C cl fp) _ h4) (fun s H C cl fp => sndO cd (c.blk s H _ C cl fp) _ h6)
        (fun s H C cl fp => (sndE k (c.blk s H _ C cl fp) _ h7).e) (fun s H C cl fp => (sndE v (c.blk s H _ C cl fp) _ h8).e) (fold_of h2)) (funext fun ρ => funext fun M => ?_)) rfl
      rw [evE.eq_def]
      dsimp only
      unfold dcF
      cases evI Tb.Φ it ρ M with
      | none => rfl
      | some w =>
        obtain ⟨ok, ds, M1⟩ := w
        rfl
    · cases h
  | .idx q i, sc, fb, X, c, ex, h => by
    rw [ckE.eq_def] at h; try dsimp only at h
    split at h
    · simp only [Bool.and_eq_true] at h
      obtain ⟨⟨h1, h2⟩, h3⟩ := h
      exact .plain (se_idx c.un (ix_of h1) (sndQ q c _ h2) (sndE i c _ h3).e) rfl
    · cases h
  | .slc a lo hi, sc, fb, X, c, ex, h => by
    rw [ckE.eq_def] at h; try dsimp only at h
    split at h
    · simp only [Bool.and_eq_true] at h
      obtain ⟨⟨h1, h2⟩, h3⟩ := h
      exact .plain (se_slc (sndE a c _ h1).e (sndP lo c _ h2) (sndP hi c _ h3)) rfl
    · cases h
  | .call f es, sc, fb, X, c, ex, h => by
    rw [ckE.eq_def] at h; try dsimp only at h
    split at h
    · rename_i x p as pos
      simp only [Bool.and_eq_true] at h
      obtain ⟨⟨⟨h1, h2⟩, h3⟩, h4⟩ := h
      split at h1
      · rename_i y n z
        obtain rfl : x = y := by simpa using h1
        obtain ⟨k, fa, fd, ps, e1, e2, e3, e4, e5, e6⟩ := c.fun_ f _ _ z
        have hs := ckEs_star es _ h4
        have hE := sndEs es c _ h4
        cases as with
        | cons a as =>
          simp only [List.all_cons, Bool.and_eq_true] at hs
          exact .plain (se_call e5 e6 e4 (gl_of c h2) e1 e2 e3 (okName_of h3).1 hE (star_of hs.1) (plain_of hs.2)) rfl
        | nil =>
          cases es with
          | nil => exact .plain (se_call0 e5 e6 e4 (gl_of c h2) e1 e2 e3 (okName_of h3).1) rfl
          | cons e es => rw [ckEs.eq_def] at h4; (try dsimp only at h4); cases h4
      · cases h1
    · cases h
  | .blt b es, sc, fb, X, c, ex, h => by
    rw [ckE.eq_def] at h; try dsimp only at h
    split at h
    · rename_i x p a as pos
      simp only [Bool.and_eq_true, decide_eq_true_eq] at h
      obtain ⟨⟨⟨⟨rfl, h1⟩, h2⟩, h3⟩, h4⟩ := h
      obtain ⟨n1, n2, n3⟩ := okName_of h3
      split at h4
      · rename_i hc
        have hs := ckEs_star es _ h4
        simp only [List.all_cons, Bool.and_eq_true] at hs
        rcases bltB b h1 with ⟨id, v1, v2⟩ | ⟨t, v1, v2⟩
        · exact .plain (se_bltB v1 c.calm (gl_of c h2) (blt_of c (bltMem b)) v2 n3 n1 (sndEs es c _ h4) (fun σ H Q q => by rw [hc] at q; simpa using q) (star_of hs.1) (plain_of hs.2)) rfl
        · exact .plain (se_bltT v1 c.calm (gl_of c h2) (blt_of c (bltMem b)) v2 n3 n1 (sndEs es c _ h4) (fun σ H Q q => by rw [hc] at q; simpa using q) (star_of hs.1) (plain_of hs.2)) rfl
      · rename_i cn hc
        split at h4
        · rename_i cn' p'
          simp only [Bool.and_eq_true, decide_eq_true_eq] at h4
          obtain ⟨⟨⟨rfl, h5⟩, h6⟩, h7⟩ := h4
          obtain ⟨m1, m2, m3⟩ := okName_of h6
          obtain ⟨y1, y2⟩ := bltCty hc
          have hs := ckEs_star es _ h7
          simp only [List.all_cons, Bool.and_eq_true] at hs
          have hv : bltV b = .builtin "isinstance" := by cases b <;> first | rfl | cases hc
          have hb : bootBuiltins (bltName b) = some (.builtin "isinstance") := by
            have : bltName b = "isinstance" := by cases b <;> first | rfl | cases hc
            rw [this]
            decide +kernel
          have hA : SA X [a] (evEs Tb.Φ es) := sndEs es c _ h7
          have hty : PE X (.Name (Str.ofString cn) p') (tC (.ty cn)) := pe_bltn (gl_of c h5) (blt_of c y2) y1 rfl m3 m1
          cases es with
          | nil => rw [ckEs.eq_def] at h7; cases h7
          | cons e es =>
          cases es with
          | cons e2 es => rw [ckEs.eq_def] at h7; (try dsimp only at h7); rw [ckEs.eq_def] at h7; simp at h7
          | nil =>
          have hE : SE X a (evE Tb.Φ e) := by
            rw [ckEs.eq_def] at h7
            (try dsimp only at h7)
            simp only [Bool.and_eq_true] at h7
            exact (sndE e c _ h7.1.2).e
          have hPA := pa_cons hE (pa_cons hty pa_nil (star_of rfl)) (star_of hs.1)
          refine .plain (se_bltB (bl := b) hv c.calm (gl_of c h2) (blt_of c (bltMem b)) hb n3 n1 hPA (fun σ H Q q => ?_) (star_of hs.1) (plain_of (by rfl))) rfl
          rw [hc] at q
          obtain ⟨ρ, L, M, ds, M', r, p, e1, q⟩ := q
          rw [evEs.eq_def] at e1
          dsimp only at e1
          cases z : evE Tb.Φ e ρ M with
          | none => rw [z] at e1; cases e1
          | some w =>
          obtain ⟨d, M1⟩ := w
          rw [z] at e1
          dsimp only at e1
          rw [evEs.eq_def] at e1
          cases e1
          exact ⟨ρ, L, M, d, _, r, p, z, fun v H1 L1 g1 p1 r1 => q [v] H1 L1 g1 p1 (RDs.one r1)⟩
        · cases h4
    · cases h
  | .agg g q, sc, fb, X, c, ex, h => by
    rw [ckE.eq_def] at h
    dsimp only at h
    split at h
    · rename_i a b x p y p' n pos' pos
      simp only [Bool.and_eq_true, decide_eq_true_eq] at h
      obtain ⟨⟨⟨⟨⟨rfl, h1⟩, rfl⟩, h2⟩, h3⟩, h4⟩ := h
      refine .plain (SE.cast (se_tupR1 c.calm (gl_of c h1) (blt_of c (by decide)) (gl_of c h2) (blt_of c (by decide)) (sndE a c _ h4).e (star_of h3)) (funext fun ρ => funext fun M => ?_)) rfl
      conv => rhs; rw [evE.eq_def]
      try dsimp only
      conv => rhs; rw [evQ.eq_def]
      try dsimp only
      conv => rhs; rw [evL.eq_def]
      try dsimp only
      cases evE Tb.Φ a ρ M with
      | none => rfl
      | some w =>
        obtain ⟨d, M1⟩ := w
        cases d with
        | int i =>
          dsimp only
          rw [if_neg (show ¬ (false = true) by decide)]
          by_cases z : (rngOk 0 i && decide (i.toNat ≤ lim)) = true
          · rw [if_pos z, if_pos z]; rfl
          · rw [if_neg z, if_neg z]
        | _ => rfl
    · rename_i hne
      simp only [Bool.and_eq_true, decide_eq_true_eq] at h
      obtain ⟨⟨⟨⟨⟨rfl, h1⟩, h2⟩, h3⟩, h4⟩, h5⟩ := h
      obtain ⟨n1, n2, n3⟩ := okName_of h3
      rcases aggB g h1 with ⟨id, v1, v2⟩ | ⟨t, v1, v2⟩
      · exact .plain (se_aggB v1 c.calm (gl_of c h2) (blt_of c (aggMem g)) v2 n3 n1 (sndQ q c _ h5) (star_of h4)) rfl
      · exact .plain (se_aggT v1 c.calm (gl_of c h2) (blt_of c (aggMem g)) v2 n3 n1 (sndQ q c _ h5) (star_of h4)) rfl
    · cases h
  | .mth m o es, sc, fb, X, c, ex, h => by
    rw [ckE.eq_def] at h; try dsimp only at h
    split at h
    · rename_i ob name apos as cpos
      simp only [Bool.and_eq_true, decide_eq_true_eq] at h
      obtain ⟨⟨⟨⟨⟨⟨rfl, h1⟩, h2⟩, h3⟩, h4⟩, h5⟩, h6⟩ := h
      obtain ⟨f1, f2, f3⟩ := mtFacts m h1
      have hm : m ≠ .remove := fun z => by rw [z] at h1; cases h1
      have hs := ckEs_star es _ h6
      have hE := sndEs es c _ h6
      cases as with
      | nil =>
        cases es with
        | nil => exact .plain (se_mth0 c.un hm f1 f2 f3 (sndE o c _ h5).e (base_of h2) h3) rfl
        | cons e es => rw [ckEs.eq_def] at h6; (try dsimp only at h6); cases h6
      | cons a as =>
        have hs' := hs
        simp only [List.all_cons, Bool.and_eq_true] at hs'
        exact .plain (se_mth c.un hm f1 f2 f3 (sndE o c _ h5).e hE (base_of h2) (few_of hs h4) h3 (star_of hs'.1) (plain_of hs'.2)) rfl
    · cases h
  | .ext o q, sc, fb, X, c, ex, h => by
    rw [ckE.eq_def] at h; try dsimp only at h
    split at h
    · rename_i ob name apos a cpos
      simp only [Bool.and_eq_true, decide_eq_true_eq] at h
      obtain ⟨⟨⟨⟨⟨rfl, h1⟩, h2⟩, h3⟩, h4⟩, h5⟩ := h
      exact .plain (se_ext (sndE o c _ h4).e (sndQ q c _ h5) (base_of h1) (few_of (by simp [h3]) (by simp)) h2 (star_of h3)) rfl
    · cases h
theorem sndEs : ∀ (es : Es) {sc : Scope} {fb : Str → Bool} {X : Cx} (c : Ctx Tb N sc fb X) (xs : List Expr), ckEs Tb.toTb0 N sc fb es xs = true → SA X xs (evEs Tb.Φ es)
  | .nil, sc, fb, X, c, xs, h => by
    rw [ckEs.eq_def] at h; try dsimp only at h
    split at h
    · exact sa_nil
    · cases h
  | .cons e es, sc, fb, X, c, xs, h => by
    rw [ckEs.eq_def] at h; try dsimp only at h
    split at h
    · simp only [Bool.and_eq_true] at h
      exact sa_cons (sndE e c _ h.1.2).e (sndEs es c _ h.2) (star_of h.1.1)
    · cases h
theorem sndO : ∀ (o : O) {sc : Scope} {fb : Str → Bool} {X : Cx} (c : Ctx Tb N sc fb X) (xs : List Expr), ckO Tb.toTb0 N sc fb o xs = true → STs X xs (evO Tb.Φ o)
  | .no, sc, fb, X, c, xs, h => by
    rw [ckO.eq_def] at h; try dsimp only at h
    split at h
    · exact sts_nil
    · cases h
  | .yes e, sc, fb, X, c, xs, h => by
    rw [ckO.eq_def] at h; try dsimp only at h
    split at h
    · exact sts_one (sndE e c _ h).b
    · cases h
theorem sndP : ∀ (o : O) {sc : Scope} {fb : Str → Bool} {X : Cx} (c : Ctx Tb N sc fb X) (x : Option Expr), ckP Tb.toTb0 N sc fb o x = true → SP' X x (evP Tb.Φ o)
  | .no, sc, fb, X, c, xs, h => by
    rw [ckP.eq_def] at h; try dsimp only at h
    split at h
    · exact sp_no
    · cases h
  | .yes e, sc, fb, X, c, xs, h => by
    rw [ckP.eq_def] at h; try dsimp only at h
    split at h
    · exact sp_yes (sndE e c _ h).e
    · cases h
theorem sndL : ∀ (l : L) {sc : Scope} {fb : Str → Bool} {X : Cx} (c : Ctx Tb N sc fb X) (ex : Expr), ckL Tb.toTb0 N sc fb l ex = true → SL X ex (evL Tb.Φ l)
  | .disp es, sc, fb, X, c, ex, h => by
    rw [ckL.eq_def] at h; try dsimp only at h
    split at h
    · exact sl_disp (sndEs es c _ h)
    · cases h
  | .comp own t it cd elt, sc, fb, X, c, ex, h => by
    rw [ckL.eq_def] at h; try dsimp only at h
    split at h
    · simp only [Bool.and_eq_true, decide_eq_true_eq, List.all_eq_true] at h
      obtain ⟨⟨⟨⟨⟨⟨⟨rfl, h1⟩, h2⟩, h3⟩, h4⟩, h5⟩, h6⟩, h7⟩ := h
      exact sl_comp c.calm (by rw [c.hN]; exact c.nd) (sndI it c _ _ h3) (blkOk_by (by rw [c.hN, c.sc]; exact h1)) h5 (fun s H C cl fp => sndT t (c.blk s H _ C cl fp) _ h4) (fun s H C cl fp => sndO cd (c.blk s H _ C cl fp) _ h6)
        (fun s H C cl fp => (sndE elt (c.blk s H _ C cl fp) _ h7).e) (fold_of h2)
    · cases h
  | .comp2 .., sc, fb, X, c, ex, h => by
    rw [ckL.eq_def] at h; try dsimp only at h
    cases h
  | .sorted q, sc, fb, X, c, ex, h => by
    rw [ckL.eq_def] at h; try dsimp only at h
    split at h
    · simp only [Bool.and_eq_true, decide_eq_true_eq] at h
      obtain ⟨⟨⟨rfl, h1⟩, h2⟩, h3⟩ := h
      exact sl_sorted (gl_of c h1) (blt_of c (by decide)) (sndQ q c _ h3) (star_of h2)
    · cases h
  | .sortedD e, sc, fb, X, c, ex, h => by
    rw [ckL.eq_def] at h; try dsimp only at h
    split at h
    · simp only [Bool.and_eq_true, decide_eq_true_eq] at h
      obtain ⟨⟨⟨rfl, h1⟩, h2⟩, h3⟩ := h
      exact sl_sortedD c.calm (gl_of c h1) (blt_of c (by decide)) (sndE e c _ h3).e (star_of h2)
    · cases h
  | .sortedSet _, sc, fb, X, c, ex, h => by
    rw [ckL.eq_def] at h; try dsimp only at h
    cases h
  | .list q, sc, fb, X, c, ex, h => by
    rw [ckL.eq_def] at h; try dsimp only at h
    split at h
    · simp only [Bool.and_eq_true, decide_eq_true_eq] at h
      obtain ⟨⟨⟨rfl, h1⟩, h2⟩, h3⟩ := h
      exact sl_list' (gl_of c h1) (blt_of c (by decide)) (sndQ q c _ h3) (star_of h2)
    · cases h
  | .listR a b two, sc, fb, X, c, ex, h => by
    rw [ckL.eq_def] at h; try dsimp only at h
    split at h
    · simp only [Bool.and_eq_true, decide_eq_true_eq, Bool.not_eq_true'] at h
      obtain ⟨⟨⟨⟨⟨⟨rfl, h1⟩, rfl⟩, h2⟩, h3⟩, rfl⟩, h4⟩ := h
      exact sl_listR1 c.calm (gl_of c h1) (blt_of c (by decide)) (gl_of c h2) (blt_of c (by decide)) (sndE a c _ h4).e (star_of h3)
    · simp only [Bool.and_eq_true, decide_eq_true_eq] at h
      obtain ⟨⟨⟨⟨⟨⟨⟨⟨rfl, h1⟩, rfl⟩, h2⟩, h3⟩, h3'⟩, rfl⟩, h4⟩, h5⟩ := h
      exact sl_listR2 c.calm (gl_of c h1) (blt_of c (by decide)) (gl_of c h2) (blt_of c (by decide)) (sndE a c _ h4).e (sndE b c _ h5).e (star_of h3) (star_of h3') (plain_of (by simp [h3']))
    · cases h
  | .slice q lo hi, sc, fb, X, c, ex, h => by
    rw [ckL.eq_def] at h; try dsimp only at h
    split at h
    · simp only [Bool.and_eq_true] at h
      obtain ⟨⟨h1, h2⟩, h3⟩ := h
      exact sl_slice (sndQ q c _ h1) (sndP lo c _ h2) (sndP hi c _ h3)
    · cases h
  | .rev q, sc, fb, X, c, ex, h => by
    rw [ckL.eq_def] at h; try dsimp only at h
    split at h
    · exact sl_rev (sndQ q c _ h)
    · cases h
  | .cat a b, sc, fb, X, c, ex, h => by
    rw [ckL.eq_def] at h; try dsimp only at h
    split at h
    · simp only [Bool.and_eq_true] at h
      exact sl_cat (sndQ a c _ h.1) (sndQ b c _ h.2)
    · cases h
  | .rep q n, sc, fb, X, c, ex, h => by
    rw [ckL.eq_def] at h; try dsimp only at h
    split at h
    · simp only [Bool.and_eq_true] at h
      exact sl_rep (sndQ q c _ h.1) (sndE n c _ h.2).e
    · cases h
theorem sndQ : ∀ (q : Q) {sc : Scope} {fb : Str → Bool} {X : Cx} (c : Ctx Tb N sc fb X) (ex : Expr), ckQ Tb.toTb0 N sc fb q ex = true → SQ X ex (evQ Tb.Φ q)
  | .val e, sc, fb, X, c, ex, h => by
    rw [ckQ.eq_def] at h; try dsimp only at h
    exact sq_val (sndE e c _ h).e
  | .lst l, sc, fb, X, c, ex, h => by
    rw [ckQ.eq_def] at h; try dsimp only at h
    exact sq_lst (sndL l c _ h)
theorem sndI : ∀ (i : I) {sc : Scope} {fb : Str → Bool} {X : Cx} (c : Ctx Tb N sc fb X) (tg ex : Expr), ckI Tb.toTb0 N sc fb i tg ex = true → SI X tg ex (evI Tb.Φ i)
  | .q q, sc, fb, X, c, tg, ex, h => by
    rw [ckI.eq_def] at h; try dsimp only at h
    exact si_q (sndQ q c _ h)
  | .rng1 a, sc, fb, X, c, tg, ex, h => by
    rw [ckI.eq_def] at h; try dsimp only at h
    split at h
    · simp only [Bool.and_eq_true, decide_eq_true_eq] at h
      obtain ⟨⟨⟨rfl, h1⟩, h2⟩, h3⟩ := h
      exact si_rng1 (gl_of c h1) (blt_of c (by decide)) (sndE a c _ h3).e (star_of h2)
    · cases h
  | .rng2 a b, sc, fb, X, c, tg, ex, h => by
    rw [ckI.eq_def] at h; try dsimp only at h
    split at h
    · simp only [Bool.and_eq_true, decide_eq_true_eq] at h
      obtain ⟨⟨⟨⟨⟨rfl, h1⟩, h2⟩, h2'⟩, h3⟩, h4⟩ := h
      exact si_rng2 (gl_of c h1) (blt_of c (by decide)) (sndE a c _ h3).e (sndE b c _ h4).e (star_of h2) (star_of h2')
    · cases h
  | .enum _, sc, fb, X, c, tg, ex, h => by
    rw [ckI.eq_def] at h; try dsimp only at h
    cases h
  | .zip _ _, sc, fb, X, c, tg, ex, h => by
    rw [ckI.eq_def] at h; try dsimp only at h
    cases h
  | .keys _, sc, fb, X, c, tg, ex, h => by
    rw [ckI.eq_def] at h; try dsimp only at h
    cases h
theorem sndT : ∀ (t : T) {sc : Scope} {fb : Str → Bool} {X : Cx} (c : Ctx Tb N sc fb X) (tg : Expr), ckT Tb.toTb0 N sc fb t tg = true → SG X tg (tslT t) (asT Tb.Φ t)
  | .name i, sc, fb, X, c, tg, h => by
    rw [ckT.eq_def] at h; try dsimp only at h
    split at h
    · simp only [Bool.and_eq_true, decide_eq_true_eq] at h
      obtain ⟨l1, l2⟩ := loc_of c h.2
      exact sg_name (by rw [c.hN]; exact c.nd) (by rw [c.hN]; exact h.1) l1 l2
    · cases h
  | .tup ts, sc, fb, X, c, tg, h => by
    rw [ckT.eq_def] at h; try dsimp only at h
    split at h
    · obtain ⟨h1, h2⟩ := ckTs_len ts _ h
      obtain ⟨h3, h4⟩ := h2 X.env
      exact sg_tup c.calm (sndTs ts c _ h) (lenTs ts) (fun ds ρ M r e => asTs_len ts ds ρ M r e) h3 h4
    · cases h
  | .sub o i, sc, fb, X, c, tg, h => by
    rw [ckT.eq_def] at h; try dsimp only at h
    split at h
    · rename_i a b pos
      simp only [Bool.and_eq_true] at h
      obtain ⟨⟨h1, h2⟩, h3⟩ := h
      refine sg_sub c.un (sndE o c _ h2).e (sndE i c _ h3).e fun v => ?_
      cases b <;> first | rfl | cases h1
    · cases h
theorem sndTs : ∀ (ts : Ts) {sc : Scope} {fb : Str → Bool} {X : Cx} (c : Ctx Tb N sc fb X) (tgs : List Expr), ckTs Tb.toTb0 N sc fb ts tgs = true → SGs X tgs (tslTs ts) (asTs Tb.Φ ts)
  | .nil, sc, fb, X, c, tgs, h => by
    rw [ckTs.eq_def] at h; try dsimp only at h
    split at h
    · exact sgs_nil.imp fun v σ H Q h => by
        obtain ⟨ρ, L, M, ds, ρ', M', r, p, rd, e, q⟩ := h
        refine ⟨ρ, L, M, ds, ρ', M', r, p, rd, ?_, q⟩
        cases ds with
        | nil => simpa [asTs] using e
        | cons d ds => simp [asTs] at e
    · cases h
  | .cons t ts, sc, fb, X, c, tgs, h => by
    rw [ckTs.eq_def] at h; try dsimp only at h
    split at h
    · simp only [Bool.and_eq_true] at h
      exact (sgs_cons (sndT t c _ h.1.2) (sndTs ts c _ h.2) (by rw [asg_of h.1.1]; rfl)).imp fun v σ H Q h => by
        obtain ⟨ρ, L, M, ds, ρ', M', r, p, rd, e, q⟩ := h
        refine ⟨ρ, L, M, ds, ρ', M', r, p, rd, ?_, q⟩
        cases ds with
        | nil => exact absurd e (by intro z; cases z)
        | cons d ds => exact e
    · cases h
end
end PS

set_option Elab.async false
set_option linter.all false
set_option maxRecDepth 100000
set_option maxHeartbeats 16000000
/-! PS15: a checked term of a statement. -/
namespace PS
open PySem PySem.Spec PyProof.Rows L2
/-- a, b = x, y: stored in the order of the names -/
def swapK (sc : Scope) (ts vs : List Expr) : Bool :=
  if !(ts.length == 2 || ts.length == 3) || vs.length != ts.length || false then true else
  if vs.any fun | .Starred .. => true | _ => false then true else
  let line := (ts.head?.map (·.pos.line)).getD 0
  let names := ts.filterMap fun
    | .Name id pos => if sc.names.lookup id == some .local && pos.line == line then some id else none
    | _ => none
  if names.length != ts.length || names.eraseDups.length != names.length then true else vs.all (foldedForSure 8)
def isTup : Expr → Bool
  | .Tuple .. => true
  | .List .. => true
  | _ => false
theorem sw_kind {env : PySem.Env} {sc : Scope} (hs : env.scope = sc) (hk : sc.kind = .function) : env.blockKind = .function := by
  unfold Env.blockKind
  rw [hs, hk]
  rfl
theorem swap_none {env : PySem.Env} {sc : Scope} (hs : env.scope = sc) (hk : sc.kind = .function) {ts vs : List Expr} {k1 k2 : Nat} {p1 p2 : Pos} (h : swapK sc ts vs = true) : swappedStores [.Tuple ts k1 p1] (.Tuple vs k2 p2) env = pure none := by
  unfold swappedStores
  unfold swapK at h
  have hb : (env.blockKind != ScopeKind.function) = false := by rw [sw_kind hs hk]; rfl
  simp only [hb]
  have hn : ∀ id, env.kindOf id = sc.names.lookup id := fun id => by rw [← hs]; rfl
  simp only [hn]
  split
  · rfl
  · rename_i h1
    rw [if_neg h1] at h
    try simp only [pure_bind]
    split
    · rfl
    · rename_i h2
      split at h
      · rename_i h2'
        exact absurd h2' h2
      · try dsimp only at h
        split
        · rfl
        · rename_i h3
          split at h
          · rename_i h3'
            exact absurd h3' h3
          · try simp only [pure_bind]
            rw [if_pos h]
theorem swap_one {env : PySem.Env} {tg e : Expr} (h : isTup tg = false) : swappedStores [tg] e env = pure none := by
  cases tg <;> first | rfl | cases h
theorem swap_val {env : PySem.Env} {tg e : Expr} (h : notTuple e = true) : swappedStores [tg] e env = pure none := by
  cases tg <;> cases e <;> first | rfl | cases h
theorem swap_two {env : PySem.Env} {sc : Scope} (hs : env.scope = sc) (hk : sc.kind = .function) {x y : Str} {px py : Pos} {a b : Expr} {k1 k2 : Nat} {p1 p2 : Pos} (hx : sc.names.lookup x = some .local) (hy : sc.names.lookup y = some .local) (hl : (py.line == px.line) = true) (hne : x ≠ y)
    (ha : notStar a = true) (hb : notStar b = true) (h1 : [a, b].all (foldedForSure 8) = false) (h2 : [a, b].all (constantsAlone 8) = false) :
    swappedStores [.Tuple [.Name x px, .Name y py] k1 p1] (.Tuple [a, b] k2 p2) env = pure (some [x, y]) := by
  unfold swappedStores
  have hb' : (env.blockKind != ScopeKind.function) = false := by rw [sw_kind hs hk]; rfl
  have hn : ∀ id, env.kindOf id = sc.names.lookup id := fun id => by rw [← hs]; rfl
  have hst : ([a, b].any fun | .Starred .. => true | _ => false) = false := by
    cases a <;> cases b <;> first | rfl | (cases ha; done) | (cases hb; done)
  have e1 : ([x, y].eraseDups.length != [x, y].length) = false := by
    have : [x, y].eraseDups = [x, y] := by
      have hq : ([y].filter fun b => !b == x) = [y] := by
        rw [List.filter_cons_of_pos (by simpa using fun e => hne e.symm)]
        rfl
      rw [List.eraseDups_cons, hq]
      rfl
    rw [this]
    simp
  simp only [hb', hn, hst, h1, h2]
  simp only [List.filterMap_cons, List.filterMap_nil, hx, hy, Expr.pos, List.head?_cons, Option.map_some, Option.getD_some, hl, beq_self_eq_true, Bool.and_self, if_true]
  rw [e1]
  split
  · rename_i z
    exact absurd z (by simp)
  · split
    · rename_i z
      exact absurd (z.symm.trans hst) (by decide)
    · rfl
theorem swT {env : PySem.Env} {sc : Scope} (hs : env.scope = sc) (hk : sc.kind = .function) {e : Expr} {scope : Scope} {y : Str} {py : Pos} {l : Nat} (he : (match e with
    | .ListComp _ _ s _ | .SetComp _ _ s _ | .DictComp _ _ _ s _ => some s
    | _ => none) = some scope) : swapsWith e (some (.Name y py)) l env = pure (sc.names.lookup y == some .local && py.line == e.pos.line && !(scope.names.any fun (n, k) => n == y && (k == .local || k == .cell))) := by
  have hb : (env.blockKind == ScopeKind.function) = true := by rw [sw_kind hs hk]; rfl
  have hn : env.kindOf y = sc.names.lookup y := by rw [← hs]; rfl
  cases e <;> first | (cases he; done) | (cases he; unfold swapsWith; simp only [hb, hn, Bool.true_and]; try rfl)

variable (Tb : Tb0) (N : List Str)
/-- whether the comprehension's list is stored as it comes -/
def sws (sc : Scope) (scope : Scope) (y : Str) (py pos : Pos) : Bool := sc.names.lookup y == some .local && py.line == pos.line && !(scope.names.any fun (n, k) => n == y && (k == .local || k == .cell))
mutual
def ckS (sc : Scope) (fb : Str → Bool) : S → Stmt → Bool
  | .asg t e, st => match st with
    | .Assign [tg] v pos => ckE Tb N sc fb e v && ckT Tb N sc fb t tg && (match v, tg with
      | .ListComp _ _ scope cpos, .Name y py => !sws sc scope y py cpos || (decide (N[(tslT t).headD 0]? = some y) && decide (sc.names.lookup y = some .local))
      | .DictComp _ _ _ scope cpos, .Name y py => !sws sc scope y py cpos || (decide (N[(tslT t).headD 0]? = some y) && decide (sc.names.lookup y = some .local))
      | .Tuple vs _ _, .Tuple ts _ _ => swapK sc ts vs || (match ts, vs with
        | [.Name x px, .Name y py], [a, b] => decide (sc.names.lookup x = some .local) && decide (sc.names.lookup y = some .local) && (py.line == px.line) && decide (x ≠ y) && notStar a && notStar b && ![a, b].all (foldedForSure 8) && ![a, b].all (constantsAlone 8)
        | _, _ => false)
      | v, tg => notComp v && (notTuple v || !isTup tg)) && notStar tg
    | _ => false
  | .aug i o e, st => match st with
    | .AugAssign (.Name x _) o' v pos => decide (o = o') && decide (N[i]? = some x) && isLoc sc fb x && ckE Tb N sc fb e v
    | _ => false
  | .augS .., _ => false
  | .ex e, st => match st with
    | .Expr v pos => notComp v && ckE Tb N sc fb e v
    | _ => false
  | .ife c a b, st => match st with
    | .If t x y _ => ckE Tb N sc fb c t && ckSs sc fb a x && ckSs sc fb b y
    | _ => false
  | .whl c b, st => match st with
    | .While t x [] _ => ckE Tb N sc fb c t && ckSs sc fb b x
    | _ => false
  | .fr t it b, st => match st with
    | .For tg iter x [] _ => notSet iter && ckI Tb N sc fb it tg iter && ckT Tb N sc fb t tg && ckSs sc fb b x
    | _ => false
  | .ret e, st => match st with
    | .Return (some v) _ => ckE Tb N sc fb e v
    | _ => false
  | .retN, st => match st with
    | .Return none _ => true
    | _ => false
  | .brk, st => match st with
    | .Break _ => true
    | _ => false
  | .cnt, st => match st with
    | .Continue _ => true
    | _ => false
  | .pass, st => match st with
    | .Pass _ => true
    | _ => false
def ckSs (sc : Scope) (fb : Str → Bool) : Ss → List Stmt → Bool
  | .nil, xs => match xs with
    | [] => true
    | _ => false
  | .cons s ss, xs => match xs with
    | x :: xs => ckS sc fb s x && ckSs sc fb ss xs
    | [] => false
end
end PS

set_option Elab.async false
set_option linter.all false
set_option maxRecDepth 100000
set_option maxHeartbeats 16000000
/-! PS16: soundness of the statements' check. -/
namespace PS
open PySem PySem.Spec PyProof.Rows L2
variable {Tb : Tbl} {N : List Str}
theorem ckE_lc {sc : Scope} {fb : Str → Bool} {e : E} {x : Expr} {gs : List Comprehension} {scope : Scope} {pos : Pos} (h : ckE Tb.toTb0 N sc fb e (.ListComp x gs scope pos) = true) :
    ∃ own t it c elt, e = .ofL (.comp own t it c elt) ∧ ckL Tb.toTb0 N sc fb (.comp own t it c elt) (.ListComp x gs scope pos) = true := by
  rw [ckE.eq_def] at h
  cases e with
  | ofL l =>
    try dsimp only at h
    cases l with
    | comp own t it c elt => exact ⟨own, t, it, c, elt, rfl, h⟩
    | _ => rw [ckL.eq_def] at h; exact absurd h Bool.false_ne_true
  | agg g q =>
    try dsimp only at h
    split at h
    · rename_i z; cases z
    · rename_i z; cases z
    · cases h
  | _ => exact absurd h Bool.false_ne_true
theorem ckE_dc {sc : Scope} {fb : Str → Bool} {e : E} {x y : Expr} {gs : List Comprehension} {scope : Scope} {pos : Pos} (h : ckE Tb.toTb0 N sc fb e (.DictComp x y gs scope pos) = true) :
    ∃ own t it c k v, e = .dctC own t it c k v ∧ ckE Tb.toTb0 N sc fb (.dctC own t it c k v) (.DictComp x y gs scope pos) = true := by
  cases e with
  | dctC own t it c k v => exact ⟨own, t, it, c, k, v, rfl, h⟩
  | ofL l =>
    rw [ckE.eq_def] at h
    try dsimp only at h
    rw [ckL.eq_def] at h
    cases l <;> exact absurd h Bool.false_ne_true
  | agg g q =>
    rw [ckE.eq_def] at h
    try dsimp only at h
    split at h
    · rename_i z; cases z
    · rename_i z; cases z
    · cases h
  | _ => rw [ckE.eq_def] at h; exact absurd h Bool.false_ne_true
theorem sw_sws {env : PySem.Env} {sc : Scope} (hs : env.scope = sc) (hk : sc.kind = .function) {x : Expr} {gs : List Comprehension} {scope : Scope} {y : Str} {py cpos : Pos} {l : Nat} :
    swapsWith (.ListComp x gs scope cpos) (some (.Name y py)) l env = pure (sws sc scope y py cpos) := swT hs hk rfl
theorem sw_swsD {env : PySem.Env} {sc : Scope} (hs : env.scope = sc) (hk : sc.kind = .function) {x z : Expr} {gs : List Comprehension} {scope : Scope} {y : Str} {py cpos : Pos} {l : Nat} :
    swapsWith (.DictComp x z gs scope cpos) (some (.Name y py)) l env = pure (sws sc scope y py cpos) := swT hs hk rfl
theorem ckT_name {sc : Scope} {fb : Str → Bool} {t : T} {y : Str} {py : Pos} (h : ckT Tb.toTb0 N sc fb t (.Name y py) = true) : ∃ i, t = .name i := by
  rw [ckT.eq_def] at h
  cases t with
  | name i => exact ⟨i, rfl⟩
  | _ => exact absurd h Bool.false_ne_true
theorem asg_lc {W : Nat} {own : List (Str × Nat)} {t : T} {it : I} {c : O} {elt : E} {i : Nat} : (fun (ρ : Env) (M : Store) => match lcF (evI Tb.Φ it) (asT Tb.Φ t) (evO Tb.Φ c) (evE Tb.Φ elt) (own.map (·.2)) ρ M with
      | some (ds, M1) => if i < ρ.length then some (Out.nx, ρ.set i (some (D.ref M1.length)), M1 ++ [MO.lst ds]) else none
      | none => none) = exS Tb.Φ W (.asg (.name i) (.ofL (.comp own t it c elt))) := by
  funext ρ M
  rw [exS.eq_def]
  try dsimp only
  conv => rhs; rw [evE.eq_def]
  try dsimp only
  conv => rhs; rw [evL.eq_def]
  try dsimp only
  unfold lcF
  cases evI Tb.Φ it ρ M with
  | none => rfl
  | some w =>
    obtain ⟨ok, ds, M1⟩ := w
    try dsimp only
    show (match compG ok (turnC (asT Tb.Φ t) (evO Tb.Φ c) (evE Tb.Φ elt) (wipeD ρ (own.map (·.2)))) ds [] M1 with
      | some (ds, M1) => if i < ρ.length then some (Out.nx, ρ.set i (some (D.ref M1.length)), M1 ++ [MO.lst ds]) else none
      | none => none) = (match (match compG ok (turnC (asT Tb.Φ t) (evO Tb.Φ c) (evE Tb.Φ elt) (wipeD ρ (own.map (·.2)))) ds [] M1 with
      | some (ds, M1) => some (D.ref M1.length, M1 ++ [MO.lst ds])
      | none => none) with
      | some (d, M1) => match asT Tb.Φ (.name i) d ρ M1 with
        | some (ρ1, M2) => some (Out.nx, ρ1, M2)
        | none => none
      | none => none)
    cases compG ok (turnC (asT Tb.Φ t) (evO Tb.Φ c) (evE Tb.Φ elt) (wipeD ρ (own.map (·.2)))) ds [] M1 with
    | none => rfl
    | some w =>
      obtain ⟨ds, M1⟩ := w
      try dsimp only
      rw [asT.eq_def]
      try dsimp only
      by_cases z : i < ρ.length
      · rw [if_pos z, if_pos z]
      · rw [if_neg z, if_neg z]
theorem asg_dc {W : Nat} {own : List (Str × Nat)} {t : T} {it : I} {c : O} {k v : E} {i : Nat} : (fun (ρ : Env) (M : Store) => match dcF (evI Tb.Φ it) (asT Tb.Φ t) (evO Tb.Φ c) (evE Tb.Φ k) (evE Tb.Φ v) (own.map (·.2)) ρ M with
      | some (ds, M1) => if i < ρ.length then some (Out.nx, ρ.set i (some (D.ref M1.length)), M1 ++ [MO.dK ds]) else none
      | none => none) = exS Tb.Φ W (.asg (.name i) (.dctC own t it c k v)) := by
  funext ρ M
  rw [exS.eq_def]
  try dsimp only
  conv => rhs; rw [evE.eq_def]
  try dsimp only
  unfold dcF
  cases evI Tb.Φ it ρ M with
  | none => rfl
  | some w =>
    obtain ⟨ok, ds, M1⟩ := w
    try dsimp only
    show (match dcG ok (turnD (asT Tb.Φ t) (evO Tb.Φ c) (evE Tb.Φ k) (evE Tb.Φ v) (wipeD ρ (own.map (·.2)))) ds [] M1 with
      | some (ds, M1) => if i < ρ.length then some (Out.nx, ρ.set i (some (D.ref M1.length)), M1 ++ [MO.dK ds]) else none
      | none => none) = (match (match dcG ok (turnD (asT Tb.Φ t) (evO Tb.Φ c) (evE Tb.Φ k) (evE Tb.Φ v) (wipeD ρ (own.map (·.2)))) ds [] M1 with
      | some (ds, M1) => some (D.ref M1.length, M1 ++ [MO.dK ds])
      | none => none) with
      | some (d, M1) => match asT Tb.Φ (.name i) d ρ M1 with
        | some (ρ1, M2) => some (Out.nx, ρ1, M2)
        | none => none
      | none => none)
    cases dcG ok (turnD (asT Tb.Φ t) (evO Tb.Φ c) (evE Tb.Φ k) (evE Tb.Φ v) (wipeD ρ (own.map (·.2)))) ds [] M1 with
    | none => rfl
    | some w =>
      obtain ⟨ds, M1⟩ := w
      try dsimp only
      rw [asT.eq_def]
      try dsimp only
      by_cases z : i < ρ.length
      · rw [if_pos z, if_pos z]
      · rw [if_neg z, if_neg z]

theorem SS.cast {X : Cx} {st : Stmt} {f g : Env → Store → Option (Out × Env × Store)} (h : SS X st f) (e : f = g) : SS X st g := by
  subst e
  exact h
theorem SSs.cast {X : Cx} {st : List Stmt} {f g : Env → Store → Option (Out × Env × Store)} (h : SSs X st f) (e : f = g) : SSs X st g := by
  subst e
  exact h
theorem never_of {sc : Scope} {fb : Str → Bool} {X : Cx} (c : Ctx Tb N sc fb X) : PassesOwn (model X.prog X.w) X.A X.env X.xe := by
  rw [c.xe]
  exact PassesOwn.never
theorem evEs_len {Φ : Nat → Fn} : ∀ (es : Es) (xs : List Expr) {sc : Scope} {fb : Str → Bool} (h : ckEs Tb.toTb0 N sc fb es xs = true) (ρ : Env) (M : Store) (r : List D × Store), evEs Φ es ρ M = some r → r.1.length = xs.length
  | .nil, xs, sc, fb, h, ρ, M, r, e => by
    rw [ckEs.eq_def] at h; try dsimp only at h
    split at h
    · rw [evEs.eq_def] at e
      cases e
      rfl
    · cases h
  | .cons a as, xs, sc, fb, h, ρ, M, r, e => by
    rw [ckEs.eq_def] at h; try dsimp only at h
    split at h
    · simp only [Bool.and_eq_true] at h
      rw [evEs.eq_def] at e
      try dsimp only at e
      split at e
      · split at e
        · rename_i e2
          cases e
          have := evEs_len as _ h.2 _ _ _ e2
          simp [this]
        · cases e
      · cases e
    · cases h
theorem asg_lcS {W : Nat} {sc : Scope} {fb : Str → Bool} {X : Cx} (c : Ctx Tb N sc fb X) (hk : sc.kind = .function) {t : T} {e : E} {x : Expr} {gs : List Comprehension} {scope : Scope} {cpos py pos : Pos} {y : Str}
    (hE : ckE Tb.toTb0 N sc fb e (.ListComp x gs scope cpos) = true) (hT : ckT Tb.toTb0 N sc fb t (.Name y py) = true) (hs : sws sc scope y py cpos = true) (hy : N[(tslT t).headD 0]? = some y) (hl : sc.names.lookup y = some .local) :
    SS X (.Assign [.Name y py] (.ListComp x gs scope cpos) pos) (exS Tb.Φ W (.asg t e)) := by
  obtain ⟨own, t', it, cd, elt, rfl, h⟩ := ckE_lc hE
  obtain ⟨i, rfl⟩ := ckT_name hT
  rw [ckL.eq_def] at h; try dsimp only at h
  cases gs with
  | nil => exact absurd h Bool.false_ne_true
  | cons g gs =>
  obtain ⟨tg, iter, ifs, as⟩ := g
  cases gs with
  | cons _ _ => exact absurd h Bool.false_ne_true
  | nil =>
    try dsimp only at h
    simp only [Bool.and_eq_true, decide_eq_true_eq, List.all_eq_true] at h
    obtain ⟨⟨⟨⟨⟨⟨⟨rfl, h1⟩, h2⟩, h3⟩, h4⟩, h5⟩, h6⟩, h7⟩ := h
    have hy : N[i]? = some y := hy
    exact (ss_setLc c.calm (by rw [c.hN]; exact c.nd) (by rw [c.hN]; exact hy) (by rw [c.sc]; exact hl) (by rw [sw_sws c.sc hk, hs]) (sndI it c _ _ h3) (blkOk_by (by rw [c.hN, c.sc]; exact h1)) h5 (fun s H C cl fp => sndT t' (c.blk s H _ C cl fp) _ h4) (fun s H C cl fp => sndO cd (c.blk s H _ C cl fp) _ h6)
        (fun s H C cl fp => (sndE elt (c.blk s H _ C cl fp) _ h7).e) (fold_of h2)).cast asg_lc
theorem asg_dcS {W : Nat} {sc : Scope} {fb : Str → Bool} {X : Cx} (c : Ctx Tb N sc fb X) (hk : sc.kind = .function) {t : T} {e : E} {x x2 : Expr} {gs : List Comprehension} {scope : Scope} {cpos py pos : Pos} {y : Str}
    (hE : ckE Tb.toTb0 N sc fb e (.DictComp x x2 gs scope cpos) = true) (hT : ckT Tb.toTb0 N sc fb t (.Name y py) = true) (hs : sws sc scope y py cpos = true) (hy : N[(tslT t).headD 0]? = some y) (hl : sc.names.lookup y = some .local) :
    SS X (.Assign [.Name y py] (.DictComp x x2 gs scope cpos) pos) (exS Tb.Φ W (.asg t e)) := by
  obtain ⟨own, t', it, cd, k, v, rfl, h⟩ := ckE_dc hE
  obtain ⟨i, rfl⟩ := ckT_name hT
  rw [ckE.eq_def] at h; try dsimp only at h
  cases gs with
  | nil => exact absurd h Bool.false_ne_true
  | cons g gs =>
  obtain ⟨tg, iter, ifs, as⟩ := g
  cases gs with
  | cons _ _ => exact absurd h Bool.false_ne_true
  | nil =>
    try dsimp only at h
    simp only [Bool.and_eq_true, decide_eq_true_eq, List.all_eq_true] at h
    obtain ⟨⟨⟨⟨⟨⟨⟨⟨rfl, h1⟩, h2⟩, h3⟩, h4⟩, h5⟩, h6⟩, h7⟩, h8⟩ := h
    have hy : N[i]? = some y := hy
    exact (ss_setDc c.calm (by rw [c.hN]; exact c.nd) (by rw [c.hN]; exact hy) (by rw [c.sc]; exact hl) (by rw [sw_swsD c.sc hk, hs]) (sndI it c _ _ h3) (blkOk_by (by rw [c.hN, c.sc]; exact h1)) h5 (fun s H C cl fp => sndT t' (c.blk s H _ C cl fp) _ h4) (fun s H C cl fp => sndO cd (c.blk s H _ C cl fp) _ h6)
        (fun s H C cl fp => (sndE k (c.blk s H _ C cl fp) _ h7).e) (fun s H C cl fp => (sndE v (c.blk s H _ C cl fp) _ h8).e) (fold_of h2)).cast asg_dc
/-- a, b = x, y -/
theorem asg_par {W : Nat} {sc : Scope} {fb : Str → Bool} {X : Cx} (c : Ctx Tb N sc fb X) (hk : sc.kind = .function) {t : T} {e : E} {a b : Expr} {x y : Str} {px py pt pt2 pos : Pos} {kt k2 : Nat}
    (hE : ckE Tb.toTb0 N sc fb e (.Tuple [a, b] k2 pt2) = true) (hT : ckT Tb.toTb0 N sc fb t (.Tuple [.Name x px, .Name y py] kt pt) = true) (hx : sc.names.lookup x = some .local) (hy : sc.names.lookup y = some .local)
    (hl : (py.line == px.line) = true) (hne : x ≠ y) (ha : notStar a = true) (hb : notStar b = true) (h1 : [a, b].all (foldedForSure 8) = false) (h2 : [a, b].all (constantsAlone 8) = false) :
    SS X (.Assign [.Tuple [.Name x px, .Name y py] kt pt] (.Tuple [a, b] k2 pt2) pos) (exS Tb.Φ W (.asg t e)) := by
  have e1 : ∃ i j, t = .tup (.cons (.name i) (.cons (.name j) .nil)) ∧ N[i]? = some x ∧ N[j]? = some y := by
    rw [ckT.eq_def] at hT
    cases t with
    | tup ts =>
      try dsimp only at hT
      rw [ckTs.eq_def] at hT
      cases ts with
      | nil => exact absurd hT Bool.false_ne_true
      | cons t1 ts =>
        try dsimp only at hT
        simp only [Bool.and_eq_true] at hT
        obtain ⟨⟨-, z1⟩, z2⟩ := hT
        obtain ⟨i, rfl⟩ := ckT_name z1
        rw [ckTs.eq_def] at z2
        cases ts with
        | nil => exact absurd z2 Bool.false_ne_true
        | cons t2 ts =>
          try dsimp only at z2
          simp only [Bool.and_eq_true] at z2
          obtain ⟨⟨-, z3⟩, z4⟩ := z2
          obtain ⟨j, rfl⟩ := ckT_name z3
          rw [ckTs.eq_def] at z4
          cases ts with
          | nil =>
            rw [ckT.eq_def] at z1 z3
            try dsimp only at z1 z3
            simp only [Bool.and_eq_true, decide_eq_true_eq] at z1 z3
            exact ⟨i, j, rfl, z1.1, z3.1⟩
          | cons _ _ => exact absurd z4 Bool.false_ne_true
    | _ => exact absurd hT Bool.false_ne_true
  obtain ⟨i, j, rfl, hi, hj⟩ := e1
  have e2 : ∃ es, e = .tup es ∧ ckEs Tb.toTb0 N sc fb es [a, b] = true := by
    rw [ckE.eq_def] at hE
    cases e with
    | tup es => exact ⟨es, rfl, hE⟩
    | ofL l =>
      try dsimp only at hE
      rw [ckL.eq_def] at hE
      cases l <;> exact absurd hE Bool.false_ne_true
    | agg g q =>
      try dsimp only at hE
      split at hE
      · rename_i z; cases z
      · rename_i z; cases z
      · cases hE
    | _ => exact absurd hE Bool.false_ne_true
  obtain ⟨es, rfl, hEs⟩ := e2
  have hij : i ≠ j := by
    intro z
    subst z
    rw [hi] at hj
    cases hj
    exact hne rfl
  refine (ss_par c.calm (by rw [c.hN]; exact c.nd) (by rw [c.hN]; exact hi) (by rw [c.hN]; exact hj) hij (by rw [c.sc]; exact hx) (by rw [c.sc]; exact hy) (sndEs es c _ hEs) (swap_two c.sc hk hx hy hl hne ha hb h1 h2) rfl
    (fun ρ M ds M1 e => evEs_len es _ hEs ρ M _ e)).cast ?_
  funext ρ M
  rw [exS.eq_def]
  try dsimp only
  conv => rhs; rw [evE.eq_def]
  try dsimp only
  cases z : evEs Tb.Φ es ρ M with
  | none => rfl
  | some w =>
    obtain ⟨ds, M1⟩ := w
    have hl := evEs_len es _ hEs ρ M _ z
    match ds, hl with
    | [d1, d2], _ =>
      try dsimp only
      have : [d1, d2].length ≤ lim := (show 2 ≤ lim by decide)
      rw [if_pos this]
      try dsimp only
      rw [asT.eq_def]
      try dsimp only
      rw [asTs.eq_def]
      try dsimp only
      rw [asT.eq_def]
      try dsimp only
      by_cases q1 : i < ρ.length
      · rw [if_pos q1]
        try dsimp only
        rw [asTs.eq_def]
        try dsimp only
        rw [asT.eq_def]
        try dsimp only
        have : (ρ.set i (some d1)).length = ρ.length := by simp
        rw [this]
        by_cases q2 : j < ρ.length
        · rw [if_pos ⟨q1, q2⟩, if_pos q2]
          try dsimp only
          rw [asTs.eq_def]
        · rw [if_neg q2, if_neg fun z => q2 z.2]
      · rw [if_neg q1, if_neg fun z => q1 z.1]
mutual
theorem sndS (W : Nat) : ∀ (s : S) {sc : Scope} {fb : Str → Bool} {X : Cx} (c : Ctx Tb N sc fb X) (hk : sc.kind = .function) (st : Stmt), ckS Tb.toTb0 N sc fb s st = true → SS X st (exS Tb.Φ W s)
  | .asg t e, sc, fb, X, c, hk, st, h => by
    rw [ckS.eq_def] at h; try dsimp only at h
    split at h
    · rename_i tg v pos
      simp only [Bool.and_eq_true] at h
      obtain ⟨⟨⟨hE, hT⟩, hm⟩, hn⟩ := h
      have gen : swapsWithSole [tg] v pos.line X.env = pure false → swappedStores [tg] v X.env = pure none → SS X (.Assign [tg] v pos) (exS Tb.Φ W (.asg t e)) := fun hs hw => by
        refine (ss_asg (sndE e c v hE).e (sndT t c tg hT) hs hw (by rw [asg_of hn]; rfl)).cast ?_
        funext ρ M
        rw [exS.eq_def]
        try rfl
      split at hm
      · rename_i x gs scope cpos y py
        by_cases z : sws sc scope y py cpos = true
        · rw [z] at hm
          simp only [Bool.not_true, Bool.false_or, Bool.and_eq_true, decide_eq_true_eq] at hm
          exact asg_lcS c hk hE hT z hm.1 hm.2
        · exact gen ((sw_sws (l := pos.line) c.sc hk).trans (by rw [Bool.eq_false_iff.mpr z])) (swap_one rfl)
      · rename_i x x2 gs scope cpos y py
        by_cases z : sws sc scope y py cpos = true
        · rw [z] at hm
          simp only [Bool.not_true, Bool.false_or, Bool.and_eq_true, decide_eq_true_eq] at hm
          exact asg_dcS c hk hE hT z hm.1 hm.2
        · exact gen ((sw_swsD (l := pos.line) c.sc hk).trans (by rw [Bool.eq_false_iff.mpr z])) (swap_one rfl)
      · rename_i vs _ _ ts _ _
        simp only [Bool.or_eq_true] at hm
        rcases hm with hm | hm
        · exact gen rfl (swap_none c.sc hk hm)
        · split at hm
          · simp only [Bool.and_eq_true, Bool.not_eq_true', decide_eq_true_eq] at hm
            obtain ⟨⟨⟨⟨⟨⟨⟨m1, m2⟩, m3⟩, m4⟩, m5⟩, m6⟩, m7⟩, m8⟩ := hm
            exact asg_par c hk hE hT m1 m2 m3 m4 m5 m6 m7 m8
          · cases hm
      · simp only [Bool.and_eq_true, Bool.or_eq_true, Bool.not_eq_true'] at hm
        refine gen (swap_of hm.1) ?_
        rcases hm.2 with q | q
        · exact swap_val q
        · exact swap_one q
    · cases h
  | .aug i o e, sc, fb, X, c, hk, st, h => by
    rw [ckS.eq_def] at h; try dsimp only at h
    split at h
    · simp only [Bool.and_eq_true, decide_eq_true_eq] at h
      obtain ⟨⟨⟨rfl, h1⟩, h2⟩, h3⟩ := h
      obtain ⟨l1, l2⟩ := loc_of c h2
      refine (ss_aug (by rw [c.hN]; exact c.nd) (by rw [c.hN]; exact h1) l1 l2 (sndE e c _ h3).e).cast ?_
      funext ρ M
      rw [exS.eq_def]
      try rfl
    · cases h
  | .augS .., sc, fb, X, c, hk, st, h => by
    rw [ckS.eq_def] at h; try dsimp only at h
    cases h
  | .ex e, sc, fb, X, c, hk, st, h => by
    rw [ckS.eq_def] at h; try dsimp only at h
    split at h
    · simp only [Bool.and_eq_true] at h
      refine (ss_ex (sndE e c _ h.2).e (swap_of h.1)).cast ?_
      funext ρ M
      rw [exS.eq_def]
      try rfl
    · cases h
  | .ife t a b, sc, fb, X, c, hk, st, h => by
    rw [ckS.eq_def] at h; try dsimp only at h
    split at h
    · simp only [Bool.and_eq_true] at h
      refine (ss_if (sndE t c _ h.1.1).b (sndSs W a c hk _ h.1.2) (sndSs W b c hk _ h.2)).cast ?_
      funext ρ M
      rw [exS.eq_def]
      try rfl
    · cases h
  | .whl t b, sc, fb, X, c, hk, st, h => by
    rw [ckS.eq_def] at h; try dsimp only at h
    split at h
    · simp only [Bool.and_eq_true] at h
      refine (ss_while (W := W) (never_of c) (sndE t c _ h.1).b (sndSs W b c hk _ h.2)).cast ?_
      funext ρ M
      rw [exS.eq_def]
      try rfl
    · cases h
  | .fr t it b, sc, fb, X, c, hk, st, h => by
    rw [ckS.eq_def] at h; try dsimp only at h
    split at h
    · simp only [Bool.and_eq_true] at h
      obtain ⟨⟨⟨h1, h2⟩, h3⟩, h4⟩ := h
      refine (ss_for (never_of c) c.calm (sndI it c _ _ h2) (sndT t c _ h3) (sndSs W b c hk _ h4) (fold_of h1)).cast ?_
      funext ρ M
      rw [exS.eq_def]
      try rfl
    · cases h
  | .ret e, sc, fb, X, c, hk, st, h => by
    rw [ckS.eq_def] at h; try dsimp only at h
    split at h
    · refine (ss_ret (sndE e c _ h).e).cast ?_
      funext ρ M
      rw [exS.eq_def]
      try rfl
    · cases h
  | .retN, sc, fb, X, c, hk, st, h => by
    rw [ckS.eq_def] at h; try dsimp only at h
    split at h
    · refine ss_retN.cast ?_
      funext ρ M
      rw [exS.eq_def]
      try rfl
    · cases h
  | .brk, sc, fb, X, c, hk, st, h => by
    rw [ckS.eq_def] at h; try dsimp only at h
    split at h
    · refine ss_brk.cast ?_
      funext ρ M
      rw [exS.eq_def]
      try rfl
    · cases h
  | .cnt, sc, fb, X, c, hk, st, h => by
    rw [ckS.eq_def] at h; try dsimp only at h
    split at h
    · refine ss_cnt.cast ?_
      funext ρ M
      rw [exS.eq_def]
      try rfl
    · cases h
  | .pass, sc, fb, X, c, hk, st, h => by
    rw [ckS.eq_def] at h; try dsimp only at h
    split at h
    · refine ss_pass.cast ?_
      funext ρ M
      rw [exS.eq_def]
      try rfl
    · cases h
theorem sndSs (W : Nat) : ∀ (s : Ss) {sc : Scope} {fb : Str → Bool} {X : Cx} (c : Ctx Tb N sc fb X) (hk : sc.kind = .function) (st : List Stmt), ckSs Tb.toTb0 N sc fb s st = true → SSs X st (exSs Tb.Φ W s)
  | .nil, sc, fb, X, c, hk, st, h => by
    rw [ckSs.eq_def] at h; try dsimp only at h
    split at h
    · refine sss_nil.cast ?_
      funext ρ M
      rw [exSs.eq_def]
      try rfl
    · cases h
  | .cons s ss, sc, fb, X, c, hk, st, h => by
    rw [ckSs.eq_def] at h; try dsimp only at h
    split at h
    · simp only [Bool.and_eq_true] at h
      refine (sss_cons (sndS W s c hk _ h.1) (sndSs W ss c hk _ h.2)).cast ?_
      funext ρ M
      rw [exSs.eq_def]
      try rfl
    · cases h
end
end PS

set_option Elab.async false
set_option linter.all false
set_option maxRecDepth 100000
set_option maxHeartbeats 8000000
/-! PS17: what a call leaves behind, and the promise of every def of the text. -/
namespace PS
open PySem PySem.Spec PyProof.Rows L2

section
variable {K : PySem.W.Frag} {H H1 H' : Hp} {L L1 L' : List Place} {M M' : Store} {d : D} {v : V} {Q : VK}
mutual
theorem RD.shr {t : List Place} : ∀ (d : D) (v : V), closedD L.length d = true → RD K H (L ++ t) d v → RD K H L d v
  | .non, _, _, h => h
  | .bl _, _, _, h => h
  | .int _, _, _, h => h
  | .str _, _, _, h => h
  | .tup ds, v, c, h => by
    obtain ⟨a, xs, e, h1, h2⟩ := h
    exact ⟨a, xs, e, h1, RDs.shr ds xs (by simpa [closedD] using c) h2⟩
  | .ref n, v, c, h => by
    obtain ⟨a, e, h1⟩ := h
    have hn : n < L.length := by simpa [closedD] using c
    exact ⟨a, by rw [List.getElem?_append_left hn] at e; exact e, h1⟩
theorem RDs.shr {t : List Place} : ∀ (ds : List D) (xs : List V), closedDs L.length ds = true → RDs K H (L ++ t) ds xs → RDs K H L ds xs
  | [], _, _, h => h
  | d :: ds, xs, c, h => by
    obtain ⟨v, vs, e, h1, h2⟩ := h
    simp only [closedDs, Bool.and_eq_true] at c
    exact ⟨v, vs, e, RD.shr d v c.1 h1, RDs.shr ds vs c.2 h2⟩
end
mutual
theorem RD.closed : ∀ (d : D) (v : V), RD K H L d v → closedD L.length d = true
  | .non, _, h => rfl
  | .bl _, _, h => rfl
  | .int _, _, h => rfl
  | .str _, _, h => rfl
  | .tup ds, v, h => by
    obtain ⟨a, xs, e, h1, h2⟩ := h
    simpa [closedD] using RDs.closed ds xs h2
  | .ref n, v, h => by
    obtain ⟨a, e, h1⟩ := h
    simpa [closedD] using (List.getElem?_eq_some_iff.mp e).1
theorem RDs.closed : ∀ (ds : List D) (xs : List V), RDs K H L ds xs → closedDs L.length ds = true
  | [], _, h => rfl
  | d :: ds, xs, h => by
    obtain ⟨v, vs, e, h1, h2⟩ := h
    simp only [closedDs, Bool.and_eq_true]
    exact ⟨RD.closed d v h1, RDs.closed ds vs h2⟩
end
theorem RKs.shr {κ : Type} {t : List Place} : ∀ {kvs : List (κ × D)} {ks : List (κ × V)}, (kvs.all fun kv => closedD L.length kv.2) = true → RKs K H (L ++ t) kvs ks → RKs K H L kvs ks
  | _, _, _, .nil => .nil
  | p :: kvs, q :: ks, c, .cons r t => by
    simp only [List.all_cons, Bool.and_eq_true] at c
    exact .cons ⟨r.1, RD.shr _ _ c.1 r.2⟩ (RKs.shr c.2 t)
theorem RKs.closed {κ : Type} : ∀ {kvs : List (κ × D)} {ks : List (κ × V)}, RKs K H L kvs ks → (kvs.all fun kv => closedD L.length kv.2) = true
  | _, _, .nil => rfl
  | p :: kvs, q :: ks, .cons r t => by
    simp only [List.all_cons, Bool.and_eq_true]
    exact ⟨RD.closed _ _ r.2, RKs.closed t⟩
theorem RO.shr {t : List Place} {sl : Place} {o : MO} (c : closedMO L.length o = true) (h : RO K H (L ++ t) sl o) : RO K H L sl o := by
  cases o with
  | lst ds =>
    cases sl with
    | w a =>
      obtain ⟨xs, h1, h2⟩ := h
      exact ⟨xs, h1, RDs.shr _ _ c h2⟩
    | r a => exact h.elim
  | frz ds =>
    cases sl with
    | r a =>
      obtain ⟨xs, h1, h2⟩ := h
      exact ⟨xs, h1, RDs.shr _ _ c h2⟩
    | w a => exact h.elim
  | dK kvs =>
    cases sl with
    | w a =>
      obtain ⟨xs, h1, h2⟩ := h
      exact ⟨xs, h1, RKs.shr c h2⟩
    | r a => exact h.elim
  | dT kvs =>
    cases sl with
    | w a =>
      obtain ⟨xs, h1, h2⟩ := h
      exact ⟨xs, h1, RKs.shr c h2⟩
    | r a => exact h.elim
theorem RO.closed {sl : Place} {o : MO} (h : RO K H L sl o) : closedMO L.length o = true := by
  cases o with
  | lst ds =>
    cases sl with
    | w a =>
      obtain ⟨xs, h1, h2⟩ := h
      exact RDs.closed _ _ h2
    | r a => exact h.elim
  | frz ds =>
    cases sl with
    | r a =>
      obtain ⟨xs, h1, h2⟩ := h
      exact RDs.closed _ _ h2
    | w a => exact h.elim
  | dK kvs =>
    cases sl with
    | w a =>
      obtain ⟨xs, h1, h2⟩ := h
      exact RKs.closed h2
    | r a => exact h.elim
  | dT kvs =>
    cases sl with
    | w a =>
      obtain ⟨xs, h1, h2⟩ := h
      exact RKs.closed h2
    | r a => exact h.elim
theorem okOld_get {n : Nat} : ∀ {M M' : Store}, okOld n M M' = true → M.length ≤ M'.length ∧ ∀ (i : Nat) (o o' : MO), M[i]? = some o → M'[i]? = some o' → o = o' ∨ closedMO n o' = true
  | [], M', _ => ⟨Nat.zero_le _, fun i o o' e _ => by simp at e⟩
  | _ :: _, [], h => by simp [okOld] at h
  | p :: M, q :: M', h => by
    simp only [okOld, Bool.and_eq_true, Bool.or_eq_true, decide_eq_true_eq] at h
    obtain ⟨h1, h2⟩ := okOld_get h.2
    refine ⟨by simp; exact h1, fun i o o' e e' => ?_⟩
    cases i with
    | zero =>
      simp at e e'
      subst e
      subst e'
      exact h.1
    | succ i => exact h2 i o o' (by simpa using e) (by simpa using e')
/-- what nothing holds is forgotten -/
theorem Rep.forget {t : List Place} (p : Rep K H L M) (hl : okOld M.length M M' = true) (q : Rep K H' (L ++ t) M') : Rep K H' L (M'.take M.length) where
  len := by
    have := (okOld_get hl).1
    rw [List.length_take, p.len]
    omega
  ob := fun n sl o e e' => by
    have hn : n < L.length := (List.getElem?_eq_some_iff.mp e).1
    have hn' : n < M.length := by rw [← p.len]; exact hn
    rw [List.getElem?_take, if_pos hn'] at e'
    have h1 := q.ob n sl o (by rw [List.getElem?_append_left hn]; exact e) e'
    obtain ⟨o0, e0⟩ : ∃ o0, M[n]? = some o0 := ⟨_, List.getElem?_eq_getElem hn'⟩
    refine RO.shr ?_ h1
    rcases (okOld_get hl).2 n o0 o e0 e' with z | z
    · subst z
      exact RO.closed (p.ob n sl _ e e0)
    · rw [p.len]
      exact z
  inj := fun n m a e e' => q.inj n m a (by rw [List.getElem?_append_left (List.getElem?_eq_some_iff.mp e).1]; exact e) (by rw [List.getElem?_append_left (List.getElem?_eq_some_iff.mp e').1]; exact e')
theorem gc_fin (p : Rep K H L M) (f : Fin1 K H L (gcRet M d M').2 (gcRet M d M').1 Q) : Fin1 K H L M' d Q := by
  unfold gcRet at f
  split at f
  · rename_i hl
    intro v H' L' g q rd
    obtain ⟨t, rfl⟩ := g.pre
    have gL : Grow H H' L L := ⟨⟨[], by simp⟩, g.keep, g.tups, g.frzs, fun a h n => absurd h n⟩
    have rp := p.forget hl q
    split at f
    · rename_i c
      exact f v H' L gL rp (RD.shr d v (by rw [p.len]; exact c) rd)
    · rename_i c
      split at f
      · rename_i j
        split at f
        · rename_i o ej
          split at f
          · rename_i co
            obtain ⟨sl, es, rfl⟩ := rd
            have hj : L.length ≤ j := by
              have : ¬ j < M.length := by simpa [closedD] using c
              rw [p.len]
              omega
            have es' : (L ++ t)[j]? = some sl := es
            have mem : sl ∈ L ++ t := List.mem_of_getElem? es
            have ro := q.ob j sl o es ej
            cases sl with
            | r a =>
              have gL1 : Grow H H' L (L ++ [.r a]) := ⟨⟨[.r a], rfl⟩, g.keep, g.tups, g.frzs, fun b h n => by
                simp at h
                exact absurd h n⟩
              refine f _ H' (L ++ [.r a]) gL1 ⟨?_, ?_, ?_⟩ ⟨.r a, ?_, rfl⟩
              · rw [List.length_append, List.length_append, rp.len]; rfl
              · intro n sl o' e e'
                by_cases z : n < L.length
                · rw [List.getElem?_append_left z] at e
                  rw [List.getElem?_append_left (by rw [← rp.len]; exact z)] at e'
                  have := rp.ob n sl o' e e'
                  have x : Ext H' H' L (L ++ [.r a]) := ⟨⟨_, rfl⟩, fun _ _ e => e, fun _ _ _ e => e⟩
                  cases sl <;> cases o' <;> first | exact this.elim | (obtain ⟨xs, h1, h2⟩ := this; exact ⟨xs, h1, RDs.ext x _ _ h2⟩) | (obtain ⟨xs, h1, h2⟩ := this; exact ⟨xs, h1, RKs.ext x h2⟩)
                · have hz : n = L.length := by
                    have := (List.getElem?_eq_some_iff.mp e).1
                    simp at this
                    omega
                  subst hz
                  rw [List.getElem?_append_right (Nat.le_refl _)] at e
                  rw [rp.len, List.getElem?_append_right (Nat.le_refl _)] at e'
                  simp at e e'
                  subst e
                  subst e'
                  have := RO.shr (by rw [p.len]; exact co) ro
                  have x : Ext H' H' L (L ++ [.r a]) := ⟨⟨_, rfl⟩, fun _ _ e => e, fun _ _ _ e => e⟩
                  cases o <;> first | exact this.elim | (obtain ⟨xs, h1, h2⟩ := this; exact ⟨xs, h1, RDs.ext x _ _ h2⟩)
              · intro n m b e e'
                have hb : ∀ k, (L ++ [Place.r a])[k]? = some (Place.w b) → L[k]? = some (Place.w b) := fun k z => by
                  by_cases zz : k < L.length
                  · rw [List.getElem?_append_left zz] at z
                    exact z
                  · have hz : k = L.length := by
                      have := (List.getElem?_eq_some_iff.mp z).1
                      simp at this
                      omega
                    subst hz
                    rw [List.getElem?_append_right (Nat.le_refl _)] at z
                    simp at z
                exact rp.inj n m b (hb n e) (hb m e')
              · rw [← p.len, List.getElem?_append_right (Nat.le_refl _)]
                simp
            | w a =>
              have hnL : Place.w a ∉ L := fun h => by
                obtain ⟨i, hi⟩ := List.getElem?_of_mem h
                have hi' := (List.getElem?_eq_some_iff.mp hi).1
                have := q.inj i j a (by rw [List.getElem?_append_left hi']; exact hi) es
                omega
              have gL1 : Grow H H' L (L ++ [.w a]) := ⟨⟨[.w a], rfl⟩, g.keep, g.tups, g.frzs, fun b h n => by
                simp at h
                rcases h with h | h
                · exact absurd h n
                · subst h
                  exact g.new b mem n⟩
              refine f _ H' (L ++ [.w a]) gL1 (rp.take hnL (RO.shr (by rw [p.len]; exact co) ro)) ⟨.w a, ?_, rfl⟩
              rw [← p.len, List.getElem?_append_right (Nat.le_refl _)]
              simp
          · exact f _ H' _ g q rd
        · exact f _ H' _ g q rd
      · exact f _ H' _ g q rd
  · exact f
end
end PS

set_option Elab.async false
set_option linter.all false
set_option maxRecDepth 100000
set_option maxHeartbeats 8000000
/-! PS18: every def of the text keeps its promise. -/
namespace PS
open PySem PySem.Spec PyProof.Rows L2

def ckFn (tb : Tb0) (fds : List FD) (sts : List Stmt) (Ns : List (List Str)) (f : Nat) : Bool := match tb.fn[f]?, fds[f]?, sts[f]?, Ns[f]? with
  | some (x, n), some pd, some st, some N => decide (n = pd.np) && decide (pd.nn = N.length) && decide (n ≤ N.length) && C8.scC N (N.take n) (defScope st) && ckSs tb N (defScope st) (fun _ => true) pd.body (defBody st)
  | _, _, _, _ => false
/-- what the module holds behind the top -/
structure PF (K : PySem.W.Frag) (mg : Str → Option Value) (tb : Tb0) (sts : List Stmt) (Ns : List (List Str)) : Prop where
  blt : ∀ x, x ∈ bltN → mg x = none
  con : ∀ (x : Str) (d : D), (x, d) ∈ tb.cs → ∃ u v, mg x = some u ∧ RelV v u ∧ ∀ H L, RD K H L d v
  fn : ∀ (f : Nat) (x : Str) (n : Nat), tb.fn[f]? = some (x, n) → ∃ (fa : Addr) (fd : FuncData), (∃ st, sts[f]? = some st ∧ Fun K x x st fa fd) ∧ mg x = some (.ref fa) ∧ ∃ N, Ns[f]? = some N ∧ n ≤ N.length ∧ ∀ us : List Value, us.length = n → bindArgs fd ⟨us, []⟩ = pure ((N.take n).zip us)
section
variable {P : Program} {w : World} {K : PySem.W.Frag} {mg : Str → Option Value} {base : Heap} {tb : Tb0} {fds : List FD} {sts : List Stmt} {Ns : List (List Str)} {W : Nat}
theorem re_start {H : Hp} {L : List Place} {ds : List D} {vs : List V} {N : List Str} (h : RDs K H L ds vs) : RE K H L (ds.map some ++ List.replicate (N.length - ds.length) none) (L2.start N vs) where
  len := by
    unfold L2.start
    simp [h.length]
  at_ := fun i d e => by
    have hi : i < ds.length := by
      by_cases z : i < ds.length
      · exact z
      · rw [List.getElem?_append_right (by simp; omega)] at e
        rw [List.getElem?_replicate] at e
        split at e <;> cases e
    rw [List.getElem?_append_left (by simp; exact hi), List.getElem?_map] at e
    obtain ⟨d', e1, e2⟩ := Option.map_eq_some_iff.mp e
    cases e2
    obtain ⟨v, e3, r⟩ := RDs.get h e1
    refine ⟨v, ?_, r⟩
    unfold L2.start
    rw [List.getElem?_append_left (by simp; rw [← h.length]; exact hi), List.getElem?_map, e3]
    rfl
theorem all_fn (pf : PF K mg tb sts Ns) (hc : ∀ f, f < tb.fn.length → ckFn tb fds sts Ns f = true) : ∀ (k f : Nat) (x : Str) (n : Nat), tb.fn[f]? = some (x, n) → ∃ (fa : Addr) (fd : FuncData) (N : List Str), Ns[f]? = some N ∧ mg x = some (.ref fa) ∧ PySem.W.keepIn K (.ref fa) = true ∧ Binds K fd (N.take n) [] ∧ (∃ oc od osl, K.lookup fa = some ⟨oc, od, .func fd, osl⟩) ∧
    FnOk P w K mg base CX0 k fa fd (N.take n) (spF K n (runF fds W k f)) ∧ ∀ ds M d M', runF fds W k f ds M = some (d, M') → ds.length = n
  | 0, f, x, n, e => by
    obtain ⟨fa, fd, ⟨st, e2, F⟩, hm, N, e1, hn, b0⟩ := pf.fn f x n e
    have lk : ∃ oc od osl, K.lookup fa = some ⟨oc, od, .func fd, osl⟩ := by
      obtain ⟨oc, od, kV, doc, pm, an, cdv, ct, osl, -, lk, -⟩ := F.ex
      exact ⟨oc, od, osl, lk⟩
    have b : Binds K fd (N.take n) [] := .all fun us hl => b0 us (by rw [hl, List.length_take]; omega)
    refine ⟨fa, fd, N, e1, hm, F.kp, b, lk, ⟨fun vs H Q E h => ?_, fun A outer s H args us vs Q E hr e0 hb hv h => ?_⟩, fun ds M d M' h => by cases h⟩
    · obtain ⟨L, M, ds, d, M', h1, h2, h3, h4, h5⟩ := h
      cases h4
    · obtain ⟨L, M, ds, d, M', h1, h2, h3, h4, h5⟩ := h
      cases h4
  | k + 1, f, x, n, e => by
    obtain ⟨fa, fd, ⟨st, e2, F⟩, hm, N, e1, hn, b0⟩ := pf.fn f x n e
    have lk : ∃ oc od osl, K.lookup fa = some ⟨oc, od, .func fd, osl⟩ := by
      obtain ⟨oc, od, kV, doc, pm, an, cdv, ct, osl, -, lk, -⟩ := F.ex
      exact ⟨oc, od, osl, lk⟩
    have b : Binds K fd (N.take n) [] := .all fun us hl => b0 us (by rw [hl, List.length_take]; omega)
    have hf := hc f (List.getElem?_eq_some_iff.mp e).1
    unfold ckFn at hf
    rw [e, e2, e1] at hf
    cases e3 : fds[f]? with
    | none => rw [e3] at hf; cases hf
    | some pd =>
      rw [e3] at hf
      try dsimp only at hf
      simp only [Bool.and_eq_true, decide_eq_true_eq] at hf
      obtain ⟨⟨⟨⟨c1, c2⟩, c3⟩, c4⟩, c5⟩ := hf
      have S := C8.fnScope_by c4
      have hl : ∀ ds M d M', runF fds W (k + 1) f ds M = some (d, M') → ds.length = n := fun ds M d M' h => by
        unfold runF at h
        rw [e3] at h
        try dsimp only at h
        split at h
        · rename_i z
          rw [z, c1]
        · cases h
      refine ⟨fa, fd, N, e1, hm, F.kp, b, lk, F.ok S (fun vs H Q E h => ?_) fun cdv A outer s H vs Q E hr h => ?_, hl⟩
      · obtain ⟨L, M, ds, d, M', h1, h2, h3, h4, h5⟩ := h
        rw [← h3.length, h1, List.length_take]
        omega
      · obtain ⟨L, M, ds, d, M', h1, h2, h3, h4, h5⟩ := h
        have c : Ctx ⟨tb, runF fds W k⟩ N (defScope st) (fun _ => true) (cxOf CX0 P w K mg base N x (defScope st) fa cdv A outer s H E).nox :=
          { calm := rfl, hN := rfl, nd := S.nd, sc := rfl, fb := rfl, un := by
              have := hr.un
              show (A.deeper _).units + 65 < cLine
              omega
            xe := rfl, blt := pf.blt
            fun_ := fun g y m eg => by
              obtain ⟨ga, gd, gN, g1, g2, g3, g4, -, g5, g6⟩ := all_fn pf hc k g y m eg
              exact ⟨k, ga, gd, gN.take m, g2, g3, g4, hr, g5, g6⟩
            con := pf.con }
        refine ⟨_, sndSs W pd.body c S.kind _ c5, ?_⟩
        unfold runF at h4
        rw [e3] at h4
        try dsimp only at h4
        rw [if_pos (by rw [h1, c1])] at h4
        have hst : (ds.map some ++ List.replicate (pd.nn - pd.np) none : Env) = ds.map some ++ List.replicate (N.length - ds.length) none := by rw [c2, ← c1, h1]
        rw [hst] at h4
        have r := re_start (N := N) h3
        split at h4
        · rename_i ρ' M1 e4
          have h4 := Option.some.inj h4
          refine ⟨_, L, M, _, ρ', M1, r, h2, e4, fun σ' H' L' g r' p' => gc_fin (d := .non) (M' := M1) h2 ?_ _ H' L' g p' rfl⟩
          rw [h4]
          exact h5
        · rename_i d' ρ' M1 e4
          have h4 := Option.some.inj h4
          refine ⟨_, L, M, _, ρ', M1, r, h2, e4, gc_fin (d := d') (M' := M1) h2 ?_⟩
          rw [h4]
          exact h5
        · cases h4
theorem law_F (pf : PF K mg tb sts Ns) (hc : ∀ f, f < tb.fn.length → ckFn tb fds sts Ns f = true) {lf k : Nat} {N : List Str} {fa : Addr} (hl : tb.fn[lf]? = some (("law" : Str), 1)) (hN : Ns[lf]? = some N) (hp : N.take 1 = [("script" : Str)]) (hm : mg "law" = some (.ref fa)) :
    ∃ fd : FuncData, (∀ (s : Shared) (v : Value), BindsTo s fd ⟨[v], []⟩ [("script", v)]) ∧ ∀ base : Heap, K.In base → base.Ns mainGlobals mg → FnOk P w K mg base CX0 k fa fd ["script"] (spF K 1 (runF fds W k lf)) := by
  obtain ⟨fa', fd, ⟨st, -, F0⟩, h0, N0, e0, -, b0⟩ := pf.fn lf _ _ hl
  rw [hN] at e0
  cases e0
  rw [hm] at h0
  cases h0
  refine ⟨fd, fun s v => .of_eq ?_, fun base _ _ => ?_⟩
  · have := b0 [v] rfl
    rw [hp] at this
    exact this
  · obtain ⟨fa2, fd2, N2, e1, e2, -, -, ⟨oc, od, osl, lk⟩, F, -⟩ := all_fn (P := P) (w := w) (base := base) (W := W) pf hc k lf _ _ hl
    rw [hN] at e1
    cases e1
    rw [hm] at e2
    cases e2
    obtain ⟨oc', od', kV, doc, pm, an, cdv, ct, osl', -, lk', -⟩ := F0.ex
    rw [lk] at lk'
    cases lk'
    rw [hp] at F
    exact F
/-- the script: a list that is read alone -/
theorem sp_script {F : Fn} {H : Hp} {a : Addr} {ns : List Int} (ho : Only H) (hs : SqL K H a (ns.map V.int)) (h : ∃ M', F [.ref 0] [.frz (ns.map D.int)] = some (.bl true, M')) : spF K 1 F [.ref a] H (fun v _ => v = .bl true) fun _ _ _ => False := by
  obtain ⟨M', e⟩ := h
  have sf : SqF K H a (ns.map V.int) := by
    rcases hs with (z | z) | z
    · rcases ho a with q | ⟨o, xs, q⟩
      · rw [q] at z; cases z
      · rw [q] at z; cases z
    · exact .inl z
    · exact .inr z
  refine ⟨[.r a], [.frz (ns.map D.int)], [.ref 0], .bl true, M', rfl, ⟨rfl, fun n sl o e e' => ?_, fun n m b e _ => ?_⟩, ⟨_, _, rfl, ⟨.r a, rfl, rfl⟩, rfl⟩, e, fun v H' L' g p r => r⟩
  · cases n with
    | zero =>
      simp at e e'
      subst e
      subst e'
      exact ⟨_, sf, rds_of_ints ns⟩
    | succ n => simp at e
  · cases n with
    | zero => simp at e
    | succ n => simp at e
end
end PS

set_option linter.all false
set_option maxRecDepth 100000
namespace K45
open PySem L2 PS
/-- form(constant, pairs); slots 0:constant 1:pairs 2:sums 3:name 4:coefficient -/
def b0 : Ss := (.cons (.asg (.name 2) .dctK)
  (.cons (.fr (.tup (.cons (.name 3) (.cons (.name 4) .nil))) (.q (.val (.var 1))) (.cons (.asg (.sub (.var 2) (.var 3)) (.bin .Add (.mth .get2 (.var 2) (.cons (.var 3) (.cons (.int 0) .nil))) (.var 4)))
  .nil))
  (.cons (.ret (.tup (.cons (.var 0) (.cons (.agg .tup (.lst (.comp [("name", 3)] (.name 3) (.q (.lst (.sortedD (.var 2)))) (.yes (.cmp .NotEq (.idx (.val (.var 2)) (.var 3)) (.int 0))) (.tup (.cons (.var 3) (.cons (.idx (.val (.var 2)) (.var 3)) .nil)))))) .nil))))
  .nil)))
abbrev n0 : List Str := ["constant", "pairs", "sums", "name", "coefficient"]
/-- plus(f, g); slots 0:f 1:g -/
def b1 : Ss := (.cons (.ife (.nt (.idx (.val (.var 1)) (.int 1))) (.cons (.ret (.tup (.cons (.bin .Add (.idx (.val (.var 0)) (.int 0)) (.idx (.val (.var 1)) (.int 0))) (.cons (.idx (.val (.var 0)) (.int 1)) .nil))))
  .nil) .nil)
  (.cons (.ret (.call 0 (.cons (.bin .Add (.idx (.val (.var 0)) (.int 0)) (.idx (.val (.var 1)) (.int 0))) (.cons (.bin .Add (.idx (.val (.var 0)) (.int 1)) (.idx (.val (.var 1)) (.int 1))) .nil))))
  .nil))
abbrev n1 : List Str := ["f", "g"]
/-- times(k, f); slots 0:k 1:f 2:name 3:coefficient -/
def b2 : Ss := (.cons (.ife (.cmp .Eq (.var 0) (.int 0)) (.cons (.ret (.glob "ZERO" (.tup [(.int 0), (.tup [])])))
  .nil) .nil)
  (.cons (.ret (.tup (.cons (.bin .Mult (.var 0) (.idx (.val (.var 1)) (.int 0))) (.cons (.agg .tup (.lst (.comp [("name", 2), ("coefficient", 3)] (.tup (.cons (.name 2) (.cons (.name 3) .nil))) (.q (.val (.idx (.val (.var 1)) (.int 1)))) .no (.tup (.cons (.var 2) (.cons (.bin .Mult (.var 0) (.var 3)) .nil)))))) .nil))))
  .nil))
abbrev n2 : List Str := ["k", "f", "name", "coefficient"]
/-- minus(f, g); slots 0:f 1:g -/
def b3 : Ss := (.cons (.ret (.call 1 (.cons (.var 0) (.cons (.call 2 (.cons (.neg (.int 1)) (.cons (.var 1) .nil))) .nil))))
  .nil)
abbrev n3 : List Str := ["f", "g"]
/-- image(f, pairs); slots 0:f 1:pairs 2:table 3:constant 4:rest 5:name 6:coefficient 7:g 8:other 9:factor -/
def b4 : Ss := (.cons (.asg (.name 2) (.dctC [("name", 5), ("g", 7)] (.tup (.cons (.name 5) (.cons (.name 7) .nil))) (.q (.val (.var 1))) .no (.var 5) (.var 7)))
  (.cons (.asg (.name 3) (.idx (.val (.var 0)) (.int 0)))
  (.cons (.asg (.name 4) (.ofL (.disp .nil)))
  (.cons (.fr (.tup (.cons (.name 5) (.cons (.name 6) .nil))) (.q (.val (.idx (.val (.var 0)) (.int 1)))) (.cons (.ife (.mem false (.var 5) (.val (.var 2))) (.cons (.asg (.name 7) (.idx (.val (.var 2)) (.var 5)))
  (.cons (.aug 3 .Add (.bin .Mult (.var 6) (.idx (.val (.var 7)) (.int 0))))
  (.cons (.ex (.ext (.var 4) (.lst (.comp [("other", 8), ("factor", 9)] (.tup (.cons (.name 8) (.cons (.name 9) .nil))) (.q (.val (.idx (.val (.var 7)) (.int 1)))) .no (.tup (.cons (.var 8) (.cons (.bin .Mult (.var 6) (.var 9)) .nil)))))))
  .nil))) (.cons (.ex (.mth .append (.var 4) (.cons (.tup (.cons (.var 5) (.cons (.var 6) .nil))) .nil)))
  .nil))
  .nil))
  (.cons (.ret (.call 0 (.cons (.var 3) (.cons (.var 4) .nil))))
  .nil)))))
abbrev n4 : List Str := ["f", "pairs", "table", "constant", "rest", "name", "coefficient", "g", "other", "factor"]
/-- value(f, pairs); slots 0:f 1:pairs 2:table 3:name 4:number 5:coefficient -/
def b5 : Ss := (.cons (.asg (.name 2) (.dctC [("name", 3), ("number", 4)] (.tup (.cons (.name 3) (.cons (.name 4) .nil))) (.q (.val (.var 1))) .no (.var 3) (.var 4)))
  (.cons (.ret (.bin .Add (.idx (.val (.var 0)) (.int 0)) (.agg .sum (.lst (.comp [("name", 3), ("coefficient", 5)] (.tup (.cons (.name 3) (.cons (.name 5) .nil))) (.q (.val (.idx (.val (.var 0)) (.int 1)))) .no (.bin .Mult (.var 5) (.idx (.val (.var 2)) (.var 3))))))))
  .nil))
abbrev n5 : List Str := ["f", "pairs", "table", "name", "number", "coefficient"]
/-- _law_start(script); slots 0:script -/
def b6 : Ss := (.cons (.ret (.ofL (.disp (.cons (.ofL (.list (.val (.var 0)))) (.cons (.int 0) (.cons (.int 0) (.cons (.int 0) .nil)))))))
  .nil)
abbrev n6 : List Str := ["script"]
/-- _law_draw(state, most); slots 0:state 1:most 2:found 3:cell 4:mixed -/
def b7 : Ss := (.cons (.asg (.sub (.var 0) (.int 3)) (.bin .Add (.idx (.val (.var 0)) (.int 3)) (.int 1)))
  (.cons (.ife (.cmp .Gt (.idx (.val (.var 0)) (.int 2)) (.int 0)) (.cons (.asg (.name 2) (.bin .Mod (.blt .int (.cons (.idx (.val (.var 0)) (.int 2)) .nil)) (.var 1)))
  (.cons (.asg (.sub (.var 0) (.int 2)) (.bin .FloorDiv (.idx (.val (.var 0)) (.int 2)) (.var 1)))
  (.cons (.ret (.var 2))
  .nil))) .nil)
  (.cons (.asg (.name 3) (.int 0))
  (.cons (.ife (.cmp .Gt (.agg .len (.val (.idx (.val (.var 0)) (.int 0)))) (.int 0)) (.cons (.asg (.name 3) (.blt .abs (.cons (.idx (.val (.idx (.val (.var 0)) (.int 0))) (.bin .Mod (.blt .int (.cons (.idx (.val (.var 0)) (.int 1)) .nil)) (.agg .len (.val (.idx (.val (.var 0)) (.int 0)))))) .nil)))
  .nil) .nil)
  (.cons (.asg (.sub (.var 0) (.int 1)) (.bin .Add (.idx (.val (.var 0)) (.int 1)) (.int 1)))
  (.cons (.ife (.cmp .GtE (.var 3) (.bin .Pow (.int 10) (.int 18))) (.cons (.asg (.sub (.var 0) (.int 2)) (.bin .FloorDiv (.var 3) (.var 1)))
  (.cons (.ret (.bin .Mod (.blt .int (.cons (.var 3) .nil)) (.var 1)))
  .nil)) .nil)
  (.cons (.asg (.name 4) (.bin .Mod (.blt .int (.cons (.bin .Add (.bin .Mult (.bin .Add (.var 3) (.int 1)) (.int 48271)) (.bin .Mult (.idx (.val (.var 0)) (.int 3)) (.int 69621))) .nil)) (.int 2147483647)))
  (.cons (.asg (.name 4) (.bin .Mod (.blt .int (.cons (.bin .Add (.bin .Add (.bin .Mult (.var 4) (.int 16807)) (.bin .FloorDiv (.var 3) (.int 97))) (.idx (.val (.var 0)) (.int 3))) .nil)) (.int 2147483629)))
  (.cons (.ret (.bin .Mod (.bin .FloorDiv (.var 4) (.int 11)) (.var 1)))
  .nil)))))))))
abbrev n7 : List Str := ["state", "most", "found", "cell", "mixed"]
/-- _law_shuffled(state, items); slots 0:state 1:items 2:found 3:item -/
def b8 : Ss := (.cons (.asg (.name 2) (.ofL (.disp .nil)))
  (.cons (.fr (.name 3) (.q (.val (.var 1))) (.cons (.ex (.mth .insert (.var 2) (.cons (.call 7 (.cons (.var 0) (.cons (.bin .Add (.agg .len (.val (.var 2))) (.int 1)) .nil))) (.cons (.var 3) .nil))))
  .nil))
  (.cons (.ret (.var 2))
  .nil)))
abbrev n8 : List Str := ["state", "items", "found", "item"]
/-- _law_is_int(x); slots 0:x -/
def b9 : Ss := (.cons (.ret (.and (.blt .isInt (.cons (.var 0) .nil)) (.nt (.blt .isBool (.cons (.var 0) .nil)))))
  .nil)
abbrev n9 : List Str := ["x"]
/-- _law_same(x, y); slots 0:x 1:y 2:k -/
def b10 : Ss := (.cons (.ife (.blt .isTup (.cons (.var 1) .nil)) (.cons (.ife (.or (.nt (.blt .isTup (.cons (.var 0) .nil))) (.cmp .NotEq (.agg .len (.val (.var 0))) (.agg .len (.val (.var 1))))) (.cons (.ret (.bl false))
  .nil) .nil)
  (.cons (.ret (.agg .all (.lst (.comp [("k", 2)] (.name 2) (.rng1 (.agg .len (.val (.var 1)))) .no (.call 10 (.cons (.idx (.val (.var 0)) (.var 2)) (.cons (.idx (.val (.var 1)) (.var 2)) .nil)))))))
  .nil)) .nil)
  (.cons (.ife (.blt .isStr (.cons (.var 1) .nil)) (.cons (.ret (.and (.blt .isStr (.cons (.var 0) .nil)) (.cmp .Eq (.var 0) (.var 1))))
  .nil) .nil)
  (.cons (.ret (.and (.call 9 (.cons (.var 0) .nil)) (.cmp .Eq (.var 0) (.var 1))))
  .nil)))
abbrev n10 : List Str := ["x", "y", "k"]
/-- _law_base(); slots  -/
def b11 : Ss := (.cons (.ret (.bin .Mult (.bin .Pow (.int 10) (.int 18)) (.bin .Pow (.int 10) (.int 18))))
  .nil)
abbrev n11 : List Str := []
/-- _law_told(number, names); slots 0:number 1:names 2:left 3:digits 4:turn 5:digit 6:pairs 7:k -/
def b12 : Ss := (.cons (.asg (.name 2) (.var 0))
  (.cons (.asg (.name 3) (.ofL (.disp .nil)))
  (.cons (.fr (.name 4) (.rng1 (.bin .Add (.agg .len (.val (.var 1))) (.int 1))) (.cons (.asg (.name 5) (.bin .Mod (.var 2) (.call 11 .nil)))
  (.cons (.ife (.cmp .Gt (.bin .Mult (.int 2) (.var 5)) (.call 11 .nil)) (.cons (.asg (.name 5) (.bin .Sub (.var 5) (.call 11 .nil)))
  .nil) .nil)
  (.cons (.ex (.mth .append (.var 3) (.cons (.var 5) .nil)))
  (.cons (.asg (.name 2) (.bin .FloorDiv (.bin .Sub (.var 2) (.var 5)) (.call 11 .nil)))
  .nil)))))
  (.cons (.asg (.name 6) (.ofL (.comp [("k", 7)] (.name 7) (.rng1 (.agg .len (.val (.var 1)))) (.yes (.cmp .NotEq (.idx (.val (.var 3)) (.bin .Add (.var 7) (.int 1))) (.int 0))) (.tup (.cons (.idx (.val (.var 1)) (.var 7)) (.cons (.idx (.val (.var 3)) (.bin .Add (.var 7) (.int 1))) .nil))))))
  (.cons (.ret (.tup (.cons (.idx (.val (.var 3)) (.int 0)) (.cons (.agg .tup (.lst (.sorted (.val (.var 6))))) .nil))))
  .nil)))))
abbrev n12 : List Str := ["number", "names", "left", "digits", "turn", "digit", "pairs", "k"]
/-- _law_number(digits); slots 0:digits 1:found 2:digit -/
def b13 : Ss := (.cons (.asg (.name 1) (.int 0))
  (.cons (.fr (.name 2) (.q (.lst (.rev (.val (.var 0))))) (.cons (.asg (.name 1) (.bin .Add (.bin .Mult (.var 1) (.call 11 .nil)) (.var 2)))
  .nil))
  (.cons (.ret (.var 1))
  .nil)))
abbrev n13 : List Str := ["digits", "found", "digit"]
/-- _law_digits(state, many); slots 0:state 1:many 2:found 3:turn 4:n -/
def b14 : Ss := (.cons (.asg (.name 2) (.ofL (.disp .nil)))
  (.cons (.fr (.name 3) (.rng1 (.var 1)) (.cons (.asg (.name 4) (.bin .Sub (.call 7 (.cons (.var 0) (.cons (.int 2001) .nil))) (.int 1000)))
  (.cons (.ex (.mth .append (.var 2) (.cons (.idx (.lst (.disp (.cons (.var 4) (.cons (.int 0) (.cons (.bin .Mult (.var 4) (.int 99999989)) (.cons (.int 1) (.cons (.neg (.int 1)) .nil))))))) (.call 7 (.cons (.var 0) (.cons (.int 5) .nil)))) .nil)))
  .nil)))
  (.cons (.ret (.var 2))
  .nil)))
abbrev n14 : List Str := ["state", "many", "found", "turn", "n"]
/-- _law_in_parts(state, names, digits); slots 0:state 1:names 2:digits 3:pairs 4:k 5:part -/
def b15 : Ss := (.cons (.asg (.name 3) (.ofL (.disp .nil)))
  (.cons (.fr (.name 4) (.rng1 (.agg .len (.val (.var 1)))) (.cons (.asg (.name 5) (.bin .Sub (.call 7 (.cons (.var 0) (.cons (.int 21) .nil))) (.int 10)))
  (.cons (.asg (.name 3) (.ofL (.cat (.val (.var 3)) (.lst (.slice (.lst (.disp (.cons (.tup (.cons (.idx (.val (.var 1)) (.var 4)) (.cons (.bin .Sub (.idx (.val (.var 2)) (.bin .Add (.var 4) (.int 1))) (.var 5)) .nil))) (.cons (.tup (.cons (.idx (.val (.var 1)) (.var 4)) (.cons (.var 5) .nil))) .nil)))) .no (.yes (.bin .Sub (.int 2) (.blt .int (.cons (.cmp .Eq (.var 5) (.int 0)) .nil)))))))))
  .nil)))
  (.cons (.ret (.agg .tup (.lst (.rev (.val (.var 3))))))
  .nil)))
abbrev n15 : List Str := ["state", "names", "digits", "pairs", "k", "part"]
/-- law(script); slots 0:script 1:state 2:turn 3:names 4:one 5:other 6:first 7:second 8:f 9:g 10:k 11:due 12:some 13:total 14:j 15:told 16:at 17:name 18:digits -/
def b16 : Ss := (.cons (.asg (.name 1) (.call 6 (.cons (.var 0) .nil)))
  (.cons (.fr (.name 2) (.rng1 (.int 6)) (.cons (.asg (.name 3) (.slc (.call 8 (.cons (.var 1) (.cons (.ofL (.disp (.cons (.str "s0") (.cons (.str "s1") (.cons (.str "@n") (.cons (.str "t") .nil)))))) .nil))) .no (.yes (.bin .Add (.int 1) (.call 7 (.cons (.var 1) (.cons (.int 4) .nil)))))))
  (.cons (.asg (.tup (.cons (.name 4) (.cons (.name 5) .nil))) (.tup (.cons (.call 14 (.cons (.var 1) (.cons (.bin .Add (.agg .len (.val (.var 3))) (.int 1)) .nil))) (.cons (.call 14 (.cons (.var 1) (.cons (.bin .Add (.agg .len (.val (.var 3))) (.int 1)) .nil))) .nil))))
  (.cons (.asg (.tup (.cons (.name 6) (.cons (.name 7) .nil))) (.tup (.cons (.call 13 (.cons (.var 4) .nil)) (.cons (.call 13 (.cons (.var 5) .nil)) .nil))))
  (.cons (.asg (.tup (.cons (.name 8) (.cons (.name 9) .nil))) (.tup (.cons (.call 12 (.cons (.var 6) (.cons (.var 3) .nil))) (.cons (.call 12 (.cons (.var 7) (.cons (.var 3) .nil))) .nil))))
  (.cons (.ife (.nt (.call 10 (.cons (.tup (.cons (.call 0 (.cons (.idx (.val (.var 4)) (.int 0)) (.cons (.call 15 (.cons (.var 1) (.cons (.var 3) (.cons (.var 4) .nil)))) .nil))) (.cons (.call 0 (.cons (.idx (.val (.var 5)) (.int 0)) (.cons (.call 15 (.cons (.var 1) (.cons (.var 3) (.cons (.var 5) .nil)))) .nil))) .nil))) (.cons (.tup (.cons (.var 8) (.cons (.var 9) .nil))) .nil)))) (.cons (.ret (.bl false))
  .nil) .nil)
  (.cons (.asg (.name 10) (.bin .Sub (.call 7 (.cons (.var 1) (.cons (.int 41) .nil))) (.int 20)))
  (.cons (.asg (.name 11) (.tup (.cons (.call 12 (.cons (.bin .Add (.var 6) (.var 7)) (.cons (.var 3) .nil))) (.cons (.call 12 (.cons (.bin .Sub (.var 6) (.var 7)) (.cons (.var 3) .nil))) (.cons (.call 12 (.cons (.bin .Mult (.var 10) (.var 6)) (.cons (.var 3) .nil))) (.cons (.call 12 (.cons (.bin .Sub (.bin .Mult (.var 10) (.var 6)) (.bin .Mult (.var 10) (.var 7))) (.cons (.var 3) .nil))) .nil))))))
  (.cons (.ife (.nt (.call 10 (.cons (.tup (.cons (.call 1 (.cons (.var 8) (.cons (.var 9) .nil))) (.cons (.call 3 (.cons (.var 8) (.cons (.var 9) .nil))) (.cons (.call 2 (.cons (.var 10) (.cons (.var 8) .nil))) (.cons (.call 2 (.cons (.var 10) (.cons (.call 3 (.cons (.var 8) (.cons (.var 9) .nil))) .nil))) .nil))))) (.cons (.var 11) .nil)))) (.cons (.ret (.bl false))
  .nil) .nil)
  (.cons (.asg (.name 12) (.ofL (.comp [("j", 14)] (.name 14) (.rng1 (.agg .len (.val (.var 3)))) (.yes (.cmp .Gt (.call 7 (.cons (.var 1) (.cons (.int 3) .nil))) (.int 0))) (.tup (.cons (.idx (.val (.var 3)) (.var 14)) (.cons (.call 14 (.cons (.var 1) (.cons (.bin .Add (.agg .len (.val (.var 3))) (.int 1)) .nil))) .nil))))))
  (.cons (.asg (.name 13) (.idx (.val (.var 4)) (.int 0)))
  (.cons (.fr (.name 14) (.rng1 (.agg .len (.val (.var 3)))) (.cons (.asg (.name 15) (.ofL (.comp [("name", 17), ("digits", 18)] (.tup (.cons (.name 17) (.cons (.name 18) .nil))) (.q (.val (.var 12))) (.yes (.cmp .Eq (.var 17) (.idx (.val (.var 3)) (.var 14)))) (.var 18))))
  (.cons (.asg (.name 13) (.bin .Add (.var 13) (.bin .Mult (.idx (.val (.var 4)) (.bin .Add (.var 14) (.int 1))) (.idx (.lst (.cat (.lst (.comp [("digits", 18)] (.name 18) (.q (.val (.var 15))) .no (.call 13 (.cons (.var 18) .nil)))) (.lst (.disp (.cons (.call 13 (.cons (.ofL (.cat (.lst (.rep (.lst (.disp (.cons (.int 0) .nil))) (.bin .Add (.var 14) (.int 1)))) (.lst (.disp (.cons (.int 1) .nil))))) .nil)) .nil))))) (.int 0)))))
  .nil)))
  (.cons (.ife (.nt (.call 10 (.cons (.call 4 (.cons (.var 8) (.cons (.agg .tup (.lst (.comp [("name", 17), ("digits", 18)] (.tup (.cons (.name 17) (.cons (.name 18) .nil))) (.q (.val (.var 12))) .no (.tup (.cons (.var 17) (.cons (.call 12 (.cons (.call 13 (.cons (.var 18) .nil)) (.cons (.var 3) .nil))) .nil)))))) .nil))) (.cons (.call 12 (.cons (.var 13) (.cons (.var 3) .nil))) .nil)))) (.cons (.ret (.bl false))
  .nil) .nil)
  (.cons (.asg (.name 16) (.call 14 (.cons (.var 1) (.cons (.agg .len (.val (.var 3))) .nil))))
  (.cons (.asg (.name 11) (.bin .Add (.idx (.val (.var 4)) (.int 0)) (.agg .sum (.lst (.comp [("j", 14)] (.name 14) (.rng1 (.agg .len (.val (.var 3)))) .no (.bin .Mult (.idx (.val (.var 4)) (.bin .Add (.var 14) (.int 1))) (.idx (.val (.var 16)) (.var 14))))))))
  (.cons (.ife (.nt (.call 10 (.cons (.call 5 (.cons (.var 8) (.cons (.agg .tup (.lst (.comp [("j", 14)] (.name 14) (.rng1 (.agg .len (.val (.var 3)))) .no (.tup (.cons (.idx (.val (.var 3)) (.var 14)) (.cons (.idx (.val (.var 16)) (.var 14)) .nil)))))) .nil))) (.cons (.var 11) .nil)))) (.cons (.ret (.bl false))
  .nil) .nil)
  .nil))))))))))))))))
  (.cons (.ret (.bl true))
  .nil)))
abbrev n16 : List Str := ["script", "state", "turn", "names", "one", "other", "first", "second", "f", "g", "k", "due", "some", "total", "j", "told", "at", "name", "digits"]
def fds : List FD := [⟨2, 5, b0⟩, ⟨2, 2, b1⟩, ⟨2, 4, b2⟩, ⟨2, 2, b3⟩, ⟨2, 10, b4⟩, ⟨2, 6, b5⟩, ⟨1, 1, b6⟩, ⟨2, 5, b7⟩, ⟨2, 4, b8⟩, ⟨1, 1, b9⟩, ⟨2, 3, b10⟩, ⟨0, 0, b11⟩, ⟨2, 8, b12⟩, ⟨1, 3, b13⟩, ⟨2, 5, b14⟩, ⟨3, 6, b15⟩, ⟨1, 19, b16⟩]
/-- the defs: name, place among the statements of the top -/
def tab : List (Str × Nat) := [("form", 2), ("plus", 3), ("times", 4), ("minus", 5), ("image", 6), ("value", 7), ("_law_start", 9), ("_law_draw", 10), ("_law_shuffled", 11), ("_law_is_int", 12), ("_law_same", 13), ("_law_base", 14), ("_law_told", 15), ("_law_number", 16), ("_law_digits", 17), ("_law_in_parts", 18), ("law", 19)]
end K45

set_option Elab.async false
set_option linter.all false
set_option maxRecDepth 100000
set_option maxHeartbeats 4000000
/-! L45a: the plain law of k45: forms. -/
namespace K45
open PySem L2 PS
/-! ### what a call leaves -/
theorem okOld_same (n : Nat) : ∀ (M T : Store), okOld n M (M ++ T) = true
  | [], T => by cases T <;> rfl
  | o :: M, T => by
    show ((decide (o = o) || closedMO n o) && okOld n M (M ++ T)) = true
    rw [okOld_same n M T]
    simp
theorem gc_pure {M T : Store} {d : D} (h : closedD M.length d = true) : gcRet M d (M ++ T) = (d, M) := by
  unfold gcRet
  rw [if_pos (okOld_same _ M T), if_pos h]
  simp
/-! ### pairs of names and numbers -/
abbrev P2 := List (Str × Int)
def encP (ps : P2) : List D := ps.map fun p => .tup [.str p.1, .int p.2]
def encF (f : Int × P2) : D := .tup [.int f.1, .tup (encP f.2)]
theorem closed_encP (n : Nat) : ∀ ps : P2, closedDs n (encP ps) = true
  | [] => rfl
  | p :: ps => by
    show (closedD n _ && closedDs n (encP ps)) = true
    rw [closed_encP n ps]
    rfl
theorem closed_encF (n : Nat) (f : Int × P2) : closedD n (encF f) = true := by
  show (true && (closedDs n (encP f.2) && true)) = true
  rw [closed_encP]
  rfl
/-! ### tables -/
def encK (t : P2) : List (Key × D) := t.map fun p => (.inr p.1, .int p.2)
def get (t : P2) (x : Str) : Option Int := (t.find? fun p => decide (p.1 = x)).map (·.2)
def put (t : P2) (x : Str) (v : Int) : P2 := if (t.any fun p => decide (p.1 = x)) = true then t.map (fun p => if p.1 = x then (p.1, v) else p) else t ++ [(x, v)]
def val (t : P2) (x : Str) : Int := (get t x).getD 0
theorem getK_enc (x : Str) : ∀ t : P2, getK (encK t) (.inr x) = (get t x).map .int
  | [] => rfl
  | p :: t => by
    have ih := getK_enc x t
    unfold getK get at ih ⊢
    show Option.map (·.2) (((Sum.inr p.1, D.int p.2) :: encK t).find? _) = Option.map D.int (Option.map (·.2) ((p :: t).find? _))
    by_cases h : p.1 = x
    · rw [List.find?_cons_of_pos (by simp [h]), List.find?_cons_of_pos (by simp [h])]
      rfl
    · rw [List.find?_cons_of_neg (by simpa using h), List.find?_cons_of_neg (by simpa using h)]
      exact ih
theorem putD_enc (t : P2) (x : Str) (v : Int) : putD (encK t) (.inr x) (.int v) = encK (put t x v) := by
  have e : ((encK t).any fun kv => decide (kv.1 = (.inr x : Key))) = t.any fun p => decide (p.1 = x) := by
    unfold encK
    rw [List.any_map]
    congr 1
    funext p
    simp
  unfold putD put
  rw [e]
  split
  · unfold encK
    rw [List.map_map, List.map_map]
    apply List.map_congr_left
    intro p _
    by_cases h : p.1 = x
    · simp [h]
    · simp [h]
  · simp [encK]
theorem get_put (t : P2) (x y : Str) (v : Int) : get (put t x v) y = if y = x then some v else get t y := by
  unfold put
  split
  · rename_i h
    induction t with
    | nil => simp at h
    | cons p t ih =>
      by_cases hp : p.1 = x
      · by_cases hy : y = x
        · subst hy
          simp [get, hp]
        · have hpy : ¬ p.1 = y := fun z => hy (by rw [← z, hp])
          have hxy : ¬ x = y := fun z => hy z.symm
          simp only [List.map_cons, if_pos hp, if_neg hy]
          unfold get
          rw [List.find?_cons_of_neg (by simpa using hpy), List.find?_cons_of_neg (by simpa using hpy)]
          by_cases ht : (t.any fun p => decide (p.1 = x)) = true
          · have := ih ht
            rw [if_neg hy] at this
            exact this
          · have : t.map (fun p => if p.1 = x then (p.1, v) else p) = t := by
              rw [List.map_congr_left (g := id) fun q hq => ?_]
              · exact List.map_id t
              · rw [if_neg]
                · rfl
                · intro z
                  exact ht (List.any_eq_true.mpr ⟨q, hq, by simpa using z⟩)
            rw [this]
      · have ht : (t.any fun p => decide (p.1 = x)) = true := by simpa [hp] using h
        have ih := ih ht
        simp only [List.map_cons, if_neg hp]
        unfold get at ih ⊢
        by_cases hy : p.1 = y
        · have : ¬ y = x := fun z => hp (by rw [hy, z])
          rw [List.find?_cons_of_pos (by simpa using hy), List.find?_cons_of_pos (by simpa using hy), if_neg this]
        · rw [List.find?_cons_of_neg (by simpa using hy), List.find?_cons_of_neg (by simpa using hy)]
          exact ih
  · rename_i h
    have hn : t.find? (fun p => decide (p.1 = x)) = none := by
      rw [List.find?_eq_none]
      intro p hp z
      exact h (List.any_eq_true.mpr ⟨p, hp, z⟩)
    unfold get
    rw [List.find?_append]
    by_cases hy : y = x
    · subst hy
      rw [hn]
      simp
    · rw [if_neg hy]
      have : ¬ x = y := fun z => hy z.symm
      simp [this]
theorem val_put (t : P2) (x y : Str) (v : Int) : val (put t x v) y = if y = x then v else val t y := by
  unfold val
  rw [get_put]
  split <;> rfl
theorem mem_put (t : P2) (x y : Str) (v : Int) : y ∈ (put t x v).map (·.1) ↔ y = x ∨ y ∈ t.map (·.1) := by
  unfold put
  split
  · rename_i h
    have : (t.map (fun p => if p.1 = x then (p.1, v) else p)).map (·.1) = t.map (·.1) := by
      rw [List.map_map]
      apply List.map_congr_left
      intro p _
      show (if p.1 = x then (p.1, v) else p).1 = p.1
      split <;> rfl
    rw [this]
    constructor
    · exact .inr
    · rintro (z | z)
      · subst z
        obtain ⟨p, hp, e⟩ := List.any_eq_true.mp h
        exact List.mem_map.mpr ⟨p, hp, by simpa using e⟩
      · exact z
  · rw [List.map_append, List.mem_append]
    simp [or_comm]
theorem nodup_put (t : P2) (x : Str) (v : Int) (h : (t.map (·.1)).Nodup) : ((put t x v).map (·.1)).Nodup := by
  unfold put
  split
  · have : (t.map (fun p => if p.1 = x then (p.1, v) else p)).map (·.1) = t.map (·.1) := by
      rw [List.map_map]
      apply List.map_congr_left
      intro p _
      show (if p.1 = x then (p.1, v) else p).1 = p.1
      split <;> rfl
    rw [this]
    exact h
  · rename_i z
    rw [List.map_append, List.nodup_append]
    refine ⟨h, by simp, fun a ha b hb e => ?_⟩
    simp at hb
    subst hb
    subst e
    obtain ⟨p, hp, e⟩ := List.mem_map.mp ha
    exact z (List.any_eq_true.mpr ⟨p, hp, by simpa using e⟩)
/-- how much a name has in all -/
def sg (ps : P2) (x : Str) : Int := ((ps.filter fun p => decide (p.1 = x)).map (·.2)).sum
theorem sg_cons (p : Str × Int) (ps : P2) (x : Str) : sg (p :: ps) x = (if p.1 = x then p.2 else 0) + sg ps x := by
  unfold sg
  by_cases h : p.1 = x
  · rw [List.filter_cons_of_pos (by simpa using h), if_pos h]; simp
  · rw [List.filter_cons_of_neg (by simpa using h), if_neg h]; simp
theorem sg_append (ps qs : P2) (x : Str) : sg (ps ++ qs) x = sg ps x + sg qs x := by
  induction ps with
  | nil => simp [sg]
  | cons p ps ih => rw [List.cons_append, sg_cons, sg_cons, ih]; omega
/-- the sums by name -/
def addP (t : P2) (p : Str × Int) : P2 := put t p.1 ((get t p.1).getD 0 + p.2)
theorem val_fold (ps : P2) : ∀ (t : P2) (x : Str), val (ps.foldl addP t) x = val t x + sg ps x := by
  induction ps with
  | nil => intro t x; simp [sg]
  | cons p ps ih =>
    intro t x
    rw [List.foldl_cons, ih, sg_cons]
    unfold addP
    rw [val_put]
    by_cases h : x = p.1
    · subst h
      rw [if_pos rfl, if_pos rfl]
      show (get t p.1).getD 0 + p.2 + sg ps p.1 = val t p.1 + _
      unfold val
      omega
    · rw [if_neg h, if_neg (fun z => h z.symm)]
      omega
theorem nodup_fold (ps : P2) : ∀ t : P2, (t.map (·.1)).Nodup → ((ps.foldl addP t).map (·.1)).Nodup := by
  induction ps with
  | nil => intro t h; exact h
  | cons p ps ih => intro t h; exact ih _ (nodup_put _ _ _ h)
theorem mem_fold (ps : P2) : ∀ (t : P2) (x : Str), x ∈ (ps.foldl addP t).map (·.1) ↔ x ∈ t.map (·.1) ∨ x ∈ ps.map (·.1) := by
  induction ps with
  | nil => intro t x; simp
  | cons p ps ih =>
    intro t x
    rw [List.foldl_cons, ih]
    unfold addP
    rw [mem_put]
    simp only [List.map_cons, List.mem_cons]
    constructor
    · rintro ((h | h) | h)
      · exact .inr (.inl h)
      · exact .inl h
      · exact .inr (.inr h)
    · rintro (h | h | h)
      · exact .inl (.inr h)
      · exact .inl (.inl h)
      · exact .inr h
/-! ### the form -/
def ltS (a b : Str) : Bool := dLt (.str a) (.str b)
theorem ltS_swo : SrtO.Swo ltS := ⟨fun x y h => dLt_swo.asym _ _ h, fun x y z h1 h2 => dLt_swo.tr _ _ _ h1 h2⟩
theorem ltS_anti {a b : Str} (h1 : ltS a b = false) (h2 : ltS b a = false) : a = b := by
  have := dLt_anti (ds := [.str a, .str b]) (by rfl) (.str a) (by simp) (.str b) (by simp) h1 h2
  cases this
  rfl
theorem sortB_map {α β : Type} (lt : β → β → Bool) (f : α → β) : ∀ l : List α, sortB lt (l.map f) = (sortB (fun a b => lt (f a) (f b)) l).map f := by
  have hi : ∀ (a : α) (l : List α), insB lt (f a) (l.map f) = (insB (fun a b => lt (f a) (f b)) a l).map f := by
    intro a l
    induction l with
    | nil => rfl
    | cons b l ih =>
      show (if lt (f b) (f a) = true then f b :: insB lt (f a) (l.map f) else f a :: f b :: l.map f) = (if lt (f b) (f a) = true then b :: insB _ a l else a :: b :: l).map f
      split
      · rw [ih]; rfl
      · rfl
  intro l
  induction l with
  | nil => rfl
  | cons a l ih =>
    show insB lt (f a) (sortB lt (l.map f)) = (insB _ a (sortB _ l)).map f
    rw [ih, hi]
def tabF (ps : P2) : P2 := ps.foldl addP []
def cut0 (t : P2) (ks : List Str) : P2 := ks.filterMap fun x => if val t x = 0 then none else some (x, val t x)
def formF (c : Int) (ps : P2) : Int × P2 := (c, cut0 (tabF ps) (sortB ltS ((tabF ps).map (·.1))))
/-- each name once, in order, with what is not 0 -/
structure IsCan (r : P2) : Prop where
  srt : r.Pairwise fun p q => ltS p.1 q.1 = true
  nz : ∀ p ∈ r, p.2 ≠ 0
theorem ltS_of {a b : Str} (h : ltS b a = false) (hne : a ≠ b) : ltS a b = true := by
  cases e : ltS a b with
  | true => rfl
  | false => exact absurd (ltS_anti e h) hne
theorem cut_can (t : P2) : ∀ ks : List Str, ks.Nodup → ks.Pairwise (fun x y => ltS y x = false) → IsCan (cut0 t ks) ∧ (∀ p ∈ cut0 t ks, p.1 ∈ ks) ∧ ∀ x, sg (cut0 t ks) x = if x ∈ ks then val t x else 0
  | [], _, _ => ⟨⟨List.Pairwise.nil, fun p h => by simp [cut0] at h⟩, fun p h => by simp [cut0] at h, fun x => rfl⟩
  | k :: ks, nd, pw => by
    obtain ⟨n1, n2⟩ := List.nodup_cons.mp nd
    obtain ⟨p1, p2⟩ := List.pairwise_cons.mp pw
    obtain ⟨⟨i1, i2⟩, i3, i4⟩ := cut_can t ks n2 p2
    by_cases h : val t k = 0
    · have e : cut0 t (k :: ks) = cut0 t ks := by
        unfold cut0
        rw [List.filterMap_cons_none (by rw [if_pos h])]
      rw [e]
      refine ⟨⟨i1, i2⟩, fun p hp => List.mem_cons_of_mem _ (i3 p hp), fun x => ?_⟩
      rw [i4]
      by_cases hx : x = k
      · subst hx
        rw [if_neg n1, if_pos List.mem_cons_self, h]
      · simp [hx]
    · have e : cut0 t (k :: ks) = (k, val t k) :: cut0 t ks := by
        unfold cut0
        rw [List.filterMap_cons_some (by rw [if_neg h])]
      rw [e]
      refine ⟨⟨List.pairwise_cons.mpr ⟨fun q hq => ?_, i1⟩, fun p hp => ?_⟩, fun p hp => ?_, fun x => ?_⟩
      · have hm := i3 q hq
        exact ltS_of (p1 _ hm) fun z => n1 (by have z : k = q.1 := z; rw [z]; exact hm)
      · rcases List.mem_cons.mp hp with z | z
        · rw [z]; exact h
        · exact i2 p z
      · rcases List.mem_cons.mp hp with z | z
        · rw [z]; exact List.mem_cons_self
        · exact List.mem_cons_of_mem _ (i3 p z)
      · rw [sg_cons, i4]
        by_cases hx : x = k
        · subst hx
          simp [n1]
        · have : ¬ k = x := fun z => hx z.symm
          simp [hx, this]
theorem val_none {t : P2} {x : Str} (h : x ∉ t.map (·.1)) : val t x = 0 := by
  have : t.find? (fun p => decide (p.1 = x)) = none := by
    rw [List.find?_eq_none]
    intro p hp z
    exact h (List.mem_map.mpr ⟨p, hp, by simpa using z⟩)
  unfold val get
  rw [this]
  rfl
theorem form_can (c : Int) (ps : P2) : IsCan (formF c ps).2 ∧ ∀ x, sg (formF c ps).2 x = sg ps x := by
  have nd : ((tabF ps).map (·.1)).Nodup := nodup_fold ps [] (by simp)
  have pm := sortB_perm (lt := ltS) ((tabF ps).map (·.1))
  obtain ⟨h1, -, h3⟩ := cut_can (tabF ps) _ (pm.nodup_iff.mpr nd) (sortB_srt ltS_swo _)
  refine ⟨h1, fun x => ?_⟩
  have hv : val (tabF ps) x = sg ps x := by
    have := val_fold ps [] x
    simpa [val, get, tabF] using this
  have : sg (formF c ps).2 x = _ := h3 x
  rw [this]
  split
  · exact hv
  · rename_i h
    rw [← hv, val_none fun z => h (pm.mem_iff.mpr z)]
theorem can_mem {r : P2} (h : IsCan r) (x : Str) (v : Int) (hv : v ≠ 0) : (x, v) ∈ r ↔ sg r x = v := by
  induction r with
  | nil =>
    constructor
    · intro z; simp at z
    · intro z; exact absurd z.symm hv
  | cons p r ih =>
    obtain ⟨p1, p2⟩ := List.pairwise_cons.mp h.srt
    have ih := ih ⟨p2, fun q hq => h.nz q (List.mem_cons_of_mem _ hq)⟩
    have hno : ∀ q ∈ r, q.1 ≠ p.1 := fun q hq e => by
      have := p1 q hq
      rw [e, ltS_swo.refl] at this
      cases this
    rw [sg_cons, List.mem_cons]
    by_cases hx : p.1 = x
    · have h0 : sg r x = 0 := by
        unfold sg
        rw [List.filter_eq_nil_iff.mpr fun q hq z => hno q hq (by rw [hx]; simpa using z)]
        rfl
      rw [if_pos hx, h0]
      constructor
      · rintro (z | z)
        · rw [← z]; simp
        · exact absurd hx.symm (hno _ z)
      · intro z
        left
        rw [← hx, ← z]
        simp
    · rw [if_neg hx, Int.zero_add, ← ih]
      constructor
      · rintro (z | z)
        · rw [← z] at hx; exact absurd rfl hx
        · exact z
      · exact .inr
theorem srt_ext : ∀ {a b : P2}, a.Pairwise (fun p q => ltS p.1 q.1 = true) → b.Pairwise (fun p q => ltS p.1 q.1 = true) → (∀ p, p ∈ a ↔ p ∈ b) → a = b
  | [], [], _, _, _ => rfl
  | [], q :: b, _, _, h => absurd ((h q).mpr List.mem_cons_self) (by simp)
  | p :: a, [], _, _, h => absurd ((h p).mp List.mem_cons_self) (by simp)
  | p :: a, q :: b, ha, hb, h => by
    obtain ⟨a1, a2⟩ := List.pairwise_cons.mp ha
    obtain ⟨b1, b2⟩ := List.pairwise_cons.mp hb
    have e : p = q := by
      rcases List.mem_cons.mp ((h p).mp List.mem_cons_self) with z | z
      · exact z
      · rcases List.mem_cons.mp ((h q).mpr List.mem_cons_self) with y | y
        · exact y.symm
        · have t1 := a1 q y
          have t2 := b1 p z
          rw [ltS_swo.asym _ _ t1] at t2
          cases t2
    subst e
    congr 1
    refine srt_ext a2 b2 fun r => ?_
    have hr := h r
    rw [List.mem_cons, List.mem_cons] at hr
    constructor
    · intro z
      rcases hr.mp (.inr z) with y | y
      · subst y
        have := a1 r z
        rw [ltS_swo.refl] at this
        cases this
      · exact y
    · intro z
      rcases hr.mpr (.inr z) with y | y
      · subst y
        have := b1 r z
        rw [ltS_swo.refl] at this
        cases this
      · exact y
theorem can_ext {a b : P2} (ha : IsCan a) (hb : IsCan b) (h : ∀ x, sg a x = sg b x) : a = b := by
  refine srt_ext ha.srt hb.srt fun p => ?_
  obtain ⟨x, v⟩ := p
  by_cases hv : v = 0
  · constructor
    · intro z; exact absurd hv (ha.nz _ z)
    · intro z; exact absurd hv (hb.nz _ z)
  · rw [can_mem ha x v hv, can_mem hb x v hv, h]
theorem formF_id {c : Int} {r : P2} (h : IsCan r) : formF c r = (c, r) := by
  have := form_can c r
  show (c, (formF c r).2) = (c, r)
  rw [can_ext this.1 h this.2]
end K45

set_option Elab.async false
set_option linter.all false
set_option maxRecDepth 100000
set_option maxHeartbeats 4000000
/-! L45b: what the defs of k45 compute. -/
namespace K45
open PySem L2 PS
theorem lim0 : 0 ≤ lim := by decide
theorem lim1 : 1 ≤ lim := by decide
theorem lim2 : 2 ≤ lim := by decide
theorem lim3 : 3 ≤ lim := by decide
theorem lim4 : 4 ≤ lim := by decide
theorem lim5 : 5 ≤ lim := by decide
theorem at_last (M : Store) (o : MO) : (M ++ [o])[M.length]? = some o := by simp
theorem set_last (M : Store) (o o' : MO) : (M ++ [o]).set M.length o' = M ++ [o'] := by simp
theorem at_old {M T : Store} {i : Nat} {o : MO} (h : M[i]? = some o) : (M ++ T)[i]? = some o := by
  rw [List.getElem?_append_left (List.getElem?_eq_some_iff.mp h).1]
  exact h
theorem len_put (t : P2) (x : Str) (v : Int) : (put t x v).length ≤ t.length + 1 := by
  unfold put
  split <;> simp
theorem forG_nx {ok : Store → Bool} {F : D → PS.Env → Store → Option (Out × PS.Env × Store)} {d : D} {ds : List D} {ρ ρ1 : PS.Env} {M M1 : Store} (h : ok M = true) (s : F d ρ M = some (.nx, ρ1, M1)) : forG ok F (d :: ds) ρ M = forG ok F ds ρ1 M1 := by
  rw [forG, if_pos h, s]
theorem getD_int (o : Option Int) : (o.map D.int).getD (.int 0) = .int (o.getD 0) := by cases o <;> rfl
theorem form_loop (Φ : Nat → Fn) (W : Nat) (c q : D) (M : Store) {ok : Store → Bool} (hok : ∀ o, ok (M ++ [o]) = true) : ∀ (ps t : P2) (x3 x4 : Option D), t.length + ps.length < 1000000 → ∃ y3 y4,
    forG ok (fun d ρ M => match asT Φ (.tup (.cons (.name 3) (.cons (.name 4) .nil))) d ρ M with
        | some (ρ1, M1) => exSs Φ W (.cons (.asg (.sub (.var 2) (.var 3)) (.bin .Add (.mth .get2 (.var 2) (.cons (.var 3) (.cons (.int 0) .nil))) (.var 4))) .nil) ρ1 M1
        | none => none) (encP ps) [some c, some q, some (.ref M.length), x3, x4] (M ++ [.dK (encK t)])
      = some (.nx, [some c, some q, some (.ref M.length), y3, y4], M ++ [.dK (encK (ps.foldl addP t))])
  | [], t, x3, x4, _ => ⟨x3, x4, by
    show forG _ _ [] _ _ = _
    unfold forG
    rw [if_pos (hok _)]
    rfl⟩
  | p :: ps, t, x3, x4, hl => by
    have hl' : t.length < 1000000 := by simp at hl; omega
    obtain ⟨y3, y4, ih⟩ := form_loop Φ W c q M hok ps (addP t p) (some (.str p.1)) (some (.int p.2)) (by
      have := len_put t p.1 ((get t p.1).getD 0 + p.2)
      simp at hl
      unfold addP
      omega)
    refine ⟨y3, y4, ?_⟩
    refine (forG_nx (hok _) ?_).trans ih
    dsimp only
    simp only [exSs, exS, evE, evEs, evO, evP, evL, evQ, evI, asT, asTs, wipeD, List.map_cons, List.map_nil, List.getElem?_cons_zero, List.getElem?_cons_succ, List.getElem?_nil, List.set_cons_zero, List.set_cons_succ, List.length_cons, List.length_nil, Nat.reduceAdd, Nat.reduceLT, Nat.zero_lt_succ, Nat.succ_lt_succ_iff, if_true, if_false, ite_true, ite_false, Bool.false_eq_true, Bool.not_true, Bool.not_false, recv, mthS, keyOf, binS, putS, Option.map_some, Option.bind_some, Option.map_none, Option.bind_none, idxS, items, itemsL, itemsW, truth, lim0, lim1, lim2, lim3, lim4, lim5, at_last, set_last, getK_enc, getD_int, putD_enc]
    rw [if_pos (show (encK t).length < lim by have : lim = 16777216 := rfl; simp [encK]; omega)]
    rfl

theorem exSs_nx {Φ : Nat → Fn} {W : Nat} {s : S} {ss : Ss} {ρ ρ1 : PS.Env} {M M1 : Store} (h : exS Φ W s ρ M = some (.nx, ρ1, M1)) : exSs Φ W (.cons s ss) ρ M = exSs Φ W ss ρ1 M1 := by
  rw [exSs.eq_def]
  dsimp only
  rw [h]
theorem exSs_rt {Φ : Nat → Fn} {W : Nat} {s : S} {ss : Ss} {ρ ρ1 : PS.Env} {M M1 : Store} {d : D} (h : exS Φ W s ρ M = some (.rt d, ρ1, M1)) : exSs Φ W (.cons s ss) ρ M = some (.rt d, ρ1, M1) := by
  rw [exSs.eq_def]
  dsimp only
  rw [h]
theorem runF_rt {W k f : Nat} {fd : FD} {ds : List D} {M M1 : Store} {d : D} {ρ1 : PS.Env} (h1 : fds[f]? = some fd) (h2 : ds.length = fd.np) (h3 : exSs (runF fds W k) W fd.body (ds.map some ++ List.replicate (fd.nn - fd.np) none) M = some (.rt d, ρ1, M1)) : runF fds W (k + 1) f ds M = some (gcRet M d M1) := by
  rw [runF, h1]
  dsimp only
  rw [if_pos h2, h3]
theorem compG_map {ok : Store → Bool} {f : D → Store → R (Option D)} {M : Store} (hok : ok M = true) (g : D → Option D) : ∀ (ds acc : List D), (∀ d ∈ ds, f d M = some (g d, M)) → acc.length + ds.length < lim → compG ok f ds acc M = some (acc ++ ds.filterMap g, M)
  | [], acc, _, _ => by
    rw [compG, if_pos hok]
    simp
  | d :: ds, acc, h, hl => by
    rw [compG, if_pos hok, h d List.mem_cons_self]
    have hl2 : acc.length + (ds.length + 1) < lim := by simpa using hl
    cases hg : g d with
    | none =>
      dsimp only
      rw [compG_map hok g ds acc (fun d m => h d (List.mem_cons_of_mem _ m)) (by omega), List.filterMap_cons_none hg]
    | some y =>
      dsimp only
      rw [if_pos (by omega), compG_map hok g ds (acc ++ [y]) (fun d m => h d (List.mem_cons_of_mem _ m)) (by simp; omega), List.filterMap_cons_some hg]
      simp
theorem evL_comp {Φ : Nat → Fn} {own : List (Str × Nat)} {t : T} {it : I} {c : O} {elt : E} {ρ : PS.Env} {M M1 : Store} {ok : Store → Bool} {ds : List D} (h : evI Φ it ρ M = some (ok, ds, M1)) : evL Φ (.comp own t it c elt) ρ M = compG ok (turnC (asT Φ t) (evO Φ c) (evE Φ elt) (wipeD ρ (own.map (·.2)))) ds [] M1 := by
  rw [evL.eq_def]
  dsimp only
  rw [h]
  rfl
/-- a comprehension that leaves the store alone -/
theorem evL_map {Φ : Nat → Fn} {own : List (Str × Nat)} {t : T} {it : I} {c : O} {elt : E} {ρ : PS.Env} {M M1 : Store} {ok : Store → Bool} {ds : List D} (g : D → Option D) (h : evI Φ it ρ M = some (ok, ds, M1)) (hok : ok M1 = true) (hl : ds.length < lim)
    (hg : ∀ d ∈ ds, turnC (asT Φ t) (evO Φ c) (evE Φ elt) (wipeD ρ (own.map (·.2))) d M1 = some (g d, M1)) : evL Φ (.comp own t it c elt) ρ M = some (ds.filterMap g, M1) := by
  rw [evL_comp h, compG_map hok g ds [] hg (by simpa using hl)]
  rfl
theorem strs_sortable : ∀ l : List Str, l.length < 64 → sortable (l.map D.str) = true := by
  intro l h
  unfold sortable
  have : (l.map D.str).all srS = true := by
    rw [List.all_map]
    exact List.all_eq_true.mpr fun _ _ => rfl
  rw [this]
  simp [h]
theorem get_mem {t : P2} {x : Str} (h : x ∈ t.map (·.1)) : get t x = some (val t x) := by
  unfold val
  cases e : get t x with
  | some v => rfl
  | none =>
    obtain ⟨p, hp, e2⟩ := List.mem_map.mp h
    unfold get at e
    rw [Option.map_eq_none_iff, List.find?_eq_none] at e
    exact absurd e2 (by simpa using e p hp)
theorem form_run (W k : Nat) (c : Int) (q : D) (ps : P2) (M : Store) (hq : ∀ T, items (M ++ T) (.val q) = some (encP ps)) (hst : ∀ o, stands (.val q) (encP ps) (M ++ [o]) = true) (hl : ps.length < 1000000)
    (hn : ∀ p ∈ ps, PyData.strOk p.1 = true) (hk : (tabF ps).length < 64) : runF fds W (k + 1) 0 [.int c, q] M = some (encF (formF c ps), M) := by
  obtain ⟨y3, y4, lp⟩ := form_loop (runF fds W k) W (.int c) q M (ok := stands (.val q) (encP ps)) hst ps [] none none (by simpa using hl)
  have hs : (encK (tabF ps)).map (fun kv => dK kv.1) = ((tabF ps).map (·.1)).map D.str := by
    unfold encK
    rw [List.map_map, List.map_map]
    rfl
  have hok : ((encK (tabF ps)).all fun kv => okK kv.1) = true := by
    rw [List.all_eq_true]
    intro kv hkv
    obtain ⟨p, hp, e⟩ := List.mem_map.mp hkv
    have := (mem_fold ps [] p.1).mp (List.mem_map.mpr ⟨p, hp, rfl⟩)
    simp only [List.map_nil, List.not_mem_nil, false_or] at this
    obtain ⟨r, hr, e2⟩ := List.mem_map.mp this
    rw [← e]
    show PyData.strOk p.1 = true
    rw [← e2]
    exact hn r hr
  have hso : sortD ((encK (tabF ps)).map fun kv => dK kv.1) = some ((sortB ltS ((tabF ps).map (·.1))).map D.str) := by
    unfold sortD
    rw [hs, if_pos (strs_sortable _ (by simpa using hk)), sortB_map]
    rfl
  refine (runF_rt rfl rfl (d := encF (formF c ps)) (M1 := M ++ [.dK (encK (tabF ps))]) (ρ1 := [some (.int c), some q, some (.ref M.length), y3, y4]) ?_).trans (by rw [gc_pure (closed_encF _ _)])
  show exSs (runF fds W k) W b0 [some (.int c), some q, none, none, none] M = _
  unfold b0
  rw [exSs_nx (ρ1 := [some (.int c), some q, some (.ref M.length), none, none]) (M1 := M ++ [.dK []]) (by simp only [exSs, exS, evE, evEs, evO, evP, evL, evQ, evI, asT, asTs, wipeD, List.map_cons, List.map_nil, List.getElem?_cons_zero, List.getElem?_cons_succ, List.getElem?_nil, List.set_cons_zero, List.set_cons_succ, List.length_cons, List.length_nil, Nat.reduceAdd, Nat.reduceLT, Nat.zero_lt_succ, Nat.succ_lt_succ_iff, if_true, if_false, ite_true, ite_false, Bool.false_eq_true, Bool.not_true, Bool.not_false, recv, mthS, keyOf, binS, putS, Option.map_some, Option.bind_some, Option.map_none, Option.bind_none, idxS, items, itemsL, itemsW, truth, lim0, lim1, lim2, lim3, lim4, lim5])]
  rw [exSs_nx (ρ1 := [some (.int c), some q, some (.ref M.length), y3, y4]) (M1 := M ++ [.dK (encK (tabF ps))]) (by
    rw [exS.eq_def]
    dsimp only
    rw [evI.eq_def]
    dsimp only
    rw [evQ.eq_def]
    dsimp only
    rw [evE.eq_def]
    simp only [List.getElem?_cons_zero, List.getElem?_cons_succ, hq, Option.map_some]
    exact lp)]
  refine exSs_rt ?_
  have hks : ∀ x ∈ sortB ltS ((tabF ps).map (·.1)), x ∈ (tabF ps).map (·.1) := fun x hx => (sortB_perm _).mem_iff.mp hx
  have hlen : ((encK (tabF ps)).length) < 64 := by simpa [encK] using hk
  have hI : evI (runF fds W k) (.q (.lst (.sortedD (.var 2)))) [some (.int c), some q, some (.ref M.length), y3, y4] (M ++ [.dK (encK (tabF ps))]) = some (stands (.tmp ((sortB ltS ((tabF ps).map (·.1))).map D.str)) ((sortB ltS ((tabF ps).map (·.1))).map D.str), (sortB ltS ((tabF ps).map (·.1))).map D.str, M ++ [.dK (encK (tabF ps))]) := by
    simp only [exSs, exS, evE, evEs, evO, evP, evL, evQ, evI, asT, asTs, wipeD, List.map_cons, List.map_nil, List.getElem?_cons_zero, List.getElem?_cons_succ, List.getElem?_nil, List.set_cons_zero, List.set_cons_succ, List.length_cons, List.length_nil, Nat.reduceAdd, Nat.reduceLT, Nat.zero_lt_succ, Nat.succ_lt_succ_iff, if_true, if_false, ite_true, ite_false, Bool.false_eq_true, Bool.not_true, Bool.not_false, recv, mthS, keyOf, binS, putS, Option.map_some, Option.bind_some, Option.map_none, Option.bind_none, idxS, items, itemsL, itemsW, truth, lim0, lim1, lim2, lim3, lim4, lim5, at_last, hok, hso, hlen, decide_true, Bool.and_self]
  have hc := evL_map (Φ := runF fds W k) (own := [("name", 3)]) (t := .name 3) (c := .yes (.cmp .NotEq (.idx (.val (.var 2)) (.var 3)) (.int 0))) (elt := .tup (.cons (.var 3) (.cons (.idx (.val (.var 2)) (.var 3)) .nil)))
    (fun d => match d with
      | .str x => if val (tabF ps) x = 0 then none else some (.tup [.str x, .int (val (tabF ps) x)])
      | _ => none) hI rfl (by
        have : lim = 16777216 := rfl
        have := (sortB_perm (lt := ltS) ((tabF ps).map (·.1))).length_eq
        simp at this
        simp
        omega) (fun d hd => by
      obtain ⟨x, hx, rfl⟩ := List.mem_map.mp hd
      have hg := get_mem (hks x hx)
      unfold turnC
      simp only [exSs, exS, evE, evEs, evO, evP, evL, evQ, evI, asT, asTs, wipeD, List.map_cons, List.map_nil, List.getElem?_cons_zero, List.getElem?_cons_succ, List.getElem?_nil, List.set_cons_zero, List.set_cons_succ, List.length_cons, List.length_nil, Nat.reduceAdd, Nat.reduceLT, Nat.zero_lt_succ, Nat.succ_lt_succ_iff, if_true, if_false, ite_true, ite_false, Bool.false_eq_true, Bool.not_true, Bool.not_false, recv, mthS, keyOf, binS, putS, Option.map_some, Option.bind_some, Option.map_none, Option.bind_none, idxS, items, itemsL, itemsW, truth, lim0, lim1, lim2, lim3, lim4, lim5, at_last, getK_enc, hg, cmpS]
      have e1 : (plainD (.int (val (tabF ps) x)) && plainD (.int 0)) = true := rfl
      rw [e1]
      by_cases h0 : val (tabF ps) x = 0
      · simp [h0, eqD]
      · have h1 : eqD (.int (val (tabF ps) x)) (.int 0) = false := by
          show (val (tabF ps) x == 0) = false
          simpa using h0
        rw [h1]
        simp only [exSs, exS, evE, evEs, evO, evP, evL, evQ, evI, asT, asTs, wipeD, List.map_cons, List.map_nil, List.getElem?_cons_zero, List.getElem?_cons_succ, List.getElem?_nil, List.set_cons_zero, List.set_cons_succ, List.length_cons, List.length_nil, Nat.reduceAdd, Nat.reduceLT, Nat.zero_lt_succ, Nat.succ_lt_succ_iff, if_true, if_false, ite_true, ite_false, Bool.false_eq_true, Bool.not_true, Bool.not_false, recv, mthS, keyOf, binS, putS, Option.map_some, Option.bind_some, Option.map_none, Option.bind_none, idxS, items, itemsL, itemsW, truth, lim0, lim1, lim2, lim3, lim4, lim5, at_last, getK_enc, hg, h0]
        try rfl)
  have e3 : ((sortB ltS ((tabF ps).map (·.1))).map D.str).filterMap (fun d => match d with
      | .str x => if val (tabF ps) x = 0 then none else some (.tup [.str x, .int (val (tabF ps) x)])
      | _ => none) = encP (formF c ps).2 := by
    show _ = encP (cut0 (tabF ps) (sortB ltS ((tabF ps).map (·.1))))
    unfold encP cut0
    rw [List.filterMap_map, List.map_filterMap]
    congr 1
    funext x
    show (if val (tabF ps) x = 0 then none else some (D.tup [.str x, .int (val (tabF ps) x)])) = Option.map _ (if val (tabF ps) x = 0 then none else some (x, val (tabF ps) x))
    split <;> rfl
  rw [e3] at hc
  simp only [exSs, exS, evE, evEs, evO, evP, evQ, asT, asTs, wipeD, List.map_cons, List.map_nil, List.getElem?_cons_zero, List.getElem?_cons_succ, List.getElem?_nil, List.set_cons_zero, List.set_cons_succ, List.length_cons, List.length_nil, Nat.reduceAdd, Nat.reduceLT, Nat.zero_lt_succ, Nat.succ_lt_succ_iff, if_true, if_false, ite_true, ite_false, Bool.false_eq_true, Bool.not_true, Bool.not_false, recv, mthS, keyOf, binS, putS, Option.map_some, Option.bind_some, Option.map_none, Option.bind_none, idxS, items, itemsL, itemsW, truth, lim0, lim1, lim2, lim3, lim4, lim5, hc, aggS]
  try rfl
end K45

set_option Elab.async false
set_option linter.all false
set_option maxRecDepth 100000
set_option maxHeartbeats 4000000
/-! L45c: plus, times, minus, image, value. -/
namespace K45
open PySem L2 PS
theorem gc_id {M : Store} {d : D} (h : closedD M.length d = true) : gcRet M d M = (d, M) := by
  have := gc_pure (T := []) h
  rw [List.append_nil] at this
  exact this
theorem at20 (a b : D) : atI [a, b] 0 = some a := rfl
theorem at21 (a b : D) : atI [a, b] 1 = some b := rfl
theorem nodup_sub {α : Type} [DecidableEq α] : ∀ {l m : List α}, l.Nodup → (∀ x ∈ l, x ∈ m) → l.length ≤ m.length
  | [], _, _, _ => Nat.zero_le _
  | x :: l, m, nd, h => by
    obtain ⟨n1, n2⟩ := List.nodup_cons.mp nd
    have hx := h x List.mem_cons_self
    have := nodup_sub (m := m.erase x) n2 fun y hy => (List.mem_erase_of_ne (fun e => n1 (by rw [← e]; exact hy))).mpr (h y (List.mem_cons_of_mem _ hy))
    have h2 := List.length_erase_of_mem hx
    have h3 : 0 < m.length := List.length_pos_of_mem hx
    simp
    omega
abbrev N4 : List Str := ["s0", "s1", "@n", "t"]
structure Ok4 (n : Nat) (ps : P2) : Prop where
  len : ps.length ≤ n
  nm : ∀ p ∈ ps, p.1 ∈ N4
theorem ok4_str : ∀ x ∈ N4, PyData.strOk x = true := by decide +kernel
theorem tab_len {n : Nat} {ps : P2} (h : Ok4 n ps) : (tabF ps).length ≤ 4 := by
  have := nodup_sub (l := (tabF ps).map (·.1)) (m := N4) (nodup_fold ps [] (by simp)) fun x hx => by
    have := (mem_fold ps [] x).mp hx
    simp only [List.map_nil, List.not_mem_nil, false_or] at this
    obtain ⟨p, hp, e⟩ := List.mem_map.mp this
    rw [← e]
    exact h.nm p hp
  rw [List.length_map] at this
  exact this
theorem form_tup {n : Nat} (W k : Nat) (c : Int) {ps : P2} (M : Store) (h : Ok4 n ps) (hn : n < 1000000) : runF fds W (k + 1) 0 [.int c, .tup (encP ps)] M = some (encF (formF c ps), M) :=
  form_run W k c _ ps M (fun _ => rfl) (fun _ => rfl) (by have := h.len; omega) (fun p hp => ok4_str _ (h.nm p hp)) (by have := tab_len h; omega)
theorem form_ref {n : Nat} (W k : Nat) (c : Int) {j : Nat} {ps : P2} (M : Store) (h : Ok4 n ps) (hn : n < 1000000) (hj : M[j]? = some (.lst (encP ps))) : runF fds W (k + 1) 0 [.int c, .ref j] M = some (encF (formF c ps), M) :=
  form_run W k c _ ps M (fun T => by show listAt (M ++ T) j = _; unfold listAt; rw [at_old hj]) (fun o => by show decide (listAt (M ++ [o]) j = some (encP ps)) = true; unfold listAt; rw [at_old hj]; simp) (by have := h.len; omega) (fun p hp => ok4_str _ (h.nm p hp)) (by have := tab_len h; omega)
theorem form_ok {n : Nat} (c : Int) {ps : P2} (h : Ok4 n ps) : Ok4 4 (formF c ps).2 := by
  have hm : ∀ (t : P2) (ks : List Str), (cut0 t ks).length ≤ ks.length ∧ ∀ p ∈ cut0 t ks, p.1 ∈ ks := fun t ks => by
    refine ⟨List.length_filterMap_le _ _, fun p hp => ?_⟩
    obtain ⟨x, hx, e⟩ := List.mem_filterMap.mp hp
    split at e
    · cases e
    · cases e
      exact hx
  have pm := sortB_perm (lt := ltS) ((tabF ps).map (·.1))
  obtain ⟨h1, h2⟩ := hm (tabF ps) (sortB ltS ((tabF ps).map (·.1)))
  refine ⟨?_, fun p hp => ?_⟩
  · have := tab_len h
    have e := pm.length_eq
    rw [List.length_map] at e
    show (cut0 (tabF ps) (sortB ltS ((tabF ps).map (·.1)))).length ≤ 4
    omega
  · have := pm.mem_iff.mp (h2 p hp)
    have := (mem_fold ps [] p.1).mp this
    simp only [List.map_nil, List.not_mem_nil, false_or] at this
    obtain ⟨q, hq, e⟩ := List.mem_map.mp this
    rw [← e]
    exact h.nm q hq
def plusF (f g : Int × P2) : Int × P2 := if g.2 = [] then (f.1 + g.1, f.2) else formF (f.1 + g.1) (f.2 ++ g.2)
theorem encP_app (a b : P2) : encP (a ++ b) = encP a ++ encP b := by simp [encP]
theorem encP_len (a : P2) : (encP a).length = a.length := by simp [encP]
theorem encP_empty (a : P2) : (encP a).isEmpty = a.isEmpty := by cases a <;> rfl
theorem plus_run (W k : Nat) {f g : Int × P2} (M : Store) (hf : Ok4 4 f.2) (hg : Ok4 4 g.2) : runF fds W (k + 2) 1 [encF f, encF g] M = some (encF (plusF f g), M) := by
  refine (runF_rt rfl rfl (d := encF (plusF f g)) (M1 := M) (ρ1 := [some (encF f), some (encF g)]) ?_).trans (by rw [gc_id (closed_encF _ _)])
  show exSs (runF fds W (k + 1)) W b1 [some (encF f), some (encF g)] M = _
  unfold b1 plusF
  by_cases h : g.2 = []
  · rw [if_pos h]
    refine exSs_rt ?_
    unfold encF
    simp only [exSs, exS, evE, evEs, evO, evP, evL, evQ, evI, asT, asTs, wipeD, List.map_cons, List.map_nil, List.getElem?_cons_zero, List.getElem?_cons_succ, List.getElem?_nil, List.set_cons_zero, List.set_cons_succ, List.length_cons, List.length_nil, Nat.reduceAdd, Nat.reduceLT, Nat.zero_lt_succ, Nat.succ_lt_succ_iff, if_true, if_false, ite_true, ite_false, Bool.false_eq_true, Bool.not_true, Bool.not_false, recv, mthS, keyOf, binS, putS, Option.map_some, Option.bind_some, Option.map_none, Option.bind_none, idxS, items, itemsL, itemsW, truth, lim0, lim1, lim2, lim3, lim4, lim5, at20, at21, h]
    try rfl
  · rw [if_neg h]
    have h2 : g.2.isEmpty = false := by
      cases e : g.2 with
      | nil => exact absurd e h
      | cons _ _ => rfl
    have hF := form_tup W k (f.1 + g.1) (ps := f.2 ++ g.2) (n := 8) M ⟨by have := hf.len; have := hg.len; simp; omega, fun p hp => by
      rcases List.mem_append.mp hp with z | z
      · exact hf.nm p z
      · exact hg.nm p z⟩ (by decide)
    have hl : (encP f.2).length + (encP g.2).length ≤ lim := by
      have := hf.len
      have := hg.len
      have : lim = 16777216 := rfl
      rw [encP_len, encP_len]
      omega
    rw [exSs_nx (ρ1 := [some (encF f), some (encF g)]) (M1 := M) (by
      unfold encF
      simp only [exSs, exS, evE, evEs, evO, evP, evL, evQ, evI, asT, asTs, wipeD, List.map_cons, List.map_nil, List.getElem?_cons_zero, List.getElem?_cons_succ, List.getElem?_nil, List.set_cons_zero, List.set_cons_succ, List.length_cons, List.length_nil, Nat.reduceAdd, Nat.reduceLT, Nat.zero_lt_succ, Nat.succ_lt_succ_iff, if_true, if_false, ite_true, ite_false, Bool.false_eq_true, Bool.not_true, Bool.not_false, recv, mthS, keyOf, binS, putS, Option.map_some, Option.bind_some, Option.map_none, Option.bind_none, idxS, items, itemsL, itemsW, truth, lim0, lim1, lim2, lim3, lim4, lim5, at20, at21, encP_empty, h2])]
    refine exSs_rt ?_
    unfold encF at hF ⊢
    simp only [exSs, exS, evE, evEs, evO, evP, evL, evQ, evI, asT, asTs, wipeD, List.map_cons, List.map_nil, List.getElem?_cons_zero, List.getElem?_cons_succ, List.getElem?_nil, List.set_cons_zero, List.set_cons_succ, List.length_cons, List.length_nil, Nat.reduceAdd, Nat.reduceLT, Nat.zero_lt_succ, Nat.succ_lt_succ_iff, if_true, if_false, ite_true, ite_false, Bool.false_eq_true, Bool.not_true, Bool.not_false, recv, mthS, keyOf, binS, putS, Option.map_some, Option.bind_some, Option.map_none, Option.bind_none, idxS, items, itemsL, itemsW, truth, lim0, lim1, lim2, lim3, lim4, lim5, at20, at21, hl, ← encP_app, hF]
def timesF (k : Int) (f : Int × P2) : Int × P2 := if k = 0 then (0, []) else (k * f.1, f.2.map fun p => (p.1, k * p.2))
theorem evI_val {Φ : Nat → Fn} {e : E} {ρ : PS.Env} {M : Store} {ds : List D} (h : evE Φ e ρ M = some (.tup ds, M)) : evI Φ (.q (.val e)) ρ M = some (stands (.val (.tup ds)) ds, ds, M) := by
  rw [evI.eq_def]
  dsimp only
  rw [evQ.eq_def]
  dsimp only
  rw [h]
  rfl
/-- a number that may be multiplied by what is small -/
theorem mulOk_small {i j : Int} (h : i.natAbs < 18446744073709551616) : mulOk i j = true := by
  unfold mulOk
  simp [h]
theorem mulOk_small' {i j : Int} (h : j.natAbs < 18446744073709551616) : mulOk i j = true := by
  unfold mulOk
  simp [h]
theorem times_run (W n : Nat) (k : Int) {f : Int × P2} (M : Store) (hk : k.natAbs < 1000) (hl : f.2.length ≤ 1000) : runF fds W (n + 1) 2 [.int k, encF f] M = some (encF (timesF k f), M) := by
  refine (runF_rt rfl rfl (d := encF (timesF k f)) (M1 := M) (ρ1 := [some (.int k), some (encF f), none, none]) ?_).trans (by rw [gc_id (closed_encF _ _)])
  show exSs (runF fds W n) W b2 [some (.int k), some (encF f), none, none] M = _
  unfold b2 timesF
  have e1 : (plainD (.int k) && plainD (.int 0)) = true := rfl
  have mk : ∀ x : Int, mulOk k x = true := fun x => mulOk_small (by omega)
  by_cases h : k = 0
  · rw [if_pos h]
    subst h
    exact exSs_rt (by simp only [exSs, exS, evE, evEs, evO, evP, evL, evQ, evI, asT, asTs, wipeD, List.map_cons, List.map_nil, List.getElem?_cons_zero, List.getElem?_cons_succ, List.getElem?_nil, List.set_cons_zero, List.set_cons_succ, List.length_cons, List.length_nil, Nat.reduceAdd, Nat.reduceLT, Nat.zero_lt_succ, Nat.succ_lt_succ_iff, if_true, if_false, ite_true, ite_false, Bool.false_eq_true, Bool.not_true, Bool.not_false, recv, mthS, keyOf, binS, putS, Option.map_some, Option.bind_some, Option.map_none, Option.bind_none, idxS, items, itemsL, itemsW, truth, lim0, lim1, lim2, lim3, lim4, lim5, cmpS]; try rfl)
  · rw [if_neg h]
    have h1 : eqD (.int k) (.int 0) = false := by
      show (k == 0) = false
      simpa using h
    rw [exSs_nx (ρ1 := [some (.int k), some (encF f), none, none]) (M1 := M) (by simp only [exSs, exS, evE, evEs, evO, evP, evL, evQ, evI, asT, asTs, wipeD, List.map_cons, List.map_nil, List.getElem?_cons_zero, List.getElem?_cons_succ, List.getElem?_nil, List.set_cons_zero, List.set_cons_succ, List.length_cons, List.length_nil, Nat.reduceAdd, Nat.reduceLT, Nat.zero_lt_succ, Nat.succ_lt_succ_iff, if_true, if_false, ite_true, ite_false, Bool.false_eq_true, Bool.not_true, Bool.not_false, recv, mthS, keyOf, binS, putS, Option.map_some, Option.bind_some, Option.map_none, Option.bind_none, idxS, items, itemsL, itemsW, truth, lim0, lim1, lim2, lim3, lim4, lim5, cmpS, e1, h1])]
    refine exSs_rt ?_
    have hc := evL_map (Φ := runF fds W n) (own := [("name", 2), ("coefficient", 3)]) (t := .tup (.cons (.name 2) (.cons (.name 3) .nil))) (c := .no) (elt := .tup (.cons (.var 2) (.cons (.bin .Mult (.var 0) (.var 3)) .nil)))
      (it := .q (.val (.idx (.val (.var 1)) (.int 1)))) (ρ := [some (.int k), some (encF f), none, none]) (M := M) (M1 := M) (ds := encP f.2)
      (fun d => match d with
        | .tup [.str x, .int i] => some (.tup [.str x, .int (k * i)])
        | _ => none) (evI_val (by unfold encF; simp only [exSs, exS, evE, evEs, evO, evP, evL, evQ, evI, asT, asTs, wipeD, List.map_cons, List.map_nil, List.getElem?_cons_zero, List.getElem?_cons_succ, List.getElem?_nil, List.set_cons_zero, List.set_cons_succ, List.length_cons, List.length_nil, Nat.reduceAdd, Nat.reduceLT, Nat.zero_lt_succ, Nat.succ_lt_succ_iff, if_true, if_false, ite_true, ite_false, Bool.false_eq_true, Bool.not_true, Bool.not_false, recv, mthS, keyOf, binS, putS, Option.map_some, Option.bind_some, Option.map_none, Option.bind_none, idxS, items, itemsL, itemsW, truth, lim0, lim1, lim2, lim3, lim4, lim5, at21])) rfl (by
          have : lim = 16777216 := rfl
          rw [encP_len]
          omega) (fun d hd => by
        obtain ⟨p, hp, rfl⟩ := List.mem_map.mp hd
        unfold turnC
        simp only [exSs, exS, evE, evEs, evO, evP, evL, evQ, evI, asT, asTs, wipeD, List.map_cons, List.map_nil, List.getElem?_cons_zero, List.getElem?_cons_succ, List.getElem?_nil, List.set_cons_zero, List.set_cons_succ, List.length_cons, List.length_nil, Nat.reduceAdd, Nat.reduceLT, Nat.zero_lt_succ, Nat.succ_lt_succ_iff, if_true, if_false, ite_true, ite_false, Bool.false_eq_true, Bool.not_true, Bool.not_false, recv, mthS, keyOf, binS, putS, Option.map_some, Option.bind_some, Option.map_none, Option.bind_none, idxS, items, itemsL, itemsW, truth, lim0, lim1, lim2, lim3, lim4, lim5, mk]
        try rfl)
    have e3 : (encP f.2).filterMap (fun d => match d with
        | .tup [.str x, .int i] => some (D.tup [.str x, .int (k * i)])
        | _ => none) = encP (f.2.map fun p => (p.1, k * p.2)) := by
      unfold encP
      rw [List.filterMap_map, List.map_map]
      rw [← List.filterMap_eq_map]
      rfl
    rw [e3] at hc
    unfold encF at hc ⊢
    simp only [exSs, exS, evE, evEs, evO, evP, evQ, asT, asTs, wipeD, List.map_cons, List.map_nil, List.getElem?_cons_zero, List.getElem?_cons_succ, List.getElem?_nil, List.set_cons_zero, List.set_cons_succ, List.length_cons, List.length_nil, Nat.reduceAdd, Nat.reduceLT, Nat.zero_lt_succ, Nat.succ_lt_succ_iff, if_true, if_false, ite_true, ite_false, Bool.false_eq_true, Bool.not_true, Bool.not_false, recv, mthS, keyOf, binS, putS, Option.map_some, Option.bind_some, Option.map_none, Option.bind_none, idxS, items, itemsL, itemsW, truth, lim0, lim1, lim2, lim3, lim4, lim5, hc, aggS, at20, mk]
    try rfl
def minusF (f g : Int × P2) : Int × P2 := plusF f (timesF (-1) g)
theorem times_ok {n : Nat} (k : Int) {f : Int × P2} (h : Ok4 n f.2) : Ok4 n (timesF k f).2 := by
  unfold timesF
  split
  · exact ⟨Nat.zero_le _, fun p hp => absurd hp (by simp)⟩
  · refine ⟨by simpa using h.len, fun p hp => ?_⟩
    obtain ⟨q, hq, rfl⟩ := List.mem_map.mp hp
    exact h.nm q hq
theorem minus_run (W k : Nat) {f g : Int × P2} (M : Store) (hf : Ok4 4 f.2) (hg : Ok4 4 g.2) : runF fds W (k + 3) 3 [encF f, encF g] M = some (encF (minusF f g), M) := by
  refine (runF_rt rfl rfl (d := encF (minusF f g)) (M1 := M) (ρ1 := [some (encF f), some (encF g)]) ?_).trans (by rw [gc_id (closed_encF _ _)])
  show exSs (runF fds W (k + 2)) W b3 [some (encF f), some (encF g)] M = _
  unfold b3
  have h1 := times_run W (k + 1) (-1) (f := g) M (by decide) (by have := hg.len; omega)
  have h2 := plus_run W k (f := f) (g := timesF (-1) g) M hf (times_ok _ hg)
  refine exSs_rt ?_
  simp only [exSs, exS, evE, evEs, evO, evP, evL, evQ, evI, asT, asTs, wipeD, List.map_cons, List.map_nil, List.getElem?_cons_zero, List.getElem?_cons_succ, List.getElem?_nil, List.set_cons_zero, List.set_cons_succ, List.length_cons, List.length_nil, Nat.reduceAdd, Nat.reduceLT, Nat.zero_lt_succ, Nat.succ_lt_succ_iff, if_true, if_false, ite_true, ite_false, Bool.false_eq_true, Bool.not_true, Bool.not_false, recv, mthS, keyOf, binS, putS, Option.map_some, Option.bind_some, Option.map_none, Option.bind_none, idxS, items, itemsL, itemsW, truth, lim0, lim1, lim2, lim3, lim4, lim5, h1, h2]
  try rfl
end K45

set_option Elab.async false
set_option linter.all false
set_option maxRecDepth 100000
set_option maxHeartbeats 4000000
/-! L45d: image, value. -/
namespace K45
open PySem L2 PS
abbrev PD := List (Str × D)
def encD (ps : PD) : List D := ps.map fun p => .tup [.str p.1, p.2]
abbrev TK := List (Key × D)
theorem getK_put (t : TK) (x y : Key) (v : D) : getK (putD t x v) y = if y = x then some v else getK t y := by
  unfold putD
  split
  · rename_i h
    induction t with
    | nil => simp at h
    | cons p t ih =>
      by_cases hp : p.1 = x
      · by_cases hy : y = x
        · subst hy
          simp [getK, hp]
        · have hpy : ¬ p.1 = y := fun z => hy (by rw [← z, hp])
          have hxy : ¬ x = y := fun z => hy z.symm
          simp only [List.map_cons, if_pos hp, if_neg hy]
          unfold getK
          rw [List.find?_cons_of_neg (by simpa using hpy), List.find?_cons_of_neg (by simpa using hpy)]
          by_cases ht : (t.any fun p => decide (p.1 = x)) = true
          · have := ih ht
            rw [if_neg hy] at this
            exact this
          · have : t.map (fun p => if p.1 = x then (p.1, v) else p) = t := by
              rw [List.map_congr_left (g := id) fun q hq => ?_]
              · exact List.map_id t
              · rw [if_neg]
                · rfl
                · intro z
                  exact ht (List.any_eq_true.mpr ⟨q, hq, by simpa using z⟩)
            rw [this]
      · have ht : (t.any fun p => decide (p.1 = x)) = true := by simpa [hp] using h
        have ih := ih ht
        simp only [List.map_cons, if_neg hp]
        unfold getK at ih ⊢
        by_cases hy : p.1 = y
        · have : ¬ y = x := fun z => hp (by rw [hy, z])
          rw [List.find?_cons_of_pos (by simpa using hy), List.find?_cons_of_pos (by simpa using hy), if_neg this]
        · rw [List.find?_cons_of_neg (by simpa using hy), List.find?_cons_of_neg (by simpa using hy)]
          exact ih
  · rename_i h
    have hn : t.find? (fun p => decide (p.1 = x)) = none := by
      rw [List.find?_eq_none]
      intro p hp z
      exact h (List.any_eq_true.mpr ⟨p, hp, z⟩)
    unfold getK
    rw [List.find?_append]
    by_cases hy : y = x
    · subst hy
      rw [hn]
      simp
    · rw [if_neg hy]
      have : ¬ x = y := fun z => hy z.symm
      simp [this]
def tabD (ps : PD) (t : TK) : TK := ps.foldl (fun t p => putD t (.inr p.1) p.2) t
theorem putD_len (t : TK) (x : Key) (v : D) : (putD t x v).length ≤ t.length + 1 := by
  unfold putD
  split <;> simp
theorem tabD_get : ∀ (ps : PD) (t : TK), (ps.map (·.1)).Nodup → (∀ p ∈ ps, getK (tabD ps t) (.inr p.1) = some p.2) ∧ ∀ x, x ∉ ps.map (·.1) → getK (tabD ps t) (.inr x) = getK t (.inr x)
  | [], t, _ => ⟨fun p h => by simp at h, fun x _ => rfl⟩
  | p :: ps, t, nd => by
    rw [List.map_cons] at nd
    obtain ⟨n1, n2⟩ := List.nodup_cons.mp nd
    obtain ⟨i1, i2⟩ := tabD_get ps (putD t (.inr p.1) p.2) n2
    refine ⟨fun q hq => ?_, fun x hx => ?_⟩
    · rcases List.mem_cons.mp hq with e | hq
      · subst e
        show getK (tabD ps _) _ = _
        rw [i2 _ n1, getK_put, if_pos rfl]
      · exact i1 q hq
    · simp only [List.map_cons, List.mem_cons, not_or] at hx
      show getK (tabD ps _) _ = _
      rw [i2 x hx.2, getK_put, if_neg (fun z => hx.1 (Sum.inr.inj z))]
theorem evE_dctC {Φ : Nat → Fn} {own : List (Str × Nat)} {t : T} {it : I} {c : O} {k v : E} {ρ : PS.Env} {M M1 : Store} {ok : Store → Bool} {ps : PD} (h : evI Φ it ρ M = some (ok, encD ps, M1)) (hok : ok M1 = true) (hl : ps.length < 1000000)
    (hg : ∀ p ∈ ps, turnD (asT Φ t) (evO Φ c) (evE Φ k) (evE Φ v) (wipeD ρ (own.map (·.2))) (.tup [.str p.1, p.2]) M1 = some (some (.str p.1, p.2), M1)) : evE Φ (.dctC own t it c k v) ρ M = some (.ref M1.length, M1 ++ [.dK (tabD ps [])]) := by
  have key : ∀ (qs : PD) (t0 : TK), (∀ p ∈ qs, p ∈ ps) → t0.length + qs.length < 1000000 → dcG ok (turnD (asT Φ t) (evO Φ c) (evE Φ k) (evE Φ v) (wipeD ρ (own.map (·.2)))) (encD qs) t0 M1 = some (tabD qs t0, M1) := by
    intro qs
    induction qs with
    | nil =>
      intro t0 _ _
      show dcG _ _ [] _ _ = _
      rw [dcG, if_pos hok]
      rfl
    | cons p qs ih =>
      intro t0 hs hl
      show dcG _ _ (.tup [.str p.1, p.2] :: encD qs) _ _ = _
      rw [dcG, if_pos hok, hg p (hs p List.mem_cons_self)]
      simp only [keyOf]
      have : t0.length < lim := by
        have : lim = 16777216 := rfl
        omega
      rw [if_pos this]
      exact ih _ (fun q hq => hs q (List.mem_cons_of_mem _ hq)) (by
        have := putD_len t0 (.inr p.1) p.2
        simp at hl
        omega)
  rw [evE.eq_def]
  dsimp only
  rw [h]
  show (match dcG ok (turnD (asT Φ t) (evO Φ c) (evE Φ k) (evE Φ v) (wipeD ρ (own.map (·.2)))) (encD ps) [] M1 with
    | some (kvs, M2) => some (D.ref M2.length, M2 ++ [MO.dK kvs])
    | none => none) = _
  rw [key ps [] (fun _ h => h) (by simpa using hl)]
def asD (ps : P2) : PD := ps.map fun p => (p.1, .int p.2)
theorem encD_asD (ps : P2) : encD (asD ps) = encP ps := by simp [encD, asD, encP]
def valueF (f : Int × P2) (at_ : P2) : Int := f.1 + (f.2.map fun p => p.2 * val at_ p.1).sum
theorem intsOf_map (l : List Int) : intsOf (l.map D.int) = some l := by
  induction l with
  | nil => rfl
  | cons i l ih =>
    show (intsOf (l.map D.int)).map _ = _
    rw [ih]
    rfl
theorem get_nodup : ∀ {ps : P2} {p : Str × Int}, (ps.map (·.1)).Nodup → p ∈ ps → get ps p.1 = some p.2
  | q :: ps, p, nd, h => by
    rw [List.map_cons] at nd
    obtain ⟨n1, n2⟩ := List.nodup_cons.mp nd
    rcases List.mem_cons.mp h with e | h
    · subst e
      unfold get
      rw [List.find?_cons_of_pos (by simp)]
      rfl
    · have hne : ¬ q.1 = p.1 := fun e => n1 (by rw [e]; exact List.mem_map.mpr ⟨p, h, rfl⟩)
      have ih := get_nodup n2 h
      unfold get at ih ⊢
      rw [List.find?_cons_of_neg (by simpa using hne)]
      exact ih
theorem value_run (W k : Nat) {f : Int × P2} {qs : P2} (M : Store) (hl : f.2.length ≤ 1000) (hq : qs.length ≤ 1000) (nd : (qs.map (·.1)).Nodup) (hs : ∀ p ∈ f.2, p.1 ∈ qs.map (·.1)) (hb : ∀ p ∈ f.2, p.2.natAbs < 18446744073709551616) :
    runF fds W (k + 1) 5 [encF f, .tup (encP qs)] M = some (.int (valueF f qs), M) := by
  refine (runF_rt rfl rfl (d := .int (valueF f qs)) (M1 := M ++ [.dK (tabD (asD qs) [])]) (ρ1 := [some (encF f), some (.tup (encP qs)), some (.ref M.length), none, none, none]) ?_).trans (by rw [gc_pure rfl])
  show exSs (runF fds W k) W b5 [some (encF f), some (.tup (encP qs)), none, none, none, none] M = _
  unfold b5
  have hd := evE_dctC (Φ := runF fds W k) (own := [("name", 3), ("number", 4)]) (t := .tup (.cons (.name 3) (.cons (.name 4) .nil))) (it := .q (.val (.var 1))) (c := .no) (k := .var 3) (v := .var 4) (ρ := [some (encF f), some (.tup (encP qs)), none, none, none, none]) (M := M) (M1 := M) (ps := asD qs)
    (ok := stands (.val (.tup (encP qs))) (encP qs)) (by rw [encD_asD]; exact evI_val (by simp only [exSs, exS, evE, evEs, evO, evP, evL, evQ, evI, asT, asTs, wipeD, List.map_cons, List.map_nil, List.getElem?_cons_zero, List.getElem?_cons_succ, List.getElem?_nil, List.set_cons_zero, List.set_cons_succ, List.length_cons, List.length_nil, Nat.reduceAdd, Nat.reduceLT, Nat.zero_lt_succ, Nat.succ_lt_succ_iff, if_true, if_false, ite_true, ite_false, Bool.false_eq_true, Bool.not_true, Bool.not_false, recv, mthS, keyOf, binS, putS, Option.map_some, Option.bind_some, Option.map_none, Option.bind_none, idxS, items, itemsL, itemsW, truth, lim0, lim1, lim2, lim3, lim4, lim5])) rfl (by simp [asD]; omega) (fun p hp => by
      unfold turnD
      simp only [exSs, exS, evE, evEs, evO, evP, evL, evQ, evI, asT, asTs, wipeD, List.map_cons, List.map_nil, List.getElem?_cons_zero, List.getElem?_cons_succ, List.getElem?_nil, List.set_cons_zero, List.set_cons_succ, List.length_cons, List.length_nil, Nat.reduceAdd, Nat.reduceLT, Nat.zero_lt_succ, Nat.succ_lt_succ_iff, if_true, if_false, ite_true, ite_false, Bool.false_eq_true, Bool.not_true, Bool.not_false, recv, mthS, keyOf, binS, putS, Option.map_some, Option.bind_some, Option.map_none, Option.bind_none, idxS, items, itemsL, itemsW, truth, lim0, lim1, lim2, lim3, lim4, lim5])
  rw [exSs_nx (ρ1 := [some (encF f), some (.tup (encP qs)), some (.ref M.length), none, none, none]) (M1 := M ++ [.dK (tabD (asD qs) [])]) (by
    rw [exS.eq_def]
    dsimp only
    rw [hd]
    simp only [exSs, exS, evE, evEs, evO, evP, evL, evQ, evI, asT, asTs, wipeD, List.map_cons, List.map_nil, List.getElem?_cons_zero, List.getElem?_cons_succ, List.getElem?_nil, List.set_cons_zero, List.set_cons_succ, List.length_cons, List.length_nil, Nat.reduceAdd, Nat.reduceLT, Nat.zero_lt_succ, Nat.succ_lt_succ_iff, if_true, if_false, ite_true, ite_false, Bool.false_eq_true, Bool.not_true, Bool.not_false, recv, mthS, keyOf, binS, putS, Option.map_some, Option.bind_some, Option.map_none, Option.bind_none, idxS, items, itemsL, itemsW, truth, lim0, lim1, lim2, lim3, lim4, lim5])]
  refine exSs_rt ?_
  have ndD : ((asD qs).map (·.1)).Nodup := by
    have : (asD qs).map (·.1) = qs.map (·.1) := by simp [asD]
    rw [this]
    exact nd
  obtain ⟨t1, -⟩ := tabD_get (asD qs) [] ndD
  have hget : ∀ p ∈ f.2, getK (tabD (asD qs) []) (.inr p.1) = some (.int (val qs p.1)) := fun p hp => by
    obtain ⟨q, hq, e⟩ := List.mem_map.mp (hs p hp)
    have := t1 (q.1, .int q.2) (List.mem_map.mpr ⟨q, hq, rfl⟩)
    rw [← e, this]
    unfold val
    rw [get_nodup nd hq]
    rfl
  have hc := evL_map (Φ := runF fds W k) (own := [("name", 3), ("coefficient", 5)]) (t := .tup (.cons (.name 3) (.cons (.name 5) .nil))) (c := .no) (elt := .bin .Mult (.var 5) (.idx (.val (.var 2)) (.var 3)))
      (it := .q (.val (.idx (.val (.var 0)) (.int 1)))) (ρ := [some (encF f), some (.tup (encP qs)), some (.ref M.length), none, none, none]) (M := M ++ [.dK (tabD (asD qs) [])]) (M1 := M ++ [.dK (tabD (asD qs) [])]) (ds := encP f.2)
      (fun d => match d with
        | .tup [.str x, .int i] => some (.int (i * val qs x))
        | _ => none) (evI_val (by unfold encF; simp only [exSs, exS, evE, evEs, evO, evP, evL, evQ, evI, asT, asTs, wipeD, List.map_cons, List.map_nil, List.getElem?_cons_zero, List.getElem?_cons_succ, List.getElem?_nil, List.set_cons_zero, List.set_cons_succ, List.length_cons, List.length_nil, Nat.reduceAdd, Nat.reduceLT, Nat.zero_lt_succ, Nat.succ_lt_succ_iff, if_true, if_false, ite_true, ite_false, Bool.false_eq_true, Bool.not_true, Bool.not_false, recv, mthS, keyOf, binS, putS, Option.map_some, Option.bind_some, Option.map_none, Option.bind_none, idxS, items, itemsL, itemsW, truth, lim0, lim1, lim2, lim3, lim4, lim5, at21])) rfl (by
          have : lim = 16777216 := rfl
          rw [encP_len]
          omega) (fun d hd => by
        obtain ⟨p, hp, rfl⟩ := List.mem_map.mp hd
        have hg := hget p hp
        have hm : mulOk p.2 (val qs p.1) = true := mulOk_small (hb p hp)
        unfold turnC
        simp only [exSs, exS, evE, evEs, evO, evP, evL, evQ, evI, asT, asTs, wipeD, List.map_cons, List.map_nil, List.getElem?_cons_zero, List.getElem?_cons_succ, List.getElem?_nil, List.set_cons_zero, List.set_cons_succ, List.length_cons, List.length_nil, Nat.reduceAdd, Nat.reduceLT, Nat.zero_lt_succ, Nat.succ_lt_succ_iff, if_true, if_false, ite_true, ite_false, Bool.false_eq_true, Bool.not_true, Bool.not_false, recv, mthS, keyOf, binS, putS, Option.map_some, Option.bind_some, Option.map_none, Option.bind_none, idxS, items, itemsL, itemsW, truth, lim0, lim1, lim2, lim3, lim4, lim5, at_last, hg, hm])
  have e3 : (encP f.2).filterMap (fun d => match d with
        | .tup [.str x, .int i] => some (D.int (i * val qs x))
        | _ => none) = (f.2.map fun p => p.2 * val qs p.1).map D.int := by
      unfold encP
      rw [List.filterMap_map, List.map_map]
      rw [← List.filterMap_eq_map]
      rfl
  rw [e3] at hc
  unfold encF at hc ⊢
  simp only [exSs, exS, evE, evEs, evO, evP, evQ, asT, asTs, wipeD, List.map_cons, List.map_nil, List.getElem?_cons_zero, List.getElem?_cons_succ, List.getElem?_nil, List.set_cons_zero, List.set_cons_succ, List.length_cons, List.length_nil, Nat.reduceAdd, Nat.reduceLT, Nat.zero_lt_succ, Nat.succ_lt_succ_iff, if_true, if_false, ite_true, ite_false, Bool.false_eq_true, Bool.not_true, Bool.not_false, recv, mthS, keyOf, binS, putS, Option.map_some, Option.bind_some, Option.map_none, Option.bind_none, idxS, items, itemsL, itemsW, truth, lim0, lim1, lim2, lim3, lim4, lim5, hc, aggS, at20, intsOf_map]
  try rfl
end K45

set_option Elab.async false
set_option linter.all false
set_option maxRecDepth 100000
set_option maxHeartbeats 4000000
/-! L45e: image. -/
namespace K45
open PySem L2 PS
abbrev PF2 := List (Str × (Int × P2))
def asF (gs : PF2) : PD := gs.map fun p => (p.1, encF p.2)
def lk (gs : PF2) (x : Str) : Option (Int × P2) := (gs.find? fun p => decide (p.1 = x)).map (·.2)
def stepI (gs : PF2) (s : Int × P2) (p : Str × Int) : Int × P2 := match lk gs p.1 with
  | some g => (s.1 + p.2 * g.1, s.2 ++ g.2.map fun q => (q.1, p.2 * q.2))
  | none => (s.1, s.2 ++ [p])
def imageF (f : Int × P2) (gs : PF2) : Int × P2 :=
  let s := f.2.foldl (stepI gs) (f.1, [])
  formF s.1 s.2
theorem lk_mem {gs : PF2} {x : Str} {g : Int × P2} (h : lk gs x = some g) : (x, g) ∈ gs := by
  unfold lk at h
  obtain ⟨p, hp, e⟩ := Option.map_eq_some_iff.mp h
  have h1 := List.mem_of_find?_eq_some hp
  have h2 := List.find?_some hp
  have h2 : p.1 = x := by simpa using h2
  rw [← h2, ← e]
  exact h1
theorem lk_none {gs : PF2} {x : Str} (h : lk gs x = none) : x ∉ gs.map (·.1) := by
  intro z
  obtain ⟨p, hp, e⟩ := List.mem_map.mp z
  unfold lk at h
  rw [Option.map_eq_none_iff, List.find?_eq_none] at h
  exact absurd e (by simpa using h p hp)
def bodyI : Ss := (.cons (.ife (.mem false (.var 5) (.val (.var 2))) (.cons (.asg (.name 7) (.idx (.val (.var 2)) (.var 5)))
  (.cons (.aug 3 .Add (.bin .Mult (.var 6) (.idx (.val (.var 7)) (.int 0))))
  (.cons (.ex (.ext (.var 4) (.lst (.comp [("other", 8), ("factor", 9)] (.tup (.cons (.name 8) (.cons (.name 9) .nil))) (.q (.val (.idx (.val (.var 7)) (.int 1)))) .no (.tup (.cons (.var 8) (.cons (.bin .Mult (.var 6) (.var 9)) .nil)))))))
  .nil))) (.cons (.ex (.mth .append (.var 4) (.cons (.tup (.cons (.var 5) (.cons (.var 6) .nil))) .nil)))
  .nil))
  .nil)
theorem at_two0 (M : Store) (a b : MO) : (M ++ [a, b])[M.length]? = some a := by simp
theorem at_two1 (M : Store) (a b : MO) : (M ++ [a, b])[M.length + 1]? = some b := by
  rw [List.getElem?_append_right (by omega)]
  simp
theorem set_two1 (M : Store) (a b c : MO) : (M ++ [a, b]).set (M.length + 1) c = M ++ [a, c] := by
  rw [List.set_append_right _ _ (by omega)]
  simp
theorem image_loop (W k : Nat) (a0 a1 : D) (gs : PF2) (M : Store) (T : TK) {ok : Store → Bool} (hok : ∀ o o', ok (M ++ [o, o']) = true)
    (hT1 : ∀ x g, lk gs x = some g → getK T (.inr x) = some (encF g)) (hT2 : ∀ x, lk gs x = none → getK T (.inr x) = none) (hg : ∀ x g, lk gs x = some g → g.2.length ≤ 4) :
    ∀ (ps : P2) (s : Int × P2) (x5 x6 x7 x8 x9 : Option D), (∀ p ∈ ps, p.2.natAbs < 18446744073709551616) → s.2.length + 4 * ps.length < 1000000 → ∃ y5 y6 y7 y8 y9,
    forG ok (fun d ρ M => match asT (runF fds W k) (.tup (.cons (.name 5) (.cons (.name 6) .nil))) d ρ M with
        | some (ρ1, M1) => exSs (runF fds W k) W bodyI ρ1 M1
        | none => none) (encP ps) [some a0, some a1, some (.ref M.length), some (.int s.1), some (.ref (M.length + 1)), x5, x6, x7, x8, x9] (M ++ [.dK T, .lst (encP s.2)])
      = some (.nx, [some a0, some a1, some (.ref M.length), some (.int (ps.foldl (stepI gs) s).1), some (.ref (M.length + 1)), y5, y6, y7, y8, y9], M ++ [.dK T, .lst (encP (ps.foldl (stepI gs) s).2)])
  | [], s, x5, x6, x7, x8, x9, _, _ => ⟨x5, x6, x7, x8, x9, by
    show forG _ _ [] _ _ = _
    unfold forG
    rw [if_pos (hok _ _)]
    rfl⟩
  | p :: ps, s, x5, x6, x7, x8, x9, hb, hl => by
    have hlim : lim = 16777216 := rfl
    have hb0 := hb p List.mem_cons_self
    have hm : ∀ i, mulOk p.2 i = true := fun i => mulOk_small hb0
    cases hlk : lk gs p.1 with
    | none =>
      have hst : stepI gs s p = (s.1, s.2 ++ [p]) := by unfold stepI; rw [hlk]
      obtain ⟨y5, y6, y7, y8, y9, ih⟩ := image_loop W k a0 a1 gs M T hok hT1 hT2 hg ps (stepI gs s p) (some (.str p.1)) (some (.int p.2)) x7 x8 x9 (fun q hq => hb q (List.mem_cons_of_mem _ hq)) (by
        rw [hst]
        simp at hl ⊢
        omega)
      refine ⟨y5, y6, y7, y8, y9, ?_⟩
      refine (forG_nx (hok _ _) ?_).trans ih
      rw [hst]
      have h0 := hT2 _ hlk
      unfold bodyI
      dsimp only
      simp only [exSs, exS, evE, evEs, evO, evP, evL, evQ, evI, asT, asTs, wipeD, List.map_cons, List.map_nil, List.getElem?_cons_zero, List.getElem?_cons_succ, List.getElem?_nil, List.set_cons_zero, List.set_cons_succ, List.length_cons, List.length_nil, Nat.reduceAdd, Nat.reduceLT, Nat.zero_lt_succ, Nat.succ_lt_succ_iff, if_true, if_false, ite_true, ite_false, Bool.false_eq_true, Bool.not_true, Bool.not_false, recv, mthS, keyOf, binS, putS, Option.map_some, Option.bind_some, Option.map_none, Option.bind_none, idxS, items, itemsL, itemsW, truth, lim0, lim1, lim2, lim3, lim4, lim5, at_two0, at_two1, set_two1, memS, h0, Option.isSome_none]
      rw [if_pos (show (encP s.2).length < lim by rw [encP_len]; simp at hl; omega)]
      simp only [encP_app]
      rfl
    | some g =>
      have hst : stepI gs s p = (s.1 + p.2 * g.1, s.2 ++ g.2.map fun q => (q.1, p.2 * q.2)) := by unfold stepI; rw [hlk]
      have hg4 := hg _ _ hlk
      obtain ⟨y5, y6, y7, y8, y9, ih⟩ := image_loop W k a0 a1 gs M T hok hT1 hT2 hg ps (stepI gs s p) (some (.str p.1)) (some (.int p.2)) (some (encF g)) x8 x9 (fun q hq => hb q (List.mem_cons_of_mem _ hq)) (by
        rw [hst]
        simp at hl ⊢
        omega)
      refine ⟨y5, y6, y7, y8, y9, ?_⟩
      refine (forG_nx (hok _ _) ?_).trans ih
      rw [hst]
      have h0 := hT1 _ _ hlk
      unfold bodyI
      dsimp only
      have hc := evL_map (Φ := runF fds W k) (own := [("other", 8), ("factor", 9)]) (t := .tup (.cons (.name 8) (.cons (.name 9) .nil))) (c := .no) (elt := .tup (.cons (.var 8) (.cons (.bin .Mult (.var 6) (.var 9)) .nil)))
        (it := .q (.val (.idx (.val (.var 7)) (.int 1)))) (ρ := [some a0, some a1, some (.ref M.length), some (.int (s.1 + p.2 * g.1)), some (.ref (M.length + 1)), some (.str p.1), some (.int p.2), some (encF g), x8, x9]) (M := M ++ [.dK T, .lst (encP s.2)]) (M1 := M ++ [.dK T, .lst (encP s.2)]) (ds := encP g.2)
        (fun d => match d with
          | .tup [.str x, .int i] => some (.tup [.str x, .int (p.2 * i)])
          | _ => none) (evI_val (by unfold encF; simp only [exSs, exS, evE, evEs, evO, evP, evL, evQ, evI, asT, asTs, wipeD, List.map_cons, List.map_nil, List.getElem?_cons_zero, List.getElem?_cons_succ, List.getElem?_nil, List.set_cons_zero, List.set_cons_succ, List.length_cons, List.length_nil, Nat.reduceAdd, Nat.reduceLT, Nat.zero_lt_succ, Nat.succ_lt_succ_iff, if_true, if_false, ite_true, ite_false, Bool.false_eq_true, Bool.not_true, Bool.not_false, recv, mthS, keyOf, binS, putS, Option.map_some, Option.bind_some, Option.map_none, Option.bind_none, idxS, items, itemsL, itemsW, truth, lim0, lim1, lim2, lim3, lim4, lim5, at21])) rfl (by
            rw [encP_len]
            omega) (fun d hd => by
          obtain ⟨q, hq, rfl⟩ := List.mem_map.mp hd
          unfold turnC
          simp only [exSs, exS, evE, evEs, evO, evP, evL, evQ, evI, asT, asTs, wipeD, List.map_cons, List.map_nil, List.getElem?_cons_zero, List.getElem?_cons_succ, List.getElem?_nil, List.set_cons_zero, List.set_cons_succ, List.length_cons, List.length_nil, Nat.reduceAdd, Nat.reduceLT, Nat.zero_lt_succ, Nat.succ_lt_succ_iff, if_true, if_false, ite_true, ite_false, Bool.false_eq_true, Bool.not_true, Bool.not_false, recv, mthS, keyOf, binS, putS, Option.map_some, Option.bind_some, Option.map_none, Option.bind_none, idxS, items, itemsL, itemsW, truth, lim0, lim1, lim2, lim3, lim4, lim5, hm]
          try rfl)
      have e3 : (encP g.2).filterMap (fun d => match d with
          | .tup [.str x, .int i] => some (D.tup [.str x, .int (p.2 * i)])
          | _ => none) = encP (g.2.map fun q => (q.1, p.2 * q.2)) := by
        unfold encP
        rw [List.filterMap_map, List.map_map]
        rw [← List.filterMap_eq_map]
        rfl
      rw [e3] at hc
      unfold encF at h0 hc ⊢
      simp only [exSs, exS, evE, evEs, evO, evP, evQ, asT, asTs, wipeD, List.map_cons, List.map_nil, List.getElem?_cons_zero, List.getElem?_cons_succ, List.getElem?_nil, List.set_cons_zero, List.set_cons_succ, List.length_cons, List.length_nil, Nat.reduceAdd, Nat.reduceLT, Nat.zero_lt_succ, Nat.succ_lt_succ_iff, if_true, if_false, ite_true, ite_false, Bool.false_eq_true, Bool.not_true, Bool.not_false, recv, mthS, keyOf, binS, putS, Option.map_some, Option.bind_some, Option.map_none, Option.bind_none, idxS, items, itemsL, itemsW, truth, lim0, lim1, lim2, lim3, lim4, lim5, at_two0, at_two1, memS, h0, Option.isSome_some, at20, hm, augS, hc, extS, set_two1]
      rw [if_pos (show (encP s.2).length + (encP (g.2.map fun q => (q.1, p.2 * q.2))).length ≤ lim by rw [encP_len, encP_len]; simp at hl ⊢; omega)]
      simp only [encP_app]
end K45

set_option Elab.async false
set_option linter.all false
set_option maxRecDepth 100000
set_option maxHeartbeats 4000000
/-! L45f: image as a whole, the base, great numbers. -/
namespace K45
open PySem L2 PS
theorem foldI_ok (gs : PF2) (hg : ∀ x g, lk gs x = some g → Ok4 4 g.2) : ∀ (ps : P2) (s : Int × P2) (n : Nat), (∀ p ∈ ps, p.1 ∈ N4) → Ok4 n s.2 → Ok4 (n + 4 * ps.length) (ps.foldl (stepI gs) s).2
  | [], s, n, _, h => h
  | p :: ps, s, n, hp, h => by
    have h1 : Ok4 (n + 4) (stepI gs s p).2 := by
      unfold stepI
      cases e : lk gs p.1 with
      | none =>
        refine ⟨?_, fun q hq => ?_⟩
        · have := h.len
          simp
          omega
        · rcases List.mem_append.mp hq with z | z
          · exact h.nm q z
          · simp at z
            rw [z]
            exact hp p List.mem_cons_self
      | some g =>
        have := hg _ _ e
        refine ⟨?_, fun q hq => ?_⟩
        · have := h.len
          have := this
          have := (hg _ _ e).len
          simp
          omega
        · rcases List.mem_append.mp hq with z | z
          · exact h.nm q z
          · obtain ⟨r, hr, rfl⟩ := List.mem_map.mp z
            exact (hg _ _ e).nm r hr
    have := foldI_ok gs hg ps (stepI gs s p) (n + 4) (fun q hq => hp q (List.mem_cons_of_mem _ hq)) h1
    refine ⟨?_, this.nm⟩
    have := this.len
    rw [List.foldl_cons]
    simp
    omega
theorem image_run (W k : Nat) {f : Int × P2} {gs : PF2} (M : Store) (hf : Ok4 4 f.2) (hb : ∀ p ∈ f.2, p.2.natAbs < 18446744073709551616) (hgl : gs.length ≤ 4) (nd : (gs.map (·.1)).Nodup) (hg : ∀ p ∈ gs, Ok4 4 p.2.2) :
    runF fds W (k + 2) 4 [encF f, .tup (encD (asF gs))] M = some (encF (imageF f gs), M) := by
  have hlk : ∀ x g, lk gs x = some g → Ok4 4 g.2 := fun x g e => hg _ (lk_mem e)
  have ndD : ((asF gs).map (·.1)).Nodup := by
    have : (asF gs).map (·.1) = gs.map (·.1) := by simp [asF]
    rw [this]
    exact nd
  obtain ⟨t1, t2⟩ := tabD_get (asF gs) [] ndD
  obtain ⟨y5, y6, y7, y8, y9, lp⟩ := image_loop W (k + 1) (encF f) (.tup (encD (asF gs))) gs M (tabD (asF gs) []) (ok := stands (.val (.tup (encP f.2))) (encP f.2)) (fun _ _ => rfl)
    (fun x g e => t1 (x, encF g) (List.mem_map.mpr ⟨(x, g), lk_mem e, rfl⟩)) (fun x e => by
      rw [t2 x (by
        have := lk_none e
        have e2 : (asF gs).map (·.1) = gs.map (·.1) := by simp [asF]
        rw [e2]
        exact this)]
      rfl) (fun x g e => (hlk x g e).len) f.2 (f.1, []) none none none none none hb (by have := hf.len; simp; omega)
  have hok := foldI_ok gs hlk f.2 (f.1, []) 0 hf.nm ⟨Nat.le_refl _, fun p h => by simp at h⟩
  have hF := form_ref W k (f.2.foldl (stepI gs) (f.1, [])).1 (j := M.length + 1) (ps := (f.2.foldl (stepI gs) (f.1, [])).2) (M ++ [.dK (tabD (asF gs) []), .lst (encP (f.2.foldl (stepI gs) (f.1, [])).2)]) hok (by have := hf.len; omega) (at_two1 _ _ _)
  refine (runF_rt rfl rfl (d := encF (imageF f gs)) (M1 := M ++ [.dK (tabD (asF gs) []), .lst (encP (f.2.foldl (stepI gs) (f.1, [])).2)]) (ρ1 := [some (encF f), some (.tup (encD (asF gs))), some (.ref M.length), some (.int (f.2.foldl (stepI gs) (f.1, [])).1), some (.ref (M.length + 1)), y5, y6, y7, y8, y9]) ?_).trans (by rw [gc_pure (closed_encF _ _)])
  show exSs (runF fds W (k + 1)) W b4 [some (encF f), some (.tup (encD (asF gs))), none, none, none, none, none, none, none, none] M = _
  unfold b4
  have hd := evE_dctC (Φ := runF fds W (k + 1)) (own := [("name", 5), ("g", 7)]) (t := .tup (.cons (.name 5) (.cons (.name 7) .nil))) (it := .q (.val (.var 1))) (c := .no) (k := .var 5) (v := .var 7) (ρ := [some (encF f), some (.tup (encD (asF gs))), none, none, none, none, none, none, none, none]) (M := M) (M1 := M) (ps := asF gs)
    (ok := stands (.val (.tup (encD (asF gs)))) (encD (asF gs))) (evI_val (by simp only [exSs, exS, evE, evEs, evO, evP, evL, evQ, evI, asT, asTs, wipeD, List.map_cons, List.map_nil, List.getElem?_cons_zero, List.getElem?_cons_succ, List.getElem?_nil, List.set_cons_zero, List.set_cons_succ, List.length_cons, List.length_nil, Nat.reduceAdd, Nat.reduceLT, Nat.zero_lt_succ, Nat.succ_lt_succ_iff, if_true, if_false, ite_true, ite_false, Bool.false_eq_true, Bool.not_true, Bool.not_false, recv, mthS, keyOf, binS, putS, Option.map_some, Option.bind_some, Option.map_none, Option.bind_none, idxS, items, itemsL, itemsW, truth, lim0, lim1, lim2, lim3, lim4, lim5])) rfl (by simp [asF]; omega) (fun p hp => by
      unfold turnD
      simp only [exSs, exS, evE, evEs, evO, evP, evL, evQ, evI, asT, asTs, wipeD, List.map_cons, List.map_nil, List.getElem?_cons_zero, List.getElem?_cons_succ, List.getElem?_nil, List.set_cons_zero, List.set_cons_succ, List.length_cons, List.length_nil, Nat.reduceAdd, Nat.reduceLT, Nat.zero_lt_succ, Nat.succ_lt_succ_iff, if_true, if_false, ite_true, ite_false, Bool.false_eq_true, Bool.not_true, Bool.not_false, recv, mthS, keyOf, binS, putS, Option.map_some, Option.bind_some, Option.map_none, Option.bind_none, idxS, items, itemsL, itemsW, truth, lim0, lim1, lim2, lim3, lim4, lim5])
  rw [exSs_nx (ρ1 := [some (encF f), some (.tup (encD (asF gs))), some (.ref M.length), none, none, none, none, none, none, none]) (M1 := M ++ [.dK (tabD (asF gs) [])]) (by
    rw [exS.eq_def]
    dsimp only
    rw [hd]
    simp only [exSs, exS, evE, evEs, evO, evP, evL, evQ, evI, asT, asTs, wipeD, List.map_cons, List.map_nil, List.getElem?_cons_zero, List.getElem?_cons_succ, List.getElem?_nil, List.set_cons_zero, List.set_cons_succ, List.length_cons, List.length_nil, Nat.reduceAdd, Nat.reduceLT, Nat.zero_lt_succ, Nat.succ_lt_succ_iff, if_true, if_false, ite_true, ite_false, Bool.false_eq_true, Bool.not_true, Bool.not_false, recv, mthS, keyOf, binS, putS, Option.map_some, Option.bind_some, Option.map_none, Option.bind_none, idxS, items, itemsL, itemsW, truth, lim0, lim1, lim2, lim3, lim4, lim5])]
  rw [exSs_nx (ρ1 := [some (encF f), some (.tup (encD (asF gs))), some (.ref M.length), some (.int f.1), none, none, none, none, none, none]) (M1 := M ++ [.dK (tabD (asF gs) [])]) (by
    unfold encF
    simp only [exSs, exS, evE, evEs, evO, evP, evL, evQ, evI, asT, asTs, wipeD, List.map_cons, List.map_nil, List.getElem?_cons_zero, List.getElem?_cons_succ, List.getElem?_nil, List.set_cons_zero, List.set_cons_succ, List.length_cons, List.length_nil, Nat.reduceAdd, Nat.reduceLT, Nat.zero_lt_succ, Nat.succ_lt_succ_iff, if_true, if_false, ite_true, ite_false, Bool.false_eq_true, Bool.not_true, Bool.not_false, recv, mthS, keyOf, binS, putS, Option.map_some, Option.bind_some, Option.map_none, Option.bind_none, idxS, items, itemsL, itemsW, truth, lim0, lim1, lim2, lim3, lim4, lim5, at20])]
  rw [exSs_nx (ρ1 := [some (encF f), some (.tup (encD (asF gs))), some (.ref M.length), some (.int f.1), some (.ref (M.length + 1)), none, none, none, none, none]) (M1 := M ++ [.dK (tabD (asF gs) []), .lst []]) (by
    simp only [exSs, exS, evE, evEs, evO, evP, evL, evQ, evI, asT, asTs, wipeD, List.map_cons, List.map_nil, List.getElem?_cons_zero, List.getElem?_cons_succ, List.getElem?_nil, List.set_cons_zero, List.set_cons_succ, List.length_cons, List.length_nil, Nat.reduceAdd, Nat.reduceLT, Nat.zero_lt_succ, Nat.succ_lt_succ_iff, if_true, if_false, ite_true, ite_false, Bool.false_eq_true, Bool.not_true, Bool.not_false, recv, mthS, keyOf, binS, putS, Option.map_some, Option.bind_some, Option.map_none, Option.bind_none, idxS, items, itemsL, itemsW, truth, lim0, lim1, lim2, lim3, lim4, lim5, List.length_append, List.append_assoc]
    try rfl)]
  rw [exSs_nx (ρ1 := [some (encF f), some (.tup (encD (asF gs))), some (.ref M.length), some (.int (f.2.foldl (stepI gs) (f.1, [])).1), some (.ref (M.length + 1)), y5, y6, y7, y8, y9]) (M1 := M ++ [.dK (tabD (asF gs) []), .lst (encP (f.2.foldl (stepI gs) (f.1, [])).2)]) (by
    rw [exS.eq_def]
    dsimp only
    rw [evI_val (ds := encP f.2) (by unfold encF; simp only [exSs, exS, evE, evEs, evO, evP, evL, evQ, evI, asT, asTs, wipeD, List.map_cons, List.map_nil, List.getElem?_cons_zero, List.getElem?_cons_succ, List.getElem?_nil, List.set_cons_zero, List.set_cons_succ, List.length_cons, List.length_nil, Nat.reduceAdd, Nat.reduceLT, Nat.zero_lt_succ, Nat.succ_lt_succ_iff, if_true, if_false, ite_true, ite_false, Bool.false_eq_true, Bool.not_true, Bool.not_false, recv, mthS, keyOf, binS, putS, Option.map_some, Option.bind_some, Option.map_none, Option.bind_none, idxS, items, itemsL, itemsW, truth, lim0, lim1, lim2, lim3, lim4, lim5, at21])]
    exact lp)]
  refine exSs_rt ?_
  simp only [exSs, exS, evE, evEs, evO, evP, evL, evQ, evI, asT, asTs, wipeD, List.map_cons, List.map_nil, List.getElem?_cons_zero, List.getElem?_cons_succ, List.getElem?_nil, List.set_cons_zero, List.set_cons_succ, List.length_cons, List.length_nil, Nat.reduceAdd, Nat.reduceLT, Nat.zero_lt_succ, Nat.succ_lt_succ_iff, if_true, if_false, ite_true, ite_false, Bool.false_eq_true, Bool.not_true, Bool.not_false, recv, mthS, keyOf, binS, putS, Option.map_some, Option.bind_some, Option.map_none, Option.bind_none, idxS, items, itemsL, itemsW, truth, lim0, lim1, lim2, lim3, lim4, lim5, hF]
  try rfl
def B : Int := 1000000000000000000000000000000000000
theorem base_run (W k : Nat) (M : Store) : runF fds W (k + 1) 11 [] M = some (.int B, M) := by
  refine (runF_rt rfl rfl (d := .int B) (M1 := M) (ρ1 := []) ?_).trans (by rw [gc_id rfl])
  show exSs (runF fds W k) W b11 [] M = _
  unfold b11
  refine exSs_rt ?_
  have h1 : (0 : Int) ≤ 18 ∧ (18 : Int) ≤ 1000000 ∧ (10 : Int).natAbs < 18446744073709551616 := by decide
  have h2 : mulOk (10 ^ (18 : Int).toNat) (10 ^ (18 : Int).toNat) = true := by decide +kernel
  have h3 : ((10 : Int) ^ (18 : Int).toNat) * (10 : Int) ^ (18 : Int).toNat = B := by decide +kernel
  simp only [exSs, exS, evE, evEs, evO, evP, evL, evQ, evI, asT, asTs, wipeD, List.map_cons, List.map_nil, List.getElem?_cons_zero, List.getElem?_cons_succ, List.getElem?_nil, List.set_cons_zero, List.set_cons_succ, List.length_cons, List.length_nil, Nat.reduceAdd, Nat.reduceLT, Nat.zero_lt_succ, Nat.succ_lt_succ_iff, if_true, if_false, ite_true, ite_false, Bool.false_eq_true, Bool.not_true, Bool.not_false, recv, mthS, keyOf, binS, putS, Option.map_some, Option.bind_some, Option.map_none, Option.bind_none, idxS, items, itemsL, itemsW, truth, lim0, lim1, lim2, lim3, lim4, lim5, h1, h2, h3, and_self]
/-- the number that digits tell -/
def num : List Int → Int
  | [] => 0
  | d :: ds => num ds * B + d
structure Dig (b : Int) (ds : List Int) : Prop where
  lo : ∀ d ∈ ds, -b ≤ d
  hi : ∀ d ∈ ds, d ≤ b
theorem num_bound : ∀ {ds : List Int}, Dig 1000000000000000000000000000000 ds → (num ds).natAbs < 1000000000000000000000000000000000000 ^ ds.length
  | [], _ => by decide
  | d :: ds, h => by
    have ih := num_bound (ds := ds) ⟨fun d m => h.lo d (List.mem_cons_of_mem _ m), fun d m => h.hi d (List.mem_cons_of_mem _ m)⟩
    have h1 := h.lo d List.mem_cons_self
    have h2 := h.hi d List.mem_cons_self
    show (num ds * B + d).natAbs < 1000000000000000000000000000000000000 ^ (ds.length + 1)
    rw [Nat.pow_succ]
    generalize 1000000000000000000000000000000000000 ^ ds.length = z at ih
    unfold B
    omega
theorem log2_small {n : Nat} (h : n < 1000000000000000000000000000000000000 ^ 6) : n.log2 < 400000 := by
  by_cases h0 : n = 0
  · subst h0
    decide
  · have h1 : n < 2 ^ 1000 := Nat.lt_of_lt_of_le h (by decide +kernel)
    have h2 : n.log2 < 1000 := (Nat.log2_lt h0).mpr h1
    omega
theorem mulOk_log {i j : Int} (h1 : i.natAbs < 1000000000000000000000000000000000000 ^ 6) (h2 : j.natAbs < 1000000000000000000000000000000000000 ^ 6) : mulOk i j = true := by
  unfold mulOk
  simp [log2_small h1, log2_small h2]
theorem pow_le6 {n : Nat} (h : n ≤ 6) : 1000000000000000000000000000000000000 ^ n ≤ 1000000000000000000000000000000000000 ^ 6 := Nat.pow_le_pow_right (by decide) h
theorem num_loop (W k : Nat) (a0 : D) (M : Store) (ok : Store → Bool) (hok : ok M = true) : ∀ (es ds : List Int) (x2 : Option D), Dig 1000000000000000000000000000000 ds → Dig 1000000000000000000000000000000 es → es.length + ds.length ≤ 5 → ∃ y2,
    forG ok (fun d ρ M => match asT (runF fds W (k + 1)) (.name 2) d ρ M with
        | some (ρ1, M1) => exSs (runF fds W (k + 1)) W (.cons (.asg (.name 1) (.bin .Add (.bin .Mult (.var 1) (.call 11 .nil)) (.var 2))) .nil) ρ1 M1
        | none => none) (es.map D.int) [some a0, some (.int (num ds)), x2] M = some (.nx, [some a0, some (.int (num (es.reverse ++ ds))), y2], M)
  | [], ds, x2, _, _, _ => ⟨x2, by
    show forG _ _ [] _ _ = _
    unfold forG
    rw [if_pos hok]
    rfl⟩
  | e :: es, ds, x2, hd, he, hl => by
    have hd' : Dig 1000000000000000000000000000000 (e :: ds) := ⟨fun d m => by
      rcases List.mem_cons.mp m with z | z
      · rw [z]; exact he.lo e List.mem_cons_self
      · exact hd.lo d z, fun d m => by
      rcases List.mem_cons.mp m with z | z
      · rw [z]; exact he.hi e List.mem_cons_self
      · exact hd.hi d z⟩
    obtain ⟨y2, ih⟩ := num_loop W k a0 M ok hok es (e :: ds) (some (.int e)) hd' ⟨fun d m => he.lo d (List.mem_cons_of_mem _ m), fun d m => he.hi d (List.mem_cons_of_mem _ m)⟩ (by simp at hl ⊢; omega)
    have e1 : (e :: es).reverse ++ ds = es.reverse ++ (e :: ds) := by simp
    rw [e1]
    refine ⟨y2, ?_⟩
    refine (forG_nx hok ?_).trans ih
    have hB := base_run W k M
    have hm : mulOk (num ds) B = true := mulOk_log (Nat.lt_of_lt_of_le (num_bound hd) (pow_le6 (by simp at hl; omega))) (by decide +kernel)
    try dsimp only
    simp only [exSs, exS, evE, evEs, evO, evP, evL, evQ, evI, asT, asTs, wipeD, List.map_cons, List.map_nil, List.getElem?_cons_zero, List.getElem?_cons_succ, List.getElem?_nil, List.set_cons_zero, List.set_cons_succ, List.length_cons, List.length_nil, Nat.reduceAdd, Nat.reduceLT, Nat.zero_lt_succ, Nat.succ_lt_succ_iff, if_true, if_false, ite_true, ite_false, Bool.false_eq_true, Bool.not_true, Bool.not_false, recv, mthS, keyOf, binS, putS, Option.map_some, Option.bind_some, Option.map_none, Option.bind_none, idxS, items, itemsL, itemsW, truth, lim0, lim1, lim2, lim3, lim4, lim5, hB, hm]
    rfl
theorem num_run (W k : Nat) {j : Nat} {ds : List Int} (M : Store) (hj : M[j]? = some (.lst (ds.map D.int))) (hd : Dig 1000000000000000000000000000000 ds) (hl : ds.length ≤ 5) : runF fds W (k + 2) 13 [.ref j] M = some (.int (num ds), M) := by
  obtain ⟨y2, lp⟩ := num_loop W k (.ref j) M (stands (.tmp (ds.reverse.map D.int)) (ds.reverse.map D.int)) rfl ds.reverse [] none ⟨fun d m => by simp at m, fun d m => by simp at m⟩ ⟨fun d m => hd.lo d (by simpa using m), fun d m => hd.hi d (by simpa using m)⟩ (by simpa using hl)
  rw [List.reverse_reverse, List.append_nil] at lp
  refine (runF_rt rfl rfl (d := .int (num ds)) (M1 := M) (ρ1 := [some (.ref j), some (.int (num ds)), y2]) ?_).trans (by rw [gc_id rfl])
  show exSs (runF fds W (k + 1)) W b13 [some (.ref j), none, none] M = _
  unfold b13
  rw [exSs_nx (ρ1 := [some (.ref j), some (.int 0), none]) (M1 := M) (by simp only [exSs, exS, evE, evEs, evO, evP, evL, evQ, evI, asT, asTs, wipeD, List.map_cons, List.map_nil, List.getElem?_cons_zero, List.getElem?_cons_succ, List.getElem?_nil, List.set_cons_zero, List.set_cons_succ, List.length_cons, List.length_nil, Nat.reduceAdd, Nat.reduceLT, Nat.zero_lt_succ, Nat.succ_lt_succ_iff, if_true, if_false, ite_true, ite_false, Bool.false_eq_true, Bool.not_true, Bool.not_false, recv, mthS, keyOf, binS, putS, Option.map_some, Option.bind_some, Option.map_none, Option.bind_none, idxS, items, itemsL, itemsW, truth, lim0, lim1, lim2, lim3, lim4, lim5])]
  rw [exSs_nx (ρ1 := [some (.ref j), some (.int (num ds)), y2]) (M1 := M) (by
    rw [exS.eq_def]
    dsimp only
    have hI : evI (runF fds W (k + 1)) (.q (.lst (.rev (.val (.var 0))))) [some (.ref j), some (.int 0), none] M = some (stands (.tmp (ds.reverse.map D.int)) (ds.reverse.map D.int), ds.reverse.map D.int, M) := by
      simp only [exSs, exS, evE, evEs, evO, evP, evL, evQ, evI, asT, asTs, wipeD, List.map_cons, List.map_nil, List.getElem?_cons_zero, List.getElem?_cons_succ, List.getElem?_nil, List.set_cons_zero, List.set_cons_succ, List.length_cons, List.length_nil, Nat.reduceAdd, Nat.reduceLT, Nat.zero_lt_succ, Nat.succ_lt_succ_iff, if_true, if_false, ite_true, ite_false, Bool.false_eq_true, Bool.not_true, Bool.not_false, recv, mthS, keyOf, binS, putS, Option.map_some, Option.bind_some, Option.map_none, Option.bind_none, idxS, items, itemsL, itemsW, truth, lim0, lim1, lim2, lim3, lim4, lim5, listAt, hj, List.map_reverse]
    rw [hI]
    exact lp)]
  refine exSs_rt ?_
  simp only [exSs, exS, evE, evEs, evO, evP, evL, evQ, evI, asT, asTs, wipeD, List.map_cons, List.map_nil, List.getElem?_cons_zero, List.getElem?_cons_succ, List.getElem?_nil, List.set_cons_zero, List.set_cons_succ, List.length_cons, List.length_nil, Nat.reduceAdd, Nat.reduceLT, Nat.zero_lt_succ, Nat.succ_lt_succ_iff, if_true, if_false, ite_true, ite_false, Bool.false_eq_true, Bool.not_true, Bool.not_false, recv, mthS, keyOf, binS, putS, Option.map_some, Option.bind_some, Option.map_none, Option.bind_none, idxS, items, itemsL, itemsW, truth, lim0, lim1, lim2, lim3, lim4, lim5]
end K45

set_option Elab.async false
set_option linter.all false
set_option maxRecDepth 100000
set_option maxHeartbeats 4000000
/-! L45g: digits told of a great number. -/
namespace K45
open PySem L2 PS
theorem num_mod {d z : Int} (h1 : -B < 2 * d) (h2 : 2 * d < B) : (z * B + d) % B = if 0 ≤ d then d else d + B := by
  unfold B at *
  split <;> omega
theorem num_div (z : Int) : (z * B) / B = z := by
  unfold B
  omega
def bodyT : Ss := (.cons (.asg (.name 5) (.bin .Mod (.var 2) (.call 11 .nil)))
  (.cons (.ife (.cmp .Gt (.bin .Mult (.int 2) (.var 5)) (.call 11 .nil)) (.cons (.asg (.name 5) (.bin .Sub (.var 5) (.call 11 .nil)))
  .nil) .nil)
  (.cons (.ex (.mth .append (.var 3) (.cons (.var 5) .nil)))
  (.cons (.asg (.name 2) (.bin .FloorDiv (.bin .Sub (.var 2) (.var 5)) (.call 11 .nil)))
  .nil))))
theorem told_loop (W k : Nat) (a0 a1 : D) (M : Store) : ∀ (ts : List D) (ds acc : List Int) (x4 x5 x6 x7 : Option D), ts.length = ds.length → (∀ d ∈ ds, -B < 2 * d) → (∀ d ∈ ds, 2 * d < B) → acc.length + ds.length < 1000 → ∃ y4 y5,
    forG (fun _ => true) (fun d ρ M => match asT (runF fds W (k + 1)) (.name 4) d ρ M with
        | some (ρ1, M1) => exSs (runF fds W (k + 1)) W bodyT ρ1 M1
        | none => none) ts [some a0, some a1, some (.int (num ds)), some (.ref M.length), x4, x5, x6, x7] (M ++ [.lst (acc.map D.int)])
      = some (.nx, [some a0, some a1, some (.int 0), some (.ref M.length), y4, y5, x6, x7], M ++ [.lst ((acc ++ ds).map D.int)])
  | [], ds, acc, x4, x5, x6, x7, hl, _, _, _ => by
    have : ds = [] := by
      cases ds with
      | nil => rfl
      | cons _ _ => simp at hl
    subst this
    exact ⟨x4, x5, by
      show forG _ _ [] _ _ = _
      unfold forG
      rw [if_pos rfl, List.append_nil]
      rfl⟩
  | t :: ts, [], acc, x4, x5, x6, x7, hl, _, _, _ => by simp at hl
  | t :: ts, d :: ds, acc, x4, x5, x6, x7, hl, h1, h2, hn => by
    obtain ⟨y4, y5, ih⟩ := told_loop W k a0 a1 M ts ds (acc ++ [d]) (some t) (some (.int d)) x6 x7 (by simpa using hl) (fun e m => h1 e (List.mem_cons_of_mem _ m)) (fun e m => h2 e (List.mem_cons_of_mem _ m)) (by simp at hn ⊢; omega)
    have d1 := h1 d List.mem_cons_self
    have d2 := h2 d List.mem_cons_self
    have hB := base_run W k
    have hBp : (0 : Int) < B := by decide
    have hBl : 0 < B ∧ B.natAbs.log2 < 9000 := by decide +kernel
    have e1 : (acc ++ d :: ds) = (acc ++ [d]) ++ ds := by simp
    rw [e1]
    refine ⟨y4, y5, ?_⟩
    refine (forG_nx rfl ?_).trans ih
    have hm : ∀ x, mulOk 2 x = true := fun x => mulOk_small (by decide)
    have hmod : num (d :: ds) % B = if 0 ≤ d then d else d + B := num_mod d1 d2
    have hsub : num (d :: ds) - d = num ds * B := by show num ds * B + d - d = _; omega
    have hdiv := num_div (num ds)
    try dsimp only
    rw [asT.eq_def]
    dsimp only
    rw [if_pos (by simp)]
    dsimp only [List.set_cons_succ, List.set_cons_zero]
    unfold bodyT
    have hla : (acc.map D.int).length < lim := by
      have : lim = 16777216 := rfl
      simp at hn ⊢
      omega
    by_cases hd : 0 ≤ d
    · rw [if_pos hd] at hmod
      have hgt : (decide (B < 2 * d)) = false := by simp; omega
      rw [exSs_nx (ρ1 := [some a0, some a1, some (.int (num (d :: ds))), some (.ref M.length), some t, some (.int d), x6, x7]) (M1 := M ++ [.lst (acc.map D.int)]) (by simp only [exSs, exS, evE, evEs, evO, evP, evL, evQ, evI, asT, asTs, wipeD, List.map_cons, List.map_nil, List.getElem?_cons_zero, List.getElem?_cons_succ, List.getElem?_nil, List.set_cons_zero, List.set_cons_succ, List.length_cons, List.length_nil, Nat.reduceAdd, Nat.reduceLT, Nat.zero_lt_succ, Nat.succ_lt_succ_iff, if_true, if_false, ite_true, ite_false, Bool.false_eq_true, Bool.not_true, Bool.not_false, recv, mthS, keyOf, binS, putS, Option.map_some, Option.bind_some, Option.map_none, Option.bind_none, idxS, items, itemsL, itemsW, truth, lim0, lim1, lim2, lim3, lim4, lim5, hB, hmod, hBp])]
      rw [exSs_nx (ρ1 := [some a0, some a1, some (.int (num (d :: ds))), some (.ref M.length), some t, some (.int d), x6, x7]) (M1 := M ++ [.lst (acc.map D.int)]) (by simp only [exSs, exS, evE, evEs, evO, evP, evL, evQ, evI, asT, asTs, wipeD, List.map_cons, List.map_nil, List.getElem?_cons_zero, List.getElem?_cons_succ, List.getElem?_nil, List.set_cons_zero, List.set_cons_succ, List.length_cons, List.length_nil, Nat.reduceAdd, Nat.reduceLT, Nat.zero_lt_succ, Nat.succ_lt_succ_iff, if_true, if_false, ite_true, ite_false, Bool.false_eq_true, Bool.not_true, Bool.not_false, recv, mthS, keyOf, binS, putS, Option.map_some, Option.bind_some, Option.map_none, Option.bind_none, idxS, items, itemsL, itemsW, truth, lim0, lim1, lim2, lim3, lim4, lim5, hB, hm, cmpS, hgt])]
      simp only [exSs, exS, evE, evEs, evO, evP, evL, evQ, evI, asT, asTs, wipeD, List.map_cons, List.map_nil, List.getElem?_cons_zero, List.getElem?_cons_succ, List.getElem?_nil, List.set_cons_zero, List.set_cons_succ, List.length_cons, List.length_nil, Nat.reduceAdd, Nat.reduceLT, Nat.zero_lt_succ, Nat.succ_lt_succ_iff, if_true, if_false, ite_true, ite_false, Bool.false_eq_true, Bool.not_true, Bool.not_false, recv, mthS, keyOf, binS, putS, Option.map_some, Option.bind_some, Option.map_none, Option.bind_none, idxS, items, itemsL, itemsW, truth, lim0, lim1, lim2, lim3, lim4, lim5, at_last, set_last, hla, hB, hsub, hBl, and_self, hdiv]
      simp
    · rw [if_neg hd] at hmod
      have hgt : (decide (B < 2 * (d + B))) = true := by simp; unfold B at *; omega
      have hsb : d + B - B = d := by omega
      rw [exSs_nx (ρ1 := [some a0, some a1, some (.int (num (d :: ds))), some (.ref M.length), some t, some (.int (d + B)), x6, x7]) (M1 := M ++ [.lst (acc.map D.int)]) (by simp only [exSs, exS, evE, evEs, evO, evP, evL, evQ, evI, asT, asTs, wipeD, List.map_cons, List.map_nil, List.getElem?_cons_zero, List.getElem?_cons_succ, List.getElem?_nil, List.set_cons_zero, List.set_cons_succ, List.length_cons, List.length_nil, Nat.reduceAdd, Nat.reduceLT, Nat.zero_lt_succ, Nat.succ_lt_succ_iff, if_true, if_false, ite_true, ite_false, Bool.false_eq_true, Bool.not_true, Bool.not_false, recv, mthS, keyOf, binS, putS, Option.map_some, Option.bind_some, Option.map_none, Option.bind_none, idxS, items, itemsL, itemsW, truth, lim0, lim1, lim2, lim3, lim4, lim5, hB, hmod, hBp])]
      rw [exSs_nx (ρ1 := [some a0, some a1, some (.int (num (d :: ds))), some (.ref M.length), some t, some (.int d), x6, x7]) (M1 := M ++ [.lst (acc.map D.int)]) (by simp only [exSs, exS, evE, evEs, evO, evP, evL, evQ, evI, asT, asTs, wipeD, List.map_cons, List.map_nil, List.getElem?_cons_zero, List.getElem?_cons_succ, List.getElem?_nil, List.set_cons_zero, List.set_cons_succ, List.length_cons, List.length_nil, Nat.reduceAdd, Nat.reduceLT, Nat.zero_lt_succ, Nat.succ_lt_succ_iff, if_true, if_false, ite_true, ite_false, Bool.false_eq_true, Bool.not_true, Bool.not_false, recv, mthS, keyOf, binS, putS, Option.map_some, Option.bind_some, Option.map_none, Option.bind_none, idxS, items, itemsL, itemsW, truth, lim0, lim1, lim2, lim3, lim4, lim5, hB, hm, cmpS, hgt, hsb])]
      simp only [exSs, exS, evE, evEs, evO, evP, evL, evQ, evI, asT, asTs, wipeD, List.map_cons, List.map_nil, List.getElem?_cons_zero, List.getElem?_cons_succ, List.getElem?_nil, List.set_cons_zero, List.set_cons_succ, List.length_cons, List.length_nil, Nat.reduceAdd, Nat.reduceLT, Nat.zero_lt_succ, Nat.succ_lt_succ_iff, if_true, if_false, ite_true, ite_false, Bool.false_eq_true, Bool.not_true, Bool.not_false, recv, mthS, keyOf, binS, putS, Option.map_some, Option.bind_some, Option.map_none, Option.bind_none, idxS, items, itemsL, itemsW, truth, lim0, lim1, lim2, lim3, lim4, lim5, at_last, set_last, hla, hB, hsub, hBl, and_self, hdiv]
      simp
end K45

set_option Elab.async false
set_option linter.all false
set_option maxRecDepth 100000
set_option maxHeartbeats 4000000
/-! L45h: told as a whole; same. -/
namespace K45
open PySem L2 PS
def rng0 (n : Nat) : List D := (List.range n).map fun (i : Nat) => D.int (i : Int)
theorem rngD_nat (n : Nat) : rngD 0 (n : Int) = rng0 n := by
  unfold rngD rng0
  simp
theorem evI_rng {Φ : Nat → Fn} {a : E} {ρ : PS.Env} {M M1 : Store} {n : Nat} (h : evE Φ a ρ M = some (.int (n : Int), M1)) (hn : n < 1000000) : evI Φ (.rng1 a) ρ M = some (fun _ => true, rng0 n, M1) := by
  rw [evI.eq_def]
  dsimp only
  rw [h]
  dsimp only
  rw [if_pos (by unfold rngOk; simp; omega), rngD_nat]
def prs (names : List Str) (ds : List Int) : P2 := (List.range names.length).filterMap fun i => if ds.getD (i + 1) 0 = 0 then none else some (names.getD i "", ds.getD (i + 1) 0)
def zipP (names : List Str) (es : List Int) : P2 := names.zip es
theorem prs_zip : ∀ (names : List Str) (d0 : Int) (es : List Int), es.length = names.length → prs names (d0 :: es) = (zipP names es).filter fun p => p.2 ≠ 0
  | [], d0, es, h => by
    have : es = [] := by
      cases es with
      | nil => rfl
      | cons _ _ => simp at h
    subst this
    rfl
  | n :: names, d0, [], h => by simp at h
  | n :: names, d0, e :: es, h => by
    have ih := prs_zip names e es (by simpa using h)
    unfold prs at ih ⊢
    rw [List.length_cons, List.range_succ_eq_map]
    have e2 : (List.map Nat.succ (List.range names.length)).filterMap (fun i => if (d0 :: e :: es).getD (i + 1) 0 = 0 then none else some ((n :: names).getD i "", (d0 :: e :: es).getD (i + 1) 0))
        = (List.range names.length).filterMap fun i => if (e :: es).getD (i + 1) 0 = 0 then none else some (names.getD i "", (e :: es).getD (i + 1) 0) := by
      rw [List.filterMap_map]
      rfl
    by_cases he : e = 0
    · rw [List.filterMap_cons_none (by simp [he]), e2, ih]
      unfold zipP
      rw [List.zip_cons_cons, List.filter_cons_of_neg (by simp [he])]
    · rw [List.filterMap_cons_some (b := (n, e)) (by simp [he]), e2, ih]
      unfold zipP
      rw [List.zip_cons_cons, List.filter_cons_of_pos (by simp [he])]
def ltP (p q : Str × Int) : Bool := dLt (.tup [.str p.1, .int p.2]) (.tup [.str q.1, .int q.2])
theorem ltP_swo : SrtO.Swo ltP := ⟨fun x y h => dLt_swo.asym _ _ h, fun x y z h1 h2 => dLt_swo.tr _ _ _ h1 h2⟩
theorem sort_encP (ps : P2) : sortD (encP ps) = some (encP (sortB ltP ps)) := by
  have hs : sortable (encP ps) = true := by
    cases ps with
    | nil => rfl
    | cons p ps =>
      unfold sortable
      have h1 : shp (encP (p :: ps)) = [true, false] := rfl
      have h2 : (encP (p :: ps)).all (srT [true, false]) = true := by
        rw [List.all_eq_true]
        intro d hd
        obtain ⟨q, hq, rfl⟩ := List.mem_map.mp hd
        rfl
      rw [h1, h2]
      simp
  unfold sortD
  rw [if_pos hs]
  unfold encP
  rw [sortB_map]
  rfl
theorem ltS_ltP {p q : Str × Int} (h : ltP p q = false) : ltS p.1 q.1 = false := by
  have h1 : ltP p q = (itLt (.inr p.1.cps.toList) (.inr q.1.cps.toList) || (!itLt (.inr q.1.cps.toList) (.inr p.1.cps.toList) && (itLt (.inl p.2) (.inl q.2) || (!itLt (.inl q.2) (.inl p.2) && false)))) := rfl
  have h2 : ltS p.1 q.1 = (itLt (.inr p.1.cps.toList) (.inr q.1.cps.toList) || (!itLt (.inr q.1.cps.toList) (.inr p.1.cps.toList) && false)) := rfl
  rw [h1] at h
  rw [h2]
  simp only [Bool.or_eq_false_iff] at h
  rw [h.1]
  simp
theorem sg_perm {a b : P2} (h : a.Perm b) (x : Str) : sg a x = sg b x := by
  induction h with
  | nil => rfl
  | cons p _ ih => rw [sg_cons, sg_cons, ih]
  | swap p q l => rw [sg_cons, sg_cons, sg_cons, sg_cons]; omega
  | trans _ _ i1 i2 => exact i1.trans i2
theorem sortP_can {ps : P2} (nd : (ps.map (·.1)).Nodup) (nz : ∀ p ∈ ps, p.2 ≠ 0) : IsCan (sortB ltP ps) ∧ ∀ x, sg (sortB ltP ps) x = sg ps x := by
  have pm := sortB_perm (lt := ltP) ps
  refine ⟨⟨?_, fun p hp => nz p (pm.mem_iff.mp hp)⟩, fun x => sg_perm pm x⟩
  have h1 := sortB_srt ltP_swo ps
  have h0 : ((sortB ltP ps).map (·.1)).Nodup := (pm.map (·.1)).nodup_iff.mpr nd
  have h2 : (sortB ltP ps).Pairwise fun p q => p.1 ≠ q.1 := List.pairwise_map.mp h0
  exact (h1.and h2).imp fun {p q} h => ltS_of (ltS_ltP h.1) h.2
theorem sg_filter (ps : P2) (x : Str) : sg (ps.filter fun p => p.2 ≠ 0) x = sg ps x := by
  induction ps with
  | nil => rfl
  | cons p ps ih =>
    rw [sg_cons]
    by_cases h : p.2 = 0
    · rw [List.filter_cons_of_neg (by simp [h]), ih, h]
      simp
    · rw [List.filter_cons_of_pos (by simp [h]), sg_cons, ih]
def toldF (ds : List Int) (names : List Str) : Int × P2 := (ds.headD 0, sortB ltP (prs names ds))
theorem zip_names : ∀ (names : List Str) (es : List Int), es.length = names.length → (zipP names es).map (·.1) = names
  | [], [], _ => rfl
  | [], _ :: _, h => by simp at h
  | _ :: _, [], h => by simp at h
  | n :: names, e :: es, h => by
    have := zip_names names es (by simpa using h)
    unfold zipP at this ⊢
    rw [List.zip_cons_cons, List.map_cons, this]
theorem told_can {names : List Str} {ds : List Int} (nd : names.Nodup) (hl : ds.length = names.length + 1) : IsCan (toldF ds names).2 ∧ ∀ x, sg (toldF ds names).2 x = sg (zipP names ds.tail) x := by
  cases ds with
  | nil => simp at hl
  | cons d0 es =>
    have hes : es.length = names.length := by simpa using hl
    have e := prs_zip names d0 es hes
    have hz := zip_names names es hes
    have h := sortP_can (ps := prs names (d0 :: es)) (by
      rw [e]
      exact List.Nodup.sublist ((List.filter_sublist).map _) (by rw [hz]; exact nd)) (fun p hp => by
      rw [e] at hp
      have := (List.mem_filter.mp hp).2
      simpa using this)
    refine ⟨h.1, fun x => ?_⟩
    show sg (sortB ltP (prs names (d0 :: es))) x = _
    rw [h.2 x, e, sg_filter]
    rfl
theorem plainDs_encP : ∀ ps : P2, plainDs (encP ps) = true := by
  intro ps
  unfold plainDs
  have h2 : deps (encP ps) ≤ 1 := by
    induction ps with
    | nil => decide
    | cons p ps ih =>
      show max (dep _) (deps (encP ps)) ≤ 1
      have : dep (.tup [.str p.1, .int p.2]) = 1 := rfl
      rw [this]
      omega
  rw [closed_encP]
  simp
  omega
theorem told_run (W k : Nat) {j : Nat} {ds : List Int} {names : List Str} (M : Store) (hj : M[j]? = some (.lst (names.map D.str))) (hl : ds.length = names.length + 1) (hn : names.length ≤ 4) (h1 : ∀ d ∈ ds, -B < 2 * d) (h2 : ∀ d ∈ ds, 2 * d < B) :
    runF fds W (k + 2) 12 [.int (num ds), .ref j] M = some (encF (toldF ds names), M) := by
  have hlim : lim = 16777216 := rfl
  obtain ⟨y4, y5, lp⟩ := told_loop W k (.int (num ds)) (.ref j) M (rng0 (names.length + 1)) ds [] none none none none (by simp [rng0, hl]) h1 h2 (by simp; omega)
  rw [List.nil_append] at lp
  let T : Store := [.lst (ds.map D.int), .lst (encP (prs names ds))]
  refine (runF_rt rfl rfl (d := encF (toldF ds names)) (M1 := M ++ [.lst (ds.map D.int), .lst (encP (prs names ds))]) (ρ1 := [some (.int (num ds)), some (.ref j), some (.int 0), some (.ref M.length), y4, y5, some (.ref (M.length + 1)), none]) ?_).trans (by rw [gc_pure (closed_encF _ _)])
  show exSs (runF fds W (k + 1)) W b12 [some (.int (num ds)), some (.ref j), none, none, none, none, none, none] M = _
  unfold b12
  rw [exSs_nx (ρ1 := [some (.int (num ds)), some (.ref j), some (.int (num ds)), none, none, none, none, none]) (M1 := M) (by simp only [exSs, exS, evE, evEs, evO, evP, evL, evQ, evI, asT, asTs, wipeD, List.map_cons, List.map_nil, List.getElem?_cons_zero, List.getElem?_cons_succ, List.getElem?_nil, List.set_cons_zero, List.set_cons_succ, List.length_cons, List.length_nil, Nat.reduceAdd, Nat.reduceLT, Nat.zero_lt_succ, Nat.succ_lt_succ_iff, if_true, if_false, ite_true, ite_false, Bool.false_eq_true, Bool.not_true, Bool.not_false, recv, mthS, keyOf, binS, putS, Option.map_some, Option.bind_some, Option.map_none, Option.bind_none, idxS, items, itemsL, itemsW, truth, lim0, lim1, lim2, lim3, lim4, lim5])]
  rw [exSs_nx (ρ1 := [some (.int (num ds)), some (.ref j), some (.int (num ds)), some (.ref M.length), none, none, none, none]) (M1 := M ++ [.lst []]) (by simp only [exSs, exS, evE, evEs, evO, evP, evL, evQ, evI, asT, asTs, wipeD, List.map_cons, List.map_nil, List.getElem?_cons_zero, List.getElem?_cons_succ, List.getElem?_nil, List.set_cons_zero, List.set_cons_succ, List.length_cons, List.length_nil, Nat.reduceAdd, Nat.reduceLT, Nat.zero_lt_succ, Nat.succ_lt_succ_iff, if_true, if_false, ite_true, ite_false, Bool.false_eq_true, Bool.not_true, Bool.not_false, recv, mthS, keyOf, binS, putS, Option.map_some, Option.bind_some, Option.map_none, Option.bind_none, idxS, items, itemsL, itemsW, truth, lim0, lim1, lim2, lim3, lim4, lim5])]
  have hja : ∀ T, (M ++ T)[j]? = some (.lst (names.map D.str)) := fun T => at_old hj
  rw [exSs_nx (ρ1 := [some (.int (num ds)), some (.ref j), some (.int 0), some (.ref M.length), y4, y5, none, none]) (M1 := M ++ [.lst (ds.map D.int)]) (by
    rw [exS.eq_def]
    dsimp only
    rw [evI_rng (n := names.length + 1) (M1 := M ++ [.lst []]) (by
      simp only [exSs, exS, evE, evEs, evO, evP, evL, evQ, evI, asT, asTs, wipeD, List.map_cons, List.map_nil, List.getElem?_cons_zero, List.getElem?_cons_succ, List.getElem?_nil, List.set_cons_zero, List.set_cons_succ, List.length_cons, List.length_nil, Nat.reduceAdd, Nat.reduceLT, Nat.zero_lt_succ, Nat.succ_lt_succ_iff, if_true, if_false, ite_true, ite_false, Bool.false_eq_true, Bool.not_true, Bool.not_false, recv, mthS, keyOf, binS, putS, Option.map_some, Option.bind_some, Option.map_none, Option.bind_none, idxS, items, itemsL, itemsW, truth, lim0, lim1, lim2, lim3, lim4, lim5, aggS, listAt, hja, List.length_map]
      try rfl) (by omega)]
    exact lp)]
  have hc := evL_map (Φ := runF fds W (k + 1)) (own := [("k", 7)]) (t := .name 7) (c := .yes (.cmp .NotEq (.idx (.val (.var 3)) (.bin .Add (.var 7) (.int 1))) (.int 0))) (elt := .tup (.cons (.idx (.val (.var 1)) (.var 7)) (.cons (.idx (.val (.var 3)) (.bin .Add (.var 7) (.int 1))) .nil)))
    (it := .rng1 (.agg .len (.val (.var 1)))) (ρ := [some (.int (num ds)), some (.ref j), some (.int 0), some (.ref M.length), y4, y5, none, none]) (M := M ++ [.lst (ds.map D.int)]) (M1 := M ++ [.lst (ds.map D.int)]) (ds := rng0 names.length)
    (fun d => match d with
      | .int i => if ds.getD (i.toNat + 1) 0 = 0 then none else some (.tup [.str (names.getD i.toNat ""), .int (ds.getD (i.toNat + 1) 0)])
      | _ => none) (evI_rng (by
        simp only [exSs, exS, evE, evEs, evO, evP, evL, evQ, evI, asT, asTs, wipeD, List.map_cons, List.map_nil, List.getElem?_cons_zero, List.getElem?_cons_succ, List.getElem?_nil, List.set_cons_zero, List.set_cons_succ, List.length_cons, List.length_nil, Nat.reduceAdd, Nat.reduceLT, Nat.zero_lt_succ, Nat.succ_lt_succ_iff, if_true, if_false, ite_true, ite_false, Bool.false_eq_true, Bool.not_true, Bool.not_false, recv, mthS, keyOf, binS, putS, Option.map_some, Option.bind_some, Option.map_none, Option.bind_none, idxS, items, itemsL, itemsW, truth, lim0, lim1, lim2, lim3, lim4, lim5, aggS, listAt, hja, List.length_map]
        try rfl) (by omega)) rfl (by simp [rng0]; omega) (fun d hd => by
      obtain ⟨i, hi, rfl⟩ := List.mem_map.mp hd
      have hi : i < names.length := by simpa using hi
      have hi2 : i + 1 < ds.length := by omega
      have a1 : atI (names.map D.str) (i : Int) = some (.str (names.getD i "")) := atI_nat (by rw [List.getElem?_map, List.getElem?_eq_getElem hi]; simp [hi])
      have a2 : atI (ds.map D.int) ((i : Int) + 1) = some (.int (ds.getD (i + 1) 0)) := by
        have : ((i : Int) + 1) = ((i + 1 : Nat) : Int) := by omega
        rw [this]
        exact atI_nat (by rw [List.getElem?_map, List.getElem?_eq_getElem hi2]; simp [hi2])
      have e1 : ∀ x, (plainD (.int x) && plainD (.int 0)) = true := fun _ => rfl
      have ti : ((i : Int)).toNat = i := by simp
      unfold turnC
      simp only [exSs, exS, evE, evEs, evO, evP, evL, evQ, evI, asT, asTs, wipeD, List.map_cons, List.map_nil, List.getElem?_cons_zero, List.getElem?_cons_succ, List.getElem?_nil, List.set_cons_zero, List.set_cons_succ, List.length_cons, List.length_nil, Nat.reduceAdd, Nat.reduceLT, Nat.zero_lt_succ, Nat.succ_lt_succ_iff, if_true, if_false, ite_true, ite_false, Bool.false_eq_true, Bool.not_true, Bool.not_false, recv, mthS, keyOf, binS, putS, Option.map_some, Option.bind_some, Option.map_none, Option.bind_none, idxS, items, itemsL, itemsW, truth, lim0, lim1, lim2, lim3, lim4, lim5, at_last, hja, a1, a2, cmpS, e1, ti]
      by_cases h0 : ds.getD (i + 1) 0 = 0
      · rw [h0]
        rfl
      · have h3 : eqD (.int (ds.getD (i + 1) 0)) (.int 0) = false := by
          show (ds.getD (i + 1) 0 == 0) = false
          simpa using h0
        rw [h3]
        simp only [exSs, exS, evE, evEs, evO, evP, evL, evQ, evI, asT, asTs, wipeD, List.map_cons, List.map_nil, List.getElem?_cons_zero, List.getElem?_cons_succ, List.getElem?_nil, List.set_cons_zero, List.set_cons_succ, List.length_cons, List.length_nil, Nat.reduceAdd, Nat.reduceLT, Nat.zero_lt_succ, Nat.succ_lt_succ_iff, if_true, if_false, ite_true, ite_false, Bool.false_eq_true, Bool.not_true, Bool.not_false, recv, mthS, keyOf, binS, putS, Option.map_some, Option.bind_some, Option.map_none, Option.bind_none, idxS, items, itemsL, itemsW, truth, lim0, lim1, lim2, lim3, lim4, lim5, at_last, hja, a1, a2, h0])
  have e3 : (rng0 names.length).filterMap (fun d => match d with
      | .int i => if ds.getD (i.toNat + 1) 0 = 0 then none else some (D.tup [.str (names.getD i.toNat ""), .int (ds.getD (i.toNat + 1) 0)])
      | _ => none) = encP (prs names ds) := by
    unfold rng0 encP prs
    rw [List.filterMap_map, List.map_filterMap]
    congr 1
    funext i
    show (if ds.getD ((i : Int).toNat + 1) 0 = 0 then none else some (D.tup [.str (names.getD (i : Int).toNat ""), .int (ds.getD ((i : Int).toNat + 1) 0)])) = Option.map _ (if ds.getD (i + 1) 0 = 0 then none else some (names.getD i "", ds.getD (i + 1) 0))
    rw [show ((i : Int)).toNat = i by simp]
    split <;> rfl
  rw [e3] at hc
  rw [exSs_nx (ρ1 := [some (.int (num ds)), some (.ref j), some (.int 0), some (.ref M.length), y4, y5, some (.ref (M.length + 1)), none]) (M1 := M ++ [.lst (ds.map D.int), .lst (encP (prs names ds))]) (by
    simp only [exSs, exS, evE, evEs, evO, evP, evQ, asT, asTs, wipeD, List.map_cons, List.map_nil, List.getElem?_cons_zero, List.getElem?_cons_succ, List.getElem?_nil, List.set_cons_zero, List.set_cons_succ, List.length_cons, List.length_nil, Nat.reduceAdd, Nat.reduceLT, Nat.zero_lt_succ, Nat.succ_lt_succ_iff, if_true, if_false, ite_true, ite_false, Bool.false_eq_true, Bool.not_true, Bool.not_false, recv, mthS, keyOf, binS, putS, Option.map_some, Option.bind_some, Option.map_none, Option.bind_none, idxS, items, itemsL, itemsW, truth, lim0, lim1, lim2, lim3, lim4, lim5, hc, List.length_append, List.append_assoc]
    try rfl)]
  refine exSs_rt ?_
  have a0 : atI (ds.map D.int) 0 = some (.int (ds.headD 0)) := by
    cases ds with
    | nil => simp at hl
    | cons d ds => exact atI_nat (j := 0) rfl
  simp only [exSs, exS, evE, evEs, evO, evP, evL, evQ, evI, asT, asTs, wipeD, List.map_cons, List.map_nil, List.getElem?_cons_zero, List.getElem?_cons_succ, List.getElem?_nil, List.set_cons_zero, List.set_cons_succ, List.length_cons, List.length_nil, Nat.reduceAdd, Nat.reduceLT, Nat.zero_lt_succ, Nat.succ_lt_succ_iff, if_true, if_false, ite_true, ite_false, Bool.false_eq_true, Bool.not_true, Bool.not_false, recv, mthS, keyOf, binS, putS, Option.map_some, Option.bind_some, Option.map_none, Option.bind_none, idxS, items, itemsL, itemsW, truth, lim0, lim1, lim2, lim3, lim4, lim5, at_two0, at_two1, listAt, plainDs_encP, sort_encP, aggS, a0]
  rfl
end K45

set_option Elab.async false
set_option linter.all false
set_option maxRecDepth 100000
set_option maxHeartbeats 4000000
/-! L45i: same; draws. -/
namespace K45
open PySem L2 PS
mutual
def flatD : D → Bool
  | .int _ => true
  | .str _ => true
  | .tup ds => flatDs ds && decide (ds.length < 1000)
  | _ => false
def flatDs : List D → Bool
  | [] => true
  | d :: ds => flatD d && flatDs ds
end
theorem flat_mem : ∀ {ds : List D}, flatDs ds = true → ∀ d ∈ ds, flatD d = true
  | e :: ds, h, d, m => by
    simp only [flatDs, Bool.and_eq_true] at h
    rcases List.mem_cons.mp m with z | z
    · rw [z]; exact h.1
    · exact flat_mem h.2 d z
theorem deps_mem : ∀ {ds : List D} {d : D}, d ∈ ds → dep d ≤ deps ds
  | e :: ds, d, m => by
    show dep d ≤ max (dep e) (deps ds)
    rcases List.mem_cons.mp m with z | z
    · rw [z]; omega
    · have := deps_mem z
      omega
theorem all_true {α : Type} (l : List α) (M : Store) : aggS .all (.tmp (l.filterMap fun _ => some (D.bl true))) M = some (.bl true) := by
  have h1 : l.filterMap (fun _ => some (D.bl true)) = (l.map fun _ => true).map D.bl := by
    induction l with
    | nil => rfl
    | cons a l ih => simp [ih]
  have h2 : ∀ bs : List Bool, blsOf (bs.map D.bl) = some bs := by
    intro bs
    induction bs with
    | nil => rfl
    | cons b bs ih =>
      show (blsOf (bs.map D.bl)).map _ = _
      rw [ih]
      rfl
  have h3 : ∀ xs : List D, aggS .all (.tmp xs) M = (blsOf xs).map fun bs => .bl (bs.all id) := fun _ => rfl
  rw [h3, h1, h2]
  simp
theorem exS_ret {Φ : Nat → Fn} {W : Nat} {e : E} {ρ : PS.Env} {M M1 : Store} {d : D} (h : evE Φ e ρ M = some (d, M1)) : exS Φ W (.ret e) ρ M = some (.rt d, ρ, M1) := by
  rw [exS.eq_def]
  dsimp only
  rw [h]
theorem exS_ifT {Φ : Nat → Fn} {W : Nat} {c : E} {a b : Ss} {ρ : PS.Env} {M M1 : Store} {d : D} (h : evE Φ c ρ M = some (d, M1)) (t : truth M1 d = some true) : exS Φ W (.ife c a b) ρ M = exSs Φ W a ρ M1 := by
  rw [exS.eq_def]
  dsimp only
  rw [h]
  dsimp only
  rw [t]
theorem exS_ifF {Φ : Nat → Fn} {W : Nat} {c : E} {a : Ss} {ρ : PS.Env} {M M1 : Store} {d : D} (h : evE Φ c ρ M = some (d, M1)) (t : truth M1 d = some false) : exS Φ W (.ife c a .nil) ρ M = some (.nx, ρ, M1) := by
  rw [exS.eq_def]
  dsimp only
  rw [h]
  dsimp only
  rw [t]
  dsimp only
  rw [exSs.eq_def]
theorem evQ_lst {Φ : Nat → Fn} {l : L} {ρ : PS.Env} {M M1 : Store} {ds : List D} (h : evL Φ l ρ M = some (ds, M1)) : evQ Φ (.lst l) ρ M = some (.tmp ds, M1) := by
  rw [evQ.eq_def]
  dsimp only
  rw [h]
theorem evE_agg {Φ : Nat → Fn} {g : Agg} {q : Q} {ρ : PS.Env} {M M1 : Store} {x : QV} (h : evQ Φ q ρ M = some (x, M1)) : evE Φ (.agg g q) ρ M = (aggS g x M1).map fun d => (d, M1) := by
  rw [evE.eq_def]
  dsimp only
  rw [h]
theorem isint_run (W k : Nat) (i : Int) (M : Store) : runF fds W (k + 1) 9 [.int i] M = some (.bl true, M) := by
  refine (runF_rt rfl rfl (d := .bl true) (M1 := M) (ρ1 := [some (.int i)]) ?_).trans (by rw [gc_id rfl])
  show exSs (runF fds W k) W b9 [some (.int i)] M = _
  unfold b9
  refine exSs_rt ?_
  simp only [exSs, exS, evE, evEs, evO, evP, evL, evQ, evI, asT, asTs, wipeD, List.map_cons, List.map_nil, List.getElem?_cons_zero, List.getElem?_cons_succ, List.getElem?_nil, List.set_cons_zero, List.set_cons_succ, List.length_cons, List.length_nil, Nat.reduceAdd, Nat.reduceLT, Nat.zero_lt_succ, Nat.succ_lt_succ_iff, if_true, if_false, ite_true, ite_false, Bool.false_eq_true, Bool.not_true, Bool.not_false, recv, mthS, keyOf, binS, putS, Option.map_some, Option.bind_some, Option.map_none, Option.bind_none, idxS, items, itemsL, itemsW, truth, lim0, lim1, lim2, lim3, lim4, lim5, bltS]
theorem same_int (W n : Nat) (i : Int) (M : Store) : runF fds W (n + 2) 10 [.int i, .int i] M = some (.bl true, M) := by
  refine (runF_rt rfl rfl (d := .bl true) (M1 := M) (ρ1 := [some (.int i), some (.int i), none]) ?_).trans (by rw [gc_id rfl])
  show exSs (runF fds W (n + 1)) W b10 [some (.int i), some (.int i), none] M = _
  unfold b10
  rw [exSs_nx (ρ1 := [some (.int i), some (.int i), none]) (M1 := M) (by simp only [exSs, exS, evE, evEs, evO, evP, evL, evQ, evI, asT, asTs, wipeD, List.map_cons, List.map_nil, List.getElem?_cons_zero, List.getElem?_cons_succ, List.getElem?_nil, List.set_cons_zero, List.set_cons_succ, List.length_cons, List.length_nil, Nat.reduceAdd, Nat.reduceLT, Nat.zero_lt_succ, Nat.succ_lt_succ_iff, if_true, if_false, ite_true, ite_false, Bool.false_eq_true, Bool.not_true, Bool.not_false, recv, mthS, keyOf, binS, putS, Option.map_some, Option.bind_some, Option.map_none, Option.bind_none, idxS, items, itemsL, itemsW, truth, lim0, lim1, lim2, lim3, lim4, lim5, bltS])]
  rw [exSs_nx (ρ1 := [some (.int i), some (.int i), none]) (M1 := M) (by simp only [exSs, exS, evE, evEs, evO, evP, evL, evQ, evI, asT, asTs, wipeD, List.map_cons, List.map_nil, List.getElem?_cons_zero, List.getElem?_cons_succ, List.getElem?_nil, List.set_cons_zero, List.set_cons_succ, List.length_cons, List.length_nil, Nat.reduceAdd, Nat.reduceLT, Nat.zero_lt_succ, Nat.succ_lt_succ_iff, if_true, if_false, ite_true, ite_false, Bool.false_eq_true, Bool.not_true, Bool.not_false, recv, mthS, keyOf, binS, putS, Option.map_some, Option.bind_some, Option.map_none, Option.bind_none, idxS, items, itemsL, itemsW, truth, lim0, lim1, lim2, lim3, lim4, lim5, bltS])]
  refine exSs_rt ?_
  have h1 := isint_run W n i M
  have e1 : (plainD (.int i) && plainD (.int i)) = true := rfl
  have e2 : eqD (.int i) (.int i) = true := by show (i == i) = true; simp
  simp only [exSs, exS, evE, evEs, evO, evP, evL, evQ, evI, asT, asTs, wipeD, List.map_cons, List.map_nil, List.getElem?_cons_zero, List.getElem?_cons_succ, List.getElem?_nil, List.set_cons_zero, List.set_cons_succ, List.length_cons, List.length_nil, Nat.reduceAdd, Nat.reduceLT, Nat.zero_lt_succ, Nat.succ_lt_succ_iff, if_true, if_false, ite_true, ite_false, Bool.false_eq_true, Bool.not_true, Bool.not_false, recv, mthS, keyOf, binS, putS, Option.map_some, Option.bind_some, Option.map_none, Option.bind_none, idxS, items, itemsL, itemsW, truth, lim0, lim1, lim2, lim3, lim4, lim5, h1, cmpS, e1, e2]
theorem same_str (W n : Nat) (s : Str) (M : Store) : runF fds W (n + 2) 10 [.str s, .str s] M = some (.bl true, M) := by
  refine (runF_rt rfl rfl (d := .bl true) (M1 := M) (ρ1 := [some (.str s), some (.str s), none]) ?_).trans (by rw [gc_id rfl])
  show exSs (runF fds W (n + 1)) W b10 [some (.str s), some (.str s), none] M = _
  unfold b10
  rw [exSs_nx (ρ1 := [some (.str s), some (.str s), none]) (M1 := M) (by simp only [exSs, exS, evE, evEs, evO, evP, evL, evQ, evI, asT, asTs, wipeD, List.map_cons, List.map_nil, List.getElem?_cons_zero, List.getElem?_cons_succ, List.getElem?_nil, List.set_cons_zero, List.set_cons_succ, List.length_cons, List.length_nil, Nat.reduceAdd, Nat.reduceLT, Nat.zero_lt_succ, Nat.succ_lt_succ_iff, if_true, if_false, ite_true, ite_false, Bool.false_eq_true, Bool.not_true, Bool.not_false, recv, mthS, keyOf, binS, putS, Option.map_some, Option.bind_some, Option.map_none, Option.bind_none, idxS, items, itemsL, itemsW, truth, lim0, lim1, lim2, lim3, lim4, lim5, bltS])]
  have e1 : (plainD (.str s) && plainD (.str s)) = true := rfl
  have e2 : eqD (.str s) (.str s) = true := by show (s == s) = true; simp
  exact exSs_rt (by simp only [exSs, exS, evE, evEs, evO, evP, evL, evQ, evI, asT, asTs, wipeD, List.map_cons, List.map_nil, List.getElem?_cons_zero, List.getElem?_cons_succ, List.getElem?_nil, List.set_cons_zero, List.set_cons_succ, List.length_cons, List.length_nil, Nat.reduceAdd, Nat.reduceLT, Nat.zero_lt_succ, Nat.succ_lt_succ_iff, if_true, if_false, ite_true, ite_false, Bool.false_eq_true, Bool.not_true, Bool.not_false, recv, mthS, keyOf, binS, putS, Option.map_some, Option.bind_some, Option.map_none, Option.bind_none, idxS, items, itemsL, itemsW, truth, lim0, lim1, lim2, lim3, lim4, lim5, bltS, cmpS, e1, e2])
theorem same_tup (W n : Nat) (ds : List D) (M : Store) (hf : flatDs ds = true ∧ ds.length < 1000) (ih : ∀ d ∈ ds, runF fds W (n + 2) 10 [d, d] M = some (.bl true, M)) : runF fds W (n + 3) 10 [.tup ds, .tup ds] M = some (.bl true, M) := by
  refine (runF_rt rfl rfl (d := .bl true) (M1 := M) (ρ1 := [some (.tup ds), some (.tup ds), none]) ?_).trans (by rw [gc_id rfl])
  show exSs (runF fds W (n + 2)) W b10 [some (.tup ds), some (.tup ds), none] M = _
  unfold b10
  have e1 : ∀ i : Int, (plainD (.int i) && plainD (.int i)) = true := fun _ => rfl
  have e2 : ∀ i : Int, eqD (.int i) (.int i) = true := fun i => by show (i == i) = true; simp
  have hc := evL_map (Φ := runF fds W (n + 2)) (own := [("k", 2)]) (t := .name 2) (c := .no) (elt := .call 10 (.cons (.idx (.val (.var 0)) (.var 2)) (.cons (.idx (.val (.var 1)) (.var 2)) .nil)))
    (it := .rng1 (.agg .len (.val (.var 1)))) (ρ := [some (.tup ds), some (.tup ds), none]) (M := M) (M1 := M) (ds := rng0 ds.length) (fun _ => some (.bl true)) (evI_rng (by
      simp only [exSs, exS, evE, evEs, evO, evP, evL, evQ, evI, asT, asTs, wipeD, List.map_cons, List.map_nil, List.getElem?_cons_zero, List.getElem?_cons_succ, List.getElem?_nil, List.set_cons_zero, List.set_cons_succ, List.length_cons, List.length_nil, Nat.reduceAdd, Nat.reduceLT, Nat.zero_lt_succ, Nat.succ_lt_succ_iff, if_true, if_false, ite_true, ite_false, Bool.false_eq_true, Bool.not_true, Bool.not_false, recv, mthS, keyOf, binS, putS, Option.map_some, Option.bind_some, Option.map_none, Option.bind_none, idxS, items, itemsL, itemsW, truth, lim0, lim1, lim2, lim3, lim4, lim5, aggS]
      try rfl) (by omega)) rfl (by have : lim = 16777216 := rfl; simp [rng0]; omega) (fun d hd' => by
    obtain ⟨i, hi, rfl⟩ := List.mem_map.mp hd'
    have hi : i < ds.length := by simpa using hi
    have a1 : atI ds (i : Int) = some ds[i] := atI_nat (List.getElem?_eq_getElem hi)
    have ih := ih ds[i] (List.getElem_mem hi)
    unfold turnC
    simp only [exSs, exS, evE, evEs, evO, evP, evL, evQ, evI, asT, asTs, wipeD, List.map_cons, List.map_nil, List.getElem?_cons_zero, List.getElem?_cons_succ, List.getElem?_nil, List.set_cons_zero, List.set_cons_succ, List.length_cons, List.length_nil, Nat.reduceAdd, Nat.reduceLT, Nat.zero_lt_succ, Nat.succ_lt_succ_iff, if_true, if_false, ite_true, ite_false, Bool.false_eq_true, Bool.not_true, Bool.not_false, recv, mthS, keyOf, binS, putS, Option.map_some, Option.bind_some, Option.map_none, Option.bind_none, idxS, items, itemsL, itemsW, truth, lim0, lim1, lim2, lim3, lim4, lim5, a1, ih])
  have c1 : evE (runF fds W (n + 2)) (.blt .isTup (.cons (.var 1) .nil)) [some (.tup ds), some (.tup ds), none] M = some (.bl true, M) := by simp only [exSs, exS, evE, evEs, evO, evP, evL, evQ, evI, asT, asTs, wipeD, List.map_cons, List.map_nil, List.getElem?_cons_zero, List.getElem?_cons_succ, List.getElem?_nil, List.set_cons_zero, List.set_cons_succ, List.length_cons, List.length_nil, Nat.reduceAdd, Nat.reduceLT, Nat.zero_lt_succ, Nat.succ_lt_succ_iff, if_true, if_false, ite_true, ite_false, Bool.false_eq_true, Bool.not_true, Bool.not_false, recv, mthS, keyOf, binS, putS, Option.map_some, Option.bind_some, Option.map_none, Option.bind_none, idxS, items, itemsL, itemsW, truth, lim0, lim1, lim2, lim3, lim4, lim5, bltS]
  have c2 : evE (runF fds W (n + 2)) (.or (.nt (.blt .isTup (.cons (.var 0) .nil))) (.cmp .NotEq (.agg .len (.val (.var 0))) (.agg .len (.val (.var 1))))) [some (.tup ds), some (.tup ds), none] M = some (.bl false, M) := by simp only [exSs, exS, evE, evEs, evO, evP, evL, evQ, evI, asT, asTs, wipeD, List.map_cons, List.map_nil, List.getElem?_cons_zero, List.getElem?_cons_succ, List.getElem?_nil, List.set_cons_zero, List.set_cons_succ, List.length_cons, List.length_nil, Nat.reduceAdd, Nat.reduceLT, Nat.zero_lt_succ, Nat.succ_lt_succ_iff, if_true, if_false, ite_true, ite_false, Bool.false_eq_true, Bool.not_true, Bool.not_false, recv, mthS, keyOf, binS, putS, Option.map_some, Option.bind_some, Option.map_none, Option.bind_none, idxS, items, itemsL, itemsW, truth, lim0, lim1, lim2, lim3, lim4, lim5, bltS, aggS, cmpS, e1, e2]
  refine exSs_rt ((exS_ifT c1 rfl).trans ?_)
  rw [exSs_nx (exS_ifF c2 rfl)]
  refine exSs_rt (exS_ret ?_)
  refine (evE_agg (evQ_lst hc)).trans ?_
  rw [all_true]
  rfl
theorem same_run (W n : Nat) : ∀ (d : D) (M : Store), flatD d = true → dep d ≤ n → runF fds W (n + 2) 10 [d, d] M = some (.bl true, M) := by
  induction n with
  | zero =>
    intro d M hf h
    cases d with
    | int i => exact same_int W 0 i M
    | str s => exact same_str W 0 s M
    | tup ds => simp [dep] at h
    | non => cases hf
    | bl b => cases hf
    | ref j => cases hf
  | succ n ih =>
    intro d M hf h
    cases d with
    | int i => exact same_int W (n + 1) i M
    | str s => exact same_str W (n + 1) s M
    | tup ds =>
      have hf' : flatDs ds = true ∧ ds.length < 1000 := by simpa [flatD] using hf
      have hd : deps ds ≤ n := by simpa [dep] using h
      exact same_tup W n ds M hf' fun d m => ih d M (flat_mem hf'.1 d m) (Nat.le_trans (deps_mem m) hd)
    | non => cases hf
    | bl b => cases hf
    | ref j => cases hf
end K45

set_option Elab.async false
set_option linter.all false
set_option maxRecDepth 100000
set_option maxHeartbeats 4000000
/-! L45j: the law's state; draws. -/
namespace K45
open PySem L2 PS
def stO (c : Nat) (a b e : Int) : MO := .lst [.ref c, .int a, .int b, .int e]
structure St (M : Store) (st : Nat) : Prop where
  ex : ∃ (c : Nat) (ns : List Int) (a b e : Int), M[st]? = some (stO c a b e) ∧ M[c]? = some (.lst (ns.map D.int)) ∧ c < st ∧ ns.length < 1000
theorem St.lt {M : Store} {st : Nat} (h : St M st) : st < M.length := by
  obtain ⟨c, ns, a, b, e, h1, -⟩ := h.ex
  exact (List.getElem?_eq_some_iff.mp h1).1
structure Nx (st : Nat) (M M' : Store) : Prop where
  len : M.length ≤ M'.length
  old : ∀ (i : Nat) (o : MO), i ≠ st → M[i]? = some o → M'[i]? = some o
  st : St M' st
theorem Nx.refl {st : Nat} {M : Store} (h : St M st) : Nx st M M := ⟨Nat.le_refl _, fun _ _ _ e => e, h⟩
theorem Nx.trans {st : Nat} {M M1 M2 : Store} (h : Nx st M M1) (g : Nx st M1 M2) : Nx st M M2 := ⟨Nat.le_trans h.len g.len, fun i o n e => g.old i o n (h.old i o n e), g.st⟩
theorem Nx.app {st : Nat} {M T : Store} (h : St M st) : Nx st M (M ++ T) := ⟨by simp, fun i o _ e => at_old e, by
  obtain ⟨c, ns, a, b, e, h1, h2, h3⟩ := h.ex
  exact ⟨c, ns, a, b, e, at_old h1, at_old h2, h3⟩⟩
theorem okOld_of {n : Nat} : ∀ {M M1 : Store}, M.length ≤ M1.length → (∀ (i : Nat) (o o' : MO), M[i]? = some o → M1[i]? = some o' → o = o' ∨ closedMO n o' = true) → okOld n M M1 = true
  | [], M1, _, _ => by cases M1 <;> rfl
  | o :: M, [], h, _ => by simp at h
  | o :: M, o' :: M1, h, g => by
    show ((decide (o = o') || closedMO n o') && okOld n M M1) = true
    rw [okOld_of (M := M) (M1 := M1) (by simpa using h) fun i p p' e e' => g (i + 1) p p' (by simpa using e) (by simpa using e')]
    rcases g 0 o o' rfl rfl with z | z
    · simp [z]
    · simp [z]
theorem Nx.okOld {st : Nat} {M M1 : Store} (hs : st < M.length) (h : Nx st M M1) : okOld M.length M M1 = true := by
  refine okOld_of h.len fun i o o' e e' => ?_
  by_cases hi : i = st
  · subst hi
    obtain ⟨c, ns, a, b, f, h1, h2, h3, -⟩ := h.st.ex
    rw [h1] at e'
    cases e'
    right
    show (decide (c < M.length) && (true && (true && (true && true)))) = true
    simp
    omega
  · rw [h.old i o hi e] at e'
    cases e'
    exact .inl rfl
theorem Nx.take {st : Nat} {M M1 : Store} (hs : st < M.length) (h : Nx st M M1) : Nx st M (M1.take M.length) := by
  obtain ⟨c, ns, a, b, f, h1, h2, h3, h4⟩ := h.st.ex
  refine ⟨by rw [List.length_take]; have := h.len; omega, fun i o n e => ?_, ⟨c, ns, a, b, f, ?_, ?_, h3, h4⟩⟩
  · rw [List.getElem?_take, if_pos (List.getElem?_eq_some_iff.mp e).1]
    exact h.old i o n e
  · rw [List.getElem?_take, if_pos hs]
    exact h1
  · rw [List.getElem?_take, if_pos (by omega)]
    exact h2
theorem gc_st {st : Nat} {M M1 : Store} {d : D} (hs : st < M.length) (h : Nx st M M1) (hd : closedD M.length d = true) : gcRet M d M1 = (d, M1.take M.length) := by
  unfold gcRet
  rw [if_pos (h.okOld hs), if_pos hd]
theorem gc_ref {st : Nat} {M M1 : Store} {j : Nat} {o : MO} (hs : st < M.length) (h : Nx st M M1) (hj : M.length ≤ j) (ho : M1[j]? = some o) (hc : closedMO M.length o = true) : gcRet M (.ref j) M1 = (.ref M.length, M1.take M.length ++ [o]) := by
  unfold gcRet
  have : closedD M.length (.ref j) = false := by
    show decide (j < M.length) = false
    simp
    omega
  rw [if_pos (h.okOld hs), this]
  simp only [Bool.false_eq_true, if_false, ho]
  rw [if_pos hc]
theorem at_set {M : Store} {i : Nat} (h : i < M.length) (o : MO) : (M.set i o)[i]? = some o := List.getElem?_set_self h
theorem at_set_ne {M : Store} {i j : Nat} (h : i ≠ j) (o : MO) : (M.set i o)[j]? = M[j]? := List.getElem?_set_ne h
theorem ix43 : ixN 4 3 = some 3 := rfl
theorem ix42 : ixN 4 2 = some 2 := rfl
theorem ix41 : ixN 4 1 = some 1 := rfl
theorem at40 (a b c d : D) : atI [a, b, c, d] 0 = some a := rfl
theorem at41 (a b c d : D) : atI [a, b, c, d] 1 = some b := rfl
theorem at42 (a b c d : D) : atI [a, b, c, d] 2 = some c := rfl
theorem at43 (a b c d : D) : atI [a, b, c, d] 3 = some d := rfl
/-- what a draw leaves -/
theorem Nx.set {st : Nat} {M : Store} {c : Nat} {ns : List Int} {a b e a' b' e' : Int} (h1 : M[st]? = some (stO c a b e)) (h2 : M[c]? = some (.lst (ns.map D.int))) (h3 : c < st) (h4 : ns.length < 1000) : Nx st M (M.set st (stO c a' b' e')) := by
  have hs := (List.getElem?_eq_some_iff.mp h1).1
  refine ⟨by simp, fun i o n q => by rw [at_set_ne (fun z => n z.symm)]; exact q, ⟨c, ns, a', b', e', at_set hs _, ?_, h3, h4⟩⟩
  rw [at_set_ne (by omega)]
  exact h2
theorem draw_run (W k st : Nat) (m : Int) (M : Store) (h : St M st) (hm : 0 < m) (hm2 : m < 1000000) : ∃ v M', runF fds W (k + 1) 7 [.ref st, .int m] M = some (.int v, M') ∧ 0 ≤ v ∧ v < m ∧ Nx st M M' ∧ M'.length = M.length := by
  obtain ⟨c, ns, a, b, e, h1, h2, h3, h4⟩ := h.ex
  have hs := (List.getElem?_eq_some_iff.mp h1).1
  have hne : st ≠ c := by omega
  have fin : ∀ (v a' b' e' : Int) (ρ1 : PS.Env), exSs (runF fds W k) W b7 [some (.ref st), some (.int m), none, none, none] M = some (.rt (.int v), ρ1, M.set st (stO c a' b' e')) → 0 ≤ v → v < m → ∃ v M', runF fds W (k + 1) 7 [.ref st, .int m] M = some (.int v, M') ∧ 0 ≤ v ∧ v < m ∧ Nx st M M' ∧ M'.length = M.length := fun v a' b' e' ρ1 hx v1 v2 => by
    have nx := Nx.set (a' := a') (b' := b') (e' := e') h1 h2 h3 h4
    refine ⟨v, _, (runF_rt (d := .int v) rfl rfl hx).trans (by rw [gc_st hs nx rfl]), v1, v2, nx.take hs, ?_⟩
    rw [List.length_take]
    simp
  have hml : 0 < m ∧ m.natAbs.log2 < 9000 := by
    refine ⟨hm, ?_⟩
    have h0 : m.natAbs ≠ 0 := by omega
    have : m.natAbs < 2 ^ 20 := by
      have : (2 : Nat) ^ 20 = 1048576 := rfl
      omega
    have := (Nat.log2_lt h0).mpr this
    omega
  have hB0 : ∀ x : Int, 0 ≤ x % m := fun x => Int.emod_nonneg x (by omega)
  have hB1 : ∀ x : Int, x % m < m := fun x => Int.emod_lt_of_pos x hm
  have s1 : ∀ o, (M.set st o)[st]? = some o := fun o => at_set hs o
  have s2 : ∀ o, (M.set st o)[c]? = some (.lst (ns.map D.int)) := fun o => by rw [at_set_ne hne]; exact h2
  have s3 : ∀ o o', (M.set st o).set st o' = M.set st o' := fun o o' => List.set_set ..
  have h1' : M[st]? = some (.lst [.ref c, .int a, .int b, .int e]) := h1
  unfold b7 at fin
  have st1 : exS (runF fds W k) W (.asg (.sub (.var 0) (.int 3)) (.bin .Add (.idx (.val (.var 0)) (.int 3)) (.int 1))) [some (.ref st), some (.int m), none, none, none] M = some (.nx, [some (.ref st), some (.int m), none, none, none], M.set st (.lst [.ref c, .int a, .int b, .int (e + 1)])) := by
    simp only [exSs, exS, evE, evEs, evO, evP, evL, evQ, evI, asT, asTs, wipeD, List.map_cons, List.map_nil, List.getElem?_cons_zero, List.getElem?_cons_succ, List.getElem?_nil, List.set_cons_zero, List.set_cons_succ, List.length_cons, List.length_nil, Nat.reduceAdd, Nat.reduceLT, Nat.zero_lt_succ, Nat.succ_lt_succ_iff, if_true, if_false, ite_true, ite_false, Bool.false_eq_true, Bool.not_true, Bool.not_false, recv, mthS, keyOf, binS, putS, Option.map_some, Option.bind_some, Option.map_none, Option.bind_none, idxS, items, itemsL, itemsW, truth, lim0, lim1, lim2, lim3, lim4, lim5, h1', at43, ix43]
  by_cases hb : 0 < b
  · have hb' : decide (0 < b) = true := by simpa using hb
    refine fin (b % m) a (b / m) (e + 1) [some (.ref st), some (.int m), some (.int (b % m)), none, none] ?_ (hB0 b) (hB1 b)
    rw [exSs_nx st1]
    refine exSs_rt ?_
    refine (exS_ifT (d := .bl true) (M1 := M.set st (.lst [.ref c, .int a, .int b, .int (e + 1)])) (by simp only [exSs, exS, evE, evEs, evO, evP, evL, evQ, evI, asT, asTs, wipeD, List.map_cons, List.map_nil, List.getElem?_cons_zero, List.getElem?_cons_succ, List.getElem?_nil, List.set_cons_zero, List.set_cons_succ, List.length_cons, List.length_nil, Nat.reduceAdd, Nat.reduceLT, Nat.zero_lt_succ, Nat.succ_lt_succ_iff, if_true, if_false, ite_true, ite_false, Bool.false_eq_true, Bool.not_true, Bool.not_false, recv, mthS, keyOf, binS, putS, Option.map_some, Option.bind_some, Option.map_none, Option.bind_none, idxS, items, itemsL, itemsW, truth, lim0, lim1, lim2, lim3, lim4, lim5, s1, at42, cmpS, hb']) rfl).trans ?_
    simp only [exSs, exS, evE, evEs, evO, evP, evL, evQ, evI, asT, asTs, wipeD, List.map_cons, List.map_nil, List.getElem?_cons_zero, List.getElem?_cons_succ, List.getElem?_nil, List.set_cons_zero, List.set_cons_succ, List.length_cons, List.length_nil, Nat.reduceAdd, Nat.reduceLT, Nat.zero_lt_succ, Nat.succ_lt_succ_iff, if_true, if_false, ite_true, ite_false, Bool.false_eq_true, Bool.not_true, Bool.not_false, recv, mthS, keyOf, binS, putS, Option.map_some, Option.bind_some, Option.map_none, Option.bind_none, idxS, items, itemsL, itemsW, truth, lim0, lim1, lim2, lim3, lim4, lim5, s1, at42, hm, bltS, hml, and_self, ix42, s3]
    rfl
  · have hb' : decide (0 < b) = false := by simpa using hb
    rw [exSs_nx st1] at fin
    rw [exSs_nx (exS_ifF (d := .bl false) (M1 := M.set st (.lst [.ref c, .int a, .int b, .int (e + 1)])) (by simp only [exSs, exS, evE, evEs, evO, evP, evL, evQ, evI, asT, asTs, wipeD, List.map_cons, List.map_nil, List.getElem?_cons_zero, List.getElem?_cons_succ, List.getElem?_nil, List.set_cons_zero, List.set_cons_succ, List.length_cons, List.length_nil, Nat.reduceAdd, Nat.reduceLT, Nat.zero_lt_succ, Nat.succ_lt_succ_iff, if_true, if_false, ite_true, ite_false, Bool.false_eq_true, Bool.not_true, Bool.not_false, recv, mthS, keyOf, binS, putS, Option.map_some, Option.bind_some, Option.map_none, Option.bind_none, idxS, items, itemsL, itemsW, truth, lim0, lim1, lim2, lim3, lim4, lim5, s1, at42, cmpS, hb']) rfl)] at fin
    rw [exSs_nx (ρ1 := [some (.ref st), some (.int m), none, some (.int 0), none]) (M1 := M.set st (.lst [.ref c, .int a, .int b, .int (e + 1)])) (by simp only [exSs, exS, evE, evEs, evO, evP, evL, evQ, evI, asT, asTs, wipeD, List.map_cons, List.map_nil, List.getElem?_cons_zero, List.getElem?_cons_succ, List.getElem?_nil, List.set_cons_zero, List.set_cons_succ, List.length_cons, List.length_nil, Nat.reduceAdd, Nat.reduceLT, Nat.zero_lt_succ, Nat.succ_lt_succ_iff, if_true, if_false, ite_true, ite_false, Bool.false_eq_true, Bool.not_true, Bool.not_false, recv, mthS, keyOf, binS, putS, Option.map_some, Option.bind_some, Option.map_none, Option.bind_none, idxS, items, itemsL, itemsW, truth, lim0, lim1, lim2, lim3, lim4, lim5])] at fin
    have key : ∃ cell : Int, 0 ≤ cell ∧ exS (runF fds W k) W (.ife (.cmp .Gt (.agg .len (.val (.idx (.val (.var 0)) (.int 0)))) (.int 0)) (.cons (.asg (.name 3) (.blt .abs (.cons (.idx (.val (.idx (.val (.var 0)) (.int 0))) (.bin .Mod (.blt .int (.cons (.idx (.val (.var 0)) (.int 1)) .nil)) (.agg .len (.val (.idx (.val (.var 0)) (.int 0)))))) .nil)))
  .nil) .nil) [some (.ref st), some (.int m), none, some (.int 0), none] (M.set st (.lst [.ref c, .int a, .int b, .int (e + 1)])) = some (.nx, [some (.ref st), some (.int m), none, some (.int cell), none], M.set st (.lst [.ref c, .int a, .int b, .int (e + 1)])) := by
      by_cases hn : ns.length = 0
      · have hn' : decide ((0 : Int) < ns.length) = false := by simp [hn]
        refine ⟨0, Int.le_refl _, exS_ifF (d := .bl false) (by simp only [exSs, exS, evE, evEs, evO, evP, evL, evQ, evI, asT, asTs, wipeD, List.map_cons, List.map_nil, List.getElem?_cons_zero, List.getElem?_cons_succ, List.getElem?_nil, List.set_cons_zero, List.set_cons_succ, List.length_cons, List.length_nil, Nat.reduceAdd, Nat.reduceLT, Nat.zero_lt_succ, Nat.succ_lt_succ_iff, if_true, if_false, ite_true, ite_false, Bool.false_eq_true, Bool.not_true, Bool.not_false, recv, mthS, keyOf, binS, putS, Option.map_some, Option.bind_some, Option.map_none, Option.bind_none, idxS, items, itemsL, itemsW, truth, lim0, lim1, lim2, lim3, lim4, lim5, s1, s2, at40, aggS, listAt, List.length_map, cmpS, hn']) rfl⟩
      · have hn' : decide ((0 : Int) < ns.length) = true := by simp; omega
        have hnp : (0 : Int) < ns.length := by omega
        have i0 : 0 ≤ a % (ns.length : Int) := Int.emod_nonneg a (by omega)
        have i1 : a % (ns.length : Int) < ns.length := Int.emod_lt_of_pos a hnp
        obtain ⟨i, hi⟩ := Int.eq_ofNat_of_zero_le i0
        have it : i < ns.length := by omega
        have ia : atI (ns.map D.int) (a % (ns.length : Int)) = some (.int ns[i]) := by
          rw [hi]
          exact atI_nat (by rw [List.getElem?_map, List.getElem?_eq_getElem it]; rfl)
        refine ⟨(ns[i].natAbs : Int), by omega, ?_⟩
        refine (exS_ifT (d := .bl true) (M1 := M.set st (.lst [.ref c, .int a, .int b, .int (e + 1)])) (by simp only [exSs, exS, evE, evEs, evO, evP, evL, evQ, evI, asT, asTs, wipeD, List.map_cons, List.map_nil, List.getElem?_cons_zero, List.getElem?_cons_succ, List.getElem?_nil, List.set_cons_zero, List.set_cons_succ, List.length_cons, List.length_nil, Nat.reduceAdd, Nat.reduceLT, Nat.zero_lt_succ, Nat.succ_lt_succ_iff, if_true, if_false, ite_true, ite_false, Bool.false_eq_true, Bool.not_true, Bool.not_false, recv, mthS, keyOf, binS, putS, Option.map_some, Option.bind_some, Option.map_none, Option.bind_none, idxS, items, itemsL, itemsW, truth, lim0, lim1, lim2, lim3, lim4, lim5, s1, s2, at40, aggS, listAt, List.length_map, cmpS, hn']) rfl).trans ?_
        simp only [exSs, exS, evE, evEs, evO, evP, evL, evQ, evI, asT, asTs, wipeD, List.map_cons, List.map_nil, List.getElem?_cons_zero, List.getElem?_cons_succ, List.getElem?_nil, List.set_cons_zero, List.set_cons_succ, List.length_cons, List.length_nil, Nat.reduceAdd, Nat.reduceLT, Nat.zero_lt_succ, Nat.succ_lt_succ_iff, if_true, if_false, ite_true, ite_false, Bool.false_eq_true, Bool.not_true, Bool.not_false, recv, mthS, keyOf, binS, putS, Option.map_some, Option.bind_some, Option.map_none, Option.bind_none, idxS, items, itemsL, itemsW, truth, lim0, lim1, lim2, lim3, lim4, lim5, s1, s2, at40, at41, aggS, listAt, List.length_map, bltS, hnp, ia]
    obtain ⟨cell, hc0, hcell⟩ := key
    rw [exSs_nx hcell] at fin
    rw [exSs_nx (ρ1 := [some (.ref st), some (.int m), none, some (.int cell), none]) (M1 := M.set st (.lst [.ref c, .int (a + 1), .int b, .int (e + 1)])) (by simp only [exSs, exS, evE, evEs, evO, evP, evL, evQ, evI, asT, asTs, wipeD, List.map_cons, List.map_nil, List.getElem?_cons_zero, List.getElem?_cons_succ, List.getElem?_nil, List.set_cons_zero, List.set_cons_succ, List.length_cons, List.length_nil, Nat.reduceAdd, Nat.reduceLT, Nat.zero_lt_succ, Nat.succ_lt_succ_iff, if_true, if_false, ite_true, ite_false, Bool.false_eq_true, Bool.not_true, Bool.not_false, recv, mthS, keyOf, binS, putS, Option.map_some, Option.bind_some, Option.map_none, Option.bind_none, idxS, items, itemsL, itemsW, truth, lim0, lim1, lim2, lim3, lim4, lim5, s1, s3, at41, ix41])] at fin
    have hpow : (0 : Int) ≤ 18 ∧ (18 : Int) ≤ 1000000 ∧ (10 : Int).natAbs < 18446744073709551616 := by decide
    by_cases hbig : (10 : Int) ^ (18 : Int).toNat ≤ cell
    · have hbig' : decide ((10 : Int) ^ (18 : Int).toNat ≤ cell) = true := by simpa using hbig
      refine fin (cell % m) (a + 1) (cell / m) (e + 1) [some (.ref st), some (.int m), none, some (.int cell), none] ?_ (hB0 _) (hB1 _)
      refine exSs_rt ?_
      refine (exS_ifT (d := .bl true) (M1 := M.set st (.lst [.ref c, .int (a + 1), .int b, .int (e + 1)])) (by simp only [exSs, exS, evE, evEs, evO, evP, evL, evQ, evI, asT, asTs, wipeD, List.map_cons, List.map_nil, List.getElem?_cons_zero, List.getElem?_cons_succ, List.getElem?_nil, List.set_cons_zero, List.set_cons_succ, List.length_cons, List.length_nil, Nat.reduceAdd, Nat.reduceLT, Nat.zero_lt_succ, Nat.succ_lt_succ_iff, if_true, if_false, ite_true, ite_false, Bool.false_eq_true, Bool.not_true, Bool.not_false, recv, mthS, keyOf, binS, putS, Option.map_some, Option.bind_some, Option.map_none, Option.bind_none, idxS, items, itemsL, itemsW, truth, lim0, lim1, lim2, lim3, lim4, lim5, hpow, and_self, cmpS, hbig']) rfl).trans ?_
      simp only [exSs, exS, evE, evEs, evO, evP, evL, evQ, evI, asT, asTs, wipeD, List.map_cons, List.map_nil, List.getElem?_cons_zero, List.getElem?_cons_succ, List.getElem?_nil, List.set_cons_zero, List.set_cons_succ, List.length_cons, List.length_nil, Nat.reduceAdd, Nat.reduceLT, Nat.zero_lt_succ, Nat.succ_lt_succ_iff, if_true, if_false, ite_true, ite_false, Bool.false_eq_true, Bool.not_true, Bool.not_false, recv, mthS, keyOf, binS, putS, Option.map_some, Option.bind_some, Option.map_none, Option.bind_none, idxS, items, itemsL, itemsW, truth, lim0, lim1, lim2, lim3, lim4, lim5, s1, hm, bltS, hml, and_self, ix42, s3]
      rfl
    · have hbig' : decide ((10 : Int) ^ (18 : Int).toNat ≤ cell) = false := by simpa using hbig
      rw [exSs_nx (exS_ifF (d := .bl false) (M1 := M.set st (.lst [.ref c, .int (a + 1), .int b, .int (e + 1)])) (by simp only [exSs, exS, evE, evEs, evO, evP, evL, evQ, evI, asT, asTs, wipeD, List.map_cons, List.map_nil, List.getElem?_cons_zero, List.getElem?_cons_succ, List.getElem?_nil, List.set_cons_zero, List.set_cons_succ, List.length_cons, List.length_nil, Nat.reduceAdd, Nat.reduceLT, Nat.zero_lt_succ, Nat.succ_lt_succ_iff, if_true, if_false, ite_true, ite_false, Bool.false_eq_true, Bool.not_true, Bool.not_false, recv, mthS, keyOf, binS, putS, Option.map_some, Option.bind_some, Option.map_none, Option.bind_none, idxS, items, itemsL, itemsW, truth, lim0, lim1, lim2, lim3, lim4, lim5, hpow, and_self, cmpS, hbig']) rfl)] at fin
      have m1 : ∀ x, mulOk x 48271 = true := fun x => mulOk_small' (by decide)
      have m2 : ∀ x, mulOk x 69621 = true := fun x => mulOk_small' (by decide)
      have m3 : ∀ x, mulOk x 16807 = true := fun x => mulOk_small' (by decide)
      have p1 : (0 : Int) < 2147483647 := by decide
      have p2 : (0 : Int) < 2147483629 := by decide
      have l1 : (0 : Int) < 97 ∧ (97 : Int).natAbs.log2 < 9000 := by decide +kernel
      have l2 : (0 : Int) < 11 ∧ (11 : Int).natAbs.log2 < 9000 := by decide +kernel
      rw [exSs_nx (ρ1 := [some (.ref st), some (.int m), none, some (.int cell), some (.int (((cell + 1) * 48271 + (e + 1) * 69621) % 2147483647))]) (M1 := M.set st (.lst [.ref c, .int (a + 1), .int b, .int (e + 1)])) (by simp only [exSs, exS, evE, evEs, evO, evP, evL, evQ, evI, asT, asTs, wipeD, List.map_cons, List.map_nil, List.getElem?_cons_zero, List.getElem?_cons_succ, List.getElem?_nil, List.set_cons_zero, List.set_cons_succ, List.length_cons, List.length_nil, Nat.reduceAdd, Nat.reduceLT, Nat.zero_lt_succ, Nat.succ_lt_succ_iff, if_true, if_false, ite_true, ite_false, Bool.false_eq_true, Bool.not_true, Bool.not_false, recv, mthS, keyOf, binS, putS, Option.map_some, Option.bind_some, Option.map_none, Option.bind_none, idxS, items, itemsL, itemsW, truth, lim0, lim1, lim2, lim3, lim4, lim5, s1, at43, m1, m2, bltS, p1])] at fin
      rw [exSs_nx (ρ1 := [some (.ref st), some (.int m), none, some (.int cell), some (.int (((((cell + 1) * 48271 + (e + 1) * 69621) % 2147483647) * 16807 + cell / 97 + (e + 1)) % 2147483629))]) (M1 := M.set st (.lst [.ref c, .int (a + 1), .int b, .int (e + 1)])) (by simp only [exSs, exS, evE, evEs, evO, evP, evL, evQ, evI, asT, asTs, wipeD, List.map_cons, List.map_nil, List.getElem?_cons_zero, List.getElem?_cons_succ, List.getElem?_nil, List.set_cons_zero, List.set_cons_succ, List.length_cons, List.length_nil, Nat.reduceAdd, Nat.reduceLT, Nat.zero_lt_succ, Nat.succ_lt_succ_iff, if_true, if_false, ite_true, ite_false, Bool.false_eq_true, Bool.not_true, Bool.not_false, recv, mthS, keyOf, binS, putS, Option.map_some, Option.bind_some, Option.map_none, Option.bind_none, idxS, items, itemsL, itemsW, truth, lim0, lim1, lim2, lim3, lim4, lim5, s1, at43, m3, bltS, p2, l1, and_self])] at fin
      refine fin (((((((cell + 1) * 48271 + (e + 1) * 69621) % 2147483647) * 16807 + cell / 97 + (e + 1)) % 2147483629) / 11) % m) (a + 1) b (e + 1) [some (.ref st), some (.int m), none, some (.int cell), some (.int (((((cell + 1) * 48271 + (e + 1) * 69621) % 2147483647) * 16807 + cell / 97 + (e + 1)) % 2147483629))] ?_ (hB0 _) (hB1 _)
      refine exSs_rt (exS_ret ?_)
      simp only [exSs, exS, evE, evEs, evO, evP, evL, evQ, evI, asT, asTs, wipeD, List.map_cons, List.map_nil, List.getElem?_cons_zero, List.getElem?_cons_succ, List.getElem?_nil, List.set_cons_zero, List.set_cons_succ, List.length_cons, List.length_nil, Nat.reduceAdd, Nat.reduceLT, Nat.zero_lt_succ, Nat.succ_lt_succ_iff, if_true, if_false, ite_true, ite_false, Bool.false_eq_true, Bool.not_true, Bool.not_false, recv, mthS, keyOf, binS, putS, Option.map_some, Option.bind_some, Option.map_none, Option.bind_none, idxS, items, itemsL, itemsW, truth, lim0, lim1, lim2, lim3, lim4, lim5, l2, and_self, hm]
      rfl
end K45

set_option Elab.async false
set_option linter.all false
set_option maxRecDepth 100000
set_option maxHeartbeats 4000000
/-! L45k: start, shuffled, digits. -/
namespace K45
open PySem L2 PS
/-- one turn of a for -/
def turnF (Φ : Nat → Fn) (W : Nat) (t : PS.T) (b : Ss) (d : D) (ρ : PS.Env) (M : Store) : Option (Out × PS.Env × Store) := match asT Φ t d ρ M with
  | some (ρ1, M1) => exSs Φ W b ρ1 M1
  | none => none
theorem exS_fr {Φ : Nat → Fn} {W : Nat} {t : PS.T} {it : I} {b : Ss} {ρ : PS.Env} {M M1 : Store} {ok : Store → Bool} {ds : List D} (h : evI Φ it ρ M = some (ok, ds, M1)) : exS Φ W (.fr t it b) ρ M = forG ok (turnF Φ W t b) ds ρ M1 := by
  rw [exS.eq_def]
  dsimp only
  rw [h]
  rfl
theorem Nx.setNew {st : Nat} {M M1 : Store} {i : Nat} {o : MO} (hs : st < M.length) (h : Nx st M M1) (hi : M.length ≤ i) : Nx st M (M1.set i o) := by
  obtain ⟨c, ns, a, b, f, h1, h2, h3, h4⟩ := h.st.ex
  refine ⟨by simp; exact h.len, fun j p n e => ?_, ⟨c, ns, a, b, f, ?_, ?_, h3, h4⟩⟩
  · have := (List.getElem?_eq_some_iff.mp e).1
    rw [at_set_ne (by omega)]
    exact h.old j p n e
  · rw [at_set_ne (by omega)]
    exact h1
  · rw [at_set_ne (by omega)]
    exact h2
theorem Nx.appNew {st : Nat} {M M1 T : Store} (h : Nx st M M1) : Nx st M (M1 ++ T) := h.trans (Nx.app h.st)
theorem start_run (W k : Nat) (ns : List Int) (hn : ns.length < 1000) : ∃ M', runF fds W (k + 1) 6 [.ref 0] [.frz (ns.map D.int)] = some (.ref 2, M') ∧ St M' 2 := by
  refine ⟨[.frz (ns.map D.int), .lst (ns.map D.int), stO 1 0 0 0], (runF_rt (d := .ref 2) (M1 := [.frz (ns.map D.int), .lst (ns.map D.int), stO 1 0 0 0]) (ρ1 := [some (.ref 0)]) rfl rfl ?_).trans ?_, ⟨1, ns, 0, 0, 0, rfl, rfl, by decide, hn⟩⟩
  · show exSs (runF fds W k) W b6 [some (.ref 0)] _ = _
    unfold b6
    refine exSs_rt ?_
    simp only [exSs, exS, evE, evEs, evO, evP, evL, evQ, evI, asT, asTs, wipeD, List.map_cons, List.map_nil, List.getElem?_cons_zero, List.getElem?_cons_succ, List.getElem?_nil, List.set_cons_zero, List.set_cons_succ, List.length_cons, List.length_nil, Nat.reduceAdd, Nat.reduceLT, Nat.zero_lt_succ, Nat.succ_lt_succ_iff, if_true, if_false, ite_true, ite_false, Bool.false_eq_true, Bool.not_true, Bool.not_false, recv, mthS, keyOf, binS, putS, Option.map_some, Option.bind_some, Option.map_none, Option.bind_none, idxS, items, itemsL, itemsW, truth, lim0, lim1, lim2, lim3, lim4, lim5, listAt]
    rfl
  · have h1 : okOld 1 [MO.frz (ns.map D.int)] [.frz (ns.map D.int), .lst (ns.map D.int), stO 1 0 0 0] = true := okOld_same 1 [MO.frz (ns.map D.int)] [.lst (ns.map D.int), stO 1 0 0 0]
    have h2 : closedMO 1 (stO 1 0 0 0) = false := rfl
    unfold gcRet
    rw [if_pos (show okOld [MO.frz (ns.map D.int)].length _ _ = true from h1)]
    rfl
theorem shuf_loop (W k st j : Nat) (hne : j ≠ st) (M : Store) (hj : j < M.length) (ok : Store → Bool) (hok : ∀ M1, Nx st M M1 → ok M1 = true) : ∀ (its acc : List Str) (M1 : Store) (x3 : Option D), Nx st M M1 → M1[M.length]? = some (.lst (acc.map D.str)) → M1.length = M.length + 1 → acc.length + its.length < 1000 → st < M.length → ∃ (xs : List Str) (M2 : Store) (y3 : Option D),
    forG ok (fun d ρ M => match asT (runF fds W (k + 1)) (.name 3) d ρ M with
        | some (ρ1, M1) => exSs (runF fds W (k + 1)) W (.cons (.ex (.mth .insert (.var 2) (.cons (.call 7 (.cons (.var 0) (.cons (.bin .Add (.agg .len (.val (.var 2))) (.int 1)) .nil))) (.cons (.var 3) .nil)))) .nil) ρ1 M1
        | none => none) (its.map D.str) [some (.ref st), some (.ref j), some (.ref M.length), x3] M1 = some (.nx, [some (.ref st), some (.ref j), some (.ref M.length), y3], M2)
      ∧ xs.Perm (acc ++ its) ∧ Nx st M M2 ∧ M2[M.length]? = some (.lst (xs.map D.str)) ∧ M2.length = M.length + 1
  | [], acc, M1, x3, nx, ha, hl, _, _ => ⟨acc, M1, x3, by
    show forG _ _ [] _ _ = _
    unfold forG
    rw [if_pos (hok _ nx)], by simp, nx, ha, hl⟩
  | it :: its, acc, M1, x3, nx, ha, hl, hn, hs => by
    obtain ⟨v, M2, hd, v1, v2, nx2, hl2⟩ := draw_run W k st ((acc.length : Int) + 1) M1 nx.st (by omega) (by simp at hn; omega)
    have ha2 : M2[M.length]? = some (.lst (acc.map D.str)) := nx2.old _ _ (by omega) ha
    obtain ⟨n, rfl⟩ := Int.eq_ofNat_of_zero_le v1
    have nx3 : Nx st M (M2.set M.length (.lst ((acc.take n ++ it :: acc.drop n).map D.str))) := Nx.setNew hs (nx.trans nx2) (Nat.le_refl _)
    obtain ⟨xs, M4, y3, lp, p1, p2, p3, p4⟩ := shuf_loop W k st j hne M hj ok hok its (acc.take n ++ it :: acc.drop n) (M2.set M.length (.lst ((acc.take n ++ it :: acc.drop n).map D.str))) (some (.str it)) nx3 (at_set (by omega) _) (by simp; omega) (by simp at hn ⊢; omega) hs
    refine ⟨xs, M4, y3, ?_, ?_, p2, p3, p4⟩
    · refine (forG_nx (hok _ nx) ?_).trans lp
      try dsimp only
      have c1 : (0 : Int) ≤ (n : Int) ∧ (n : Int) ≤ (acc.length : Int) ∧ acc.length < lim := ⟨by omega, by omega, by have : lim = 16777216 := rfl; simp at hn; omega⟩
      simp only [exSs, exS, evE, evEs, evO, evP, evL, evQ, evI, asT, asTs, wipeD, List.map_cons, List.map_nil, List.getElem?_cons_zero, List.getElem?_cons_succ, List.getElem?_nil, List.set_cons_zero, List.set_cons_succ, List.length_cons, List.length_nil, Nat.reduceAdd, Nat.reduceLT, Nat.zero_lt_succ, Nat.succ_lt_succ_iff, if_true, if_false, ite_true, ite_false, Bool.false_eq_true, Bool.not_true, Bool.not_false, recv, mthS, keyOf, binS, putS, Option.map_some, Option.bind_some, Option.map_none, Option.bind_none, idxS, items, itemsL, itemsW, truth, lim0, lim1, lim2, lim3, lim4, lim5, ha, aggS, listAt, List.length_map, hd, ha2, c1, and_self, Int.toNat_natCast]
      simp
    · refine p1.trans ?_
      have : (acc.take n ++ it :: acc.drop n).Perm (it :: acc) := by
        have h := List.perm_middle (a := it) (l₁ := acc.take n) (l₂ := acc.drop n)
        rw [List.take_append_drop] at h
        exact h
      refine (this.append_right its).trans ?_
      exact (List.perm_middle (a := it) (l₁ := acc) (l₂ := its)).symm
theorem closed_strs (n : Nat) : ∀ xs : List Str, closedDs n (xs.map D.str) = true
  | [] => rfl
  | x :: xs => by
    show (true && closedDs n (xs.map D.str)) = true
    rw [closed_strs n xs]
    rfl
theorem shuf_run (W k st j : Nat) (hne : j ≠ st) (its : List Str) (M : Store) (h : St M st) (hj : M[j]? = some (.lst (its.map D.str))) (hn : its.length < 100) : ∃ (xs : List Str) (M' : Store), runF fds W (k + 2) 8 [.ref st, .ref j] M = some (.ref M.length, M') ∧ xs.Perm its ∧ Nx st M M' ∧ M'[M.length]? = some (.lst (xs.map D.str)) := by
  have hs := h.lt
  have hjl := (List.getElem?_eq_some_iff.mp hj).1
  have ok1 : ∀ M1, Nx st M M1 → stands (.val (.ref j)) (its.map D.str) M1 = true := fun M1 nx => by
    show decide (listAt M1 j = some (its.map D.str)) = true
    unfold listAt
    rw [nx.old j _ hne hj]
    simp
  obtain ⟨xs, M2, y3, lp, p1, p2, p3, p4⟩ := shuf_loop W k st j hne M hjl (stands (.val (.ref j)) (its.map D.str)) ok1 its [] (M ++ [.lst []]) none (Nx.app h) (by simp) (by simp) (by simp; omega) hs
  have hx : exSs (runF fds W (k + 1)) W b8 [some (.ref st), some (.ref j), none, none] M = some (.rt (.ref M.length), [some (.ref st), some (.ref j), some (.ref M.length), y3], M2) := by
    unfold b8
    rw [exSs_nx (ρ1 := [some (.ref st), some (.ref j), some (.ref M.length), none]) (M1 := M ++ [.lst []]) (by simp only [exSs, exS, evE, evEs, evO, evP, evL, evQ, evI, asT, asTs, wipeD, List.map_cons, List.map_nil, List.getElem?_cons_zero, List.getElem?_cons_succ, List.getElem?_nil, List.set_cons_zero, List.set_cons_succ, List.length_cons, List.length_nil, Nat.reduceAdd, Nat.reduceLT, Nat.zero_lt_succ, Nat.succ_lt_succ_iff, if_true, if_false, ite_true, ite_false, Bool.false_eq_true, Bool.not_true, Bool.not_false, recv, mthS, keyOf, binS, putS, Option.map_some, Option.bind_some, Option.map_none, Option.bind_none, idxS, items, itemsL, itemsW, truth, lim0, lim1, lim2, lim3, lim4, lim5])]
    rw [exSs_nx (ρ1 := [some (.ref st), some (.ref j), some (.ref M.length), y3]) (M1 := M2) (by
      rw [exS.eq_def]
      dsimp only
      have hI : evI (runF fds W (k + 1)) (.q (.val (.var 1))) [some (.ref st), some (.ref j), some (.ref M.length), none] (M ++ [.lst []]) = some (stands (.val (.ref j)) (its.map D.str), its.map D.str, M ++ [.lst []]) := by
        simp only [exSs, exS, evE, evEs, evO, evP, evL, evQ, evI, asT, asTs, wipeD, List.map_cons, List.map_nil, List.getElem?_cons_zero, List.getElem?_cons_succ, List.getElem?_nil, List.set_cons_zero, List.set_cons_succ, List.length_cons, List.length_nil, Nat.reduceAdd, Nat.reduceLT, Nat.zero_lt_succ, Nat.succ_lt_succ_iff, if_true, if_false, ite_true, ite_false, Bool.false_eq_true, Bool.not_true, Bool.not_false, recv, mthS, keyOf, binS, putS, Option.map_some, Option.bind_some, Option.map_none, Option.bind_none, idxS, items, itemsL, itemsW, truth, lim0, lim1, lim2, lim3, lim4, lim5, listAt, at_old hj]
      rw [hI]
      exact lp)]
    refine exSs_rt ?_
    simp only [exSs, exS, evE, evEs, evO, evP, evL, evQ, evI, asT, asTs, wipeD, List.map_cons, List.map_nil, List.getElem?_cons_zero, List.getElem?_cons_succ, List.getElem?_nil, List.set_cons_zero, List.set_cons_succ, List.length_cons, List.length_nil, Nat.reduceAdd, Nat.reduceLT, Nat.zero_lt_succ, Nat.succ_lt_succ_iff, if_true, if_false, ite_true, ite_false, Bool.false_eq_true, Bool.not_true, Bool.not_false, recv, mthS, keyOf, binS, putS, Option.map_some, Option.bind_some, Option.map_none, Option.bind_none, idxS, items, itemsL, itemsW, truth, lim0, lim1, lim2, lim3, lim4, lim5]
  refine ⟨xs, M2.take M.length ++ [.lst (xs.map D.str)], (runF_rt (d := .ref M.length) rfl rfl hx).trans (by rw [gc_ref hs p2 (Nat.le_refl _) p3 (closed_strs _ xs)]), by simpa using p1, (p2.take hs).appNew, ?_⟩
  rw [List.getElem?_append_right (by rw [List.length_take]; omega)]
  have : M.length - (M2.take M.length).length = 0 := by rw [List.length_take]; omega
  rw [this]
  rfl
theorem closed_ints (n : Nat) : ∀ ds : List Int, closedDs n (ds.map D.int) = true
  | [] => rfl
  | d :: ds => by
    show (true && closedDs n (ds.map D.int)) = true
    rw [closed_ints n ds]
    rfl
abbrev DB : Int := 100000000000
theorem Dig.app {b : Int} {xs : List Int} {x : Int} (h : Dig b xs) (h1 : -b ≤ x) (h2 : x ≤ b) : Dig b (xs ++ [x]) := ⟨fun d m => by
  rcases List.mem_append.mp m with z | z
  · exact h.lo d z
  · simp at z; rw [z]; exact h1, fun d m => by
  rcases List.mem_append.mp m with z | z
  · exact h.hi d z
  · simp at z; rw [z]; exact h2⟩
theorem dig_loop (W k st : Nat) (a1 : D) (M : Store) (hs : st < M.length) : ∀ (ts : List D) (acc : List Int) (M1 : Store) (x3 x4 : Option D), Nx st M M1 → M1[M.length]? = some (.lst (acc.map D.int)) → M1.length = M.length + 1 → acc.length + ts.length < 1000 → Dig DB acc → ∃ (ds : List Int) (M2 : Store) (y3 y4 : Option D),
    forG (fun _ => true) (turnF (runF fds W (k + 1)) W (.name 3) (.cons (.asg (.name 4) (.bin .Sub (.call 7 (.cons (.var 0) (.cons (.int 2001) .nil))) (.int 1000)))
  (.cons (.ex (.mth .append (.var 2) (.cons (.idx (.lst (.disp (.cons (.var 4) (.cons (.int 0) (.cons (.bin .Mult (.var 4) (.int 99999989)) (.cons (.int 1) (.cons (.neg (.int 1)) .nil))))))) (.call 7 (.cons (.var 0) (.cons (.int 5) .nil)))) .nil)))
  .nil))) ts [some (.ref st), some a1, some (.ref M.length), x3, x4] M1 = some (.nx, [some (.ref st), some a1, some (.ref M.length), y3, y4], M2)
      ∧ ds.length = acc.length + ts.length ∧ Dig DB ds ∧ Nx st M M2 ∧ M2[M.length]? = some (.lst (ds.map D.int)) ∧ M2.length = M.length + 1
  | [], acc, M1, x3, x4, nx, ha, hl, _, hd => ⟨acc, M1, x3, x4, by
    show forG _ _ [] _ _ = _
    unfold forG
    rw [if_pos rfl], by simp, hd, nx, ha, hl⟩
  | t :: ts, acc, M1, x3, x4, nx, ha, hl, hn, hd => by
    obtain ⟨v, M2, e1, v1, v2, nx2, hl2⟩ := draw_run W k st 2001 M1 nx.st (by decide) (by decide)
    obtain ⟨u, M3, e2, u1, u2, nx3, hl3⟩ := draw_run W k st 5 M2 nx2.st (by decide) (by decide)
    have ha2 : M2[M.length]? = some (.lst (acc.map D.int)) := nx2.old _ _ (by omega) ha
    have ha3 : M3[M.length]? = some (.lst (acc.map D.int)) := nx3.old _ _ (by omega) ha2
    have hm : mulOk (v - 1000) 99999989 = true := mulOk_small' (by decide)
    have pick : ∃ x : Int, atI [D.int (v - 1000), .int 0, .int ((v - 1000) * 99999989), .int 1, .int (-1)] u = some (.int x) ∧ -DB ≤ x ∧ x ≤ DB := by
      have : u = 0 ∨ u = 1 ∨ u = 2 ∨ u = 3 ∨ u = 4 := by omega
      rcases this with z | z | z | z | z
      · exact ⟨v - 1000, by rw [z]; rfl, by unfold DB; omega, by unfold DB; omega⟩
      · exact ⟨0, by rw [z]; rfl, by decide, by decide⟩
      · exact ⟨(v - 1000) * 99999989, by rw [z]; rfl, by unfold DB; omega, by unfold DB; omega⟩
      · exact ⟨1, by rw [z]; rfl, by decide, by decide⟩
      · exact ⟨-1, by rw [z]; rfl, by decide, by decide⟩
    obtain ⟨x, hx, x1, x2⟩ := pick
    have hla : acc.length < lim := by have : lim = 16777216 := rfl; simp at hn; omega
    obtain ⟨ds, M4, y3, y4, lp, p0, p1, p2, p3, p4⟩ := dig_loop W k st a1 M hs ts (acc ++ [x]) (M3.set M.length (.lst ((acc ++ [x]).map D.int))) (some t) (some (.int (v - 1000))) (Nx.setNew hs ((nx.trans nx2).trans nx3) (Nat.le_refl _)) (at_set (by omega) _) (by simp; omega) (by simp at hn ⊢; omega) (hd.app x1 x2)
    refine ⟨ds, M4, y3, y4, ?_, by simp at p0 ⊢; omega, p1, p2, p3, p4⟩
    refine (forG_nx rfl ?_).trans lp
    unfold turnF
    simp only [exSs, exS, evE, evEs, evO, evP, evL, evQ, evI, asT, asTs, wipeD, List.map_cons, List.map_nil, List.getElem?_cons_zero, List.getElem?_cons_succ, List.getElem?_nil, List.set_cons_zero, List.set_cons_succ, List.length_cons, List.length_nil, Nat.reduceAdd, Nat.reduceLT, Nat.zero_lt_succ, Nat.succ_lt_succ_iff, if_true, if_false, ite_true, ite_false, Bool.false_eq_true, Bool.not_true, Bool.not_false, recv, mthS, keyOf, binS, putS, Option.map_some, Option.bind_some, Option.map_none, Option.bind_none, idxS, items, itemsL, itemsW, truth, lim0, lim1, lim2, lim3, lim4, lim5, e1, ha2, hm, e2, hx, ha3, List.length_map, hla]
    simp
theorem dig_run (W k st : Nat) (n : Nat) (M : Store) (h : St M st) (hn : n < 100) : ∃ (ds : List Int) (M' : Store), runF fds W (k + 2) 14 [.ref st, .int n] M = some (.ref M.length, M') ∧ ds.length = n ∧ Dig DB ds ∧ Nx st M M' ∧ M'[M.length]? = some (.lst (ds.map D.int)) := by
  have hs := h.lt
  obtain ⟨ds, M2, y3, y4, lp, p0, p1, p2, p3, p4⟩ := dig_loop W k st (.int n) M hs (rng0 n) [] (M ++ [.lst []]) none none (Nx.app h) (by simp) (by simp) (by simp [rng0]; omega) ⟨fun d m => by simp at m, fun d m => by simp at m⟩
  have hx : exSs (runF fds W (k + 1)) W b14 [some (.ref st), some (.int n), none, none, none] M = some (.rt (.ref M.length), [some (.ref st), some (.int n), some (.ref M.length), y3, y4], M2) := by
    unfold b14
    rw [exSs_nx (ρ1 := [some (.ref st), some (.int n), some (.ref M.length), none, none]) (M1 := M ++ [.lst []]) (by simp only [exSs, exS, evE, evEs, evO, evP, evL, evQ, evI, asT, asTs, wipeD, List.map_cons, List.map_nil, List.getElem?_cons_zero, List.getElem?_cons_succ, List.getElem?_nil, List.set_cons_zero, List.set_cons_succ, List.length_cons, List.length_nil, Nat.reduceAdd, Nat.reduceLT, Nat.zero_lt_succ, Nat.succ_lt_succ_iff, if_true, if_false, ite_true, ite_false, Bool.false_eq_true, Bool.not_true, Bool.not_false, recv, mthS, keyOf, binS, putS, Option.map_some, Option.bind_some, Option.map_none, Option.bind_none, idxS, items, itemsL, itemsW, truth, lim0, lim1, lim2, lim3, lim4, lim5])]
    rw [exSs_nx (ρ1 := [some (.ref st), some (.int n), some (.ref M.length), y3, y4]) (M1 := M2) (by
      exact (exS_fr (evI_rng (n := n) (M1 := M ++ [.lst []]) (by simp only [exSs, exS, evE, evEs, evO, evP, evL, evQ, evI, asT, asTs, wipeD, List.map_cons, List.map_nil, List.getElem?_cons_zero, List.getElem?_cons_succ, List.getElem?_nil, List.set_cons_zero, List.set_cons_succ, List.length_cons, List.length_nil, Nat.reduceAdd, Nat.reduceLT, Nat.zero_lt_succ, Nat.succ_lt_succ_iff, if_true, if_false, ite_true, ite_false, Bool.false_eq_true, Bool.not_true, Bool.not_false, recv, mthS, keyOf, binS, putS, Option.map_some, Option.bind_some, Option.map_none, Option.bind_none, idxS, items, itemsL, itemsW, truth, lim0, lim1, lim2, lim3, lim4, lim5]) (by omega))).trans lp)]
    refine exSs_rt ?_
    simp only [exSs, exS, evE, evEs, evO, evP, evL, evQ, evI, asT, asTs, wipeD, List.map_cons, List.map_nil, List.getElem?_cons_zero, List.getElem?_cons_succ, List.getElem?_nil, List.set_cons_zero, List.set_cons_succ, List.length_cons, List.length_nil, Nat.reduceAdd, Nat.reduceLT, Nat.zero_lt_succ, Nat.succ_lt_succ_iff, if_true, if_false, ite_true, ite_false, Bool.false_eq_true, Bool.not_true, Bool.not_false, recv, mthS, keyOf, binS, putS, Option.map_some, Option.bind_some, Option.map_none, Option.bind_none, idxS, items, itemsL, itemsW, truth, lim0, lim1, lim2, lim3, lim4, lim5]
  have hcl : closedMO M.length (.lst (ds.map D.int)) = true := by
    show closedDs M.length (ds.map D.int) = true
    exact closed_ints _ _
  have hgc := gc_ref hs p2 (Nat.le_refl _) p3 hcl
  have hrun := runF_rt (W := W) (k := k + 1) (f := 14) (fd := ⟨2, 5, b14⟩) (ds := [.ref st, .int (n : Int)]) (M := M) (d := .ref M.length) rfl rfl hx
  refine ⟨ds, M2.take M.length ++ [.lst (ds.map D.int)], hrun.trans (by rw [hgc]), by simpa [rng0] using p0, p1, (p2.take hs).appNew, ?_⟩
  rw [List.getElem?_append_right (by rw [List.length_take]; omega)]
  have : M.length - (M2.take M.length).length = 0 := by rw [List.length_take]; omega
  rw [this]
  rfl
end K45

set_option Elab.async false
set_option linter.all false
set_option maxRecDepth 100000
set_option maxHeartbeats 4000000
/-! L45l: pairs in parts. -/
namespace K45
open PySem L2 PS
def bodyP : Ss := (.cons (.asg (.name 5) (.bin .Sub (.call 7 (.cons (.var 0) (.cons (.int 21) .nil))) (.int 10)))
  (.cons (.asg (.name 3) (.ofL (.cat (.val (.var 3)) (.lst (.slice (.lst (.disp (.cons (.tup (.cons (.idx (.val (.var 1)) (.var 4)) (.cons (.bin .Sub (.idx (.val (.var 2)) (.bin .Add (.var 4) (.int 1))) (.var 5)) .nil))) (.cons (.tup (.cons (.idx (.val (.var 1)) (.var 4)) (.cons (.var 5) .nil))) .nil)))) .no (.yes (.bin .Sub (.int 2) (.blt .int (.cons (.cmp .Eq (.var 5) (.int 0)) .nil)))))))))
  .nil))
theorem rng0_drop {n i : Nat} (h : i < n) : (rng0 n).drop i = .int (i : Int) :: (rng0 n).drop (i + 1) := by
  have hl : i < (rng0 n).length := by simp [rng0]; exact h
  rw [List.drop_eq_getElem_cons hl]
  congr 1
  simp [rng0]
theorem zip_take {names : List Str} {es : List Int} {i : Nat} (h : i < names.length) (h2 : i < es.length) : (zipP names es).take (i + 1) = (zipP names es).take i ++ [(names[i], es[i])] := by
  have hl : i < (zipP names es).length := by simp [zipP]; omega
  rw [List.take_add_one, List.getElem?_eq_getElem hl]
  simp [zipP]
theorem cut22 (a b : D) : cutD [a, b] none (some 2) = [a, b] := rfl
theorem cut21 (a b : D) : cutD [a, b] none (some 1) = [a] := rfl
theorem parts_loop (W k st jn jd : Nat) (hn1 : jn ≠ st) (hd1 : jd ≠ st) (names : List Str) (ds : List Int) (M : Store) (hs : st < M.length) (hjn : M[jn]? = some (.lst (names.map D.str))) (hjd : M[jd]? = some (.lst (ds.map D.int))) (hl : ds.length = names.length + 1) (hn4 : names.length ≤ 4) :
    ∀ (r i : Nat), i + r = names.length → ∀ (acc : P2) (j3 : Nat) (M1 : Store) (x4 x5 : Option D), Nx st M M1 → M1[j3]? = some (.lst (encP acc)) → M.length ≤ j3 → acc.length ≤ 2 * i → (∀ p ∈ acc, p.1 ∈ names) → (∀ x, sg acc x = sg ((zipP names ds.tail).take i) x) →
    ∃ (ps : P2) (j : Nat) (M2 : Store) (y4 y5 : Option D), forG (fun _ => true) (turnF (runF fds W (k + 1)) W (.name 4) bodyP) ((rng0 names.length).drop i) [some (.ref st), some (.ref jn), some (.ref jd), some (.ref j3), x4, x5] M1 = some (.nx, [some (.ref st), some (.ref jn), some (.ref jd), some (.ref j), y4, y5], M2)
      ∧ Nx st M M2 ∧ M2[j]? = some (.lst (encP ps)) ∧ ps.length ≤ 2 * names.length ∧ (∀ p ∈ ps, p.1 ∈ names) ∧ ∀ x, sg ps x = sg (zipP names ds.tail) x := by
  intro r
  induction r with
  | zero =>
    intro i hi acc j3 M1 x4 x5 nx ha hj h1 h2 h3
    have hi : i = names.length := by omega
    subst hi
    refine ⟨acc, j3, M1, x4, x5, ?_, nx, ha, h1, h2, fun x => ?_⟩
    · rw [List.drop_eq_nil_of_le (by simp [rng0])]
      unfold forG
      rw [if_pos rfl]
    · rw [h3, List.take_of_length_le (by simp [zipP]; omega)]
  | succ r ih =>
    intro i hi acc j3 M1 x4 x5 nx ha hj h1 h2 h3
    have hi1 : i < names.length := by omega
    have hi2 : i + 1 < ds.length := by omega
    have hi3 : i < ds.tail.length := by rw [List.length_tail]; omega
    have hdt : ds.tail[i] = ds[i + 1] := by simp
    obtain ⟨v, M2, e1, v1, v2, nx2, hl2⟩ := draw_run W k st 21 M1 nx.st (by decide) (by decide)
    have nxx := nx.trans nx2
    have ha2 : M2[j3]? = some (.lst (encP acc)) := nx2.old _ _ (by omega) ha
    have hn2 : M2[jn]? = some (.lst (names.map D.str)) := nxx.old _ _ hn1 hjn
    have hd2 : M2[jd]? = some (.lst (ds.map D.int)) := nxx.old _ _ hd1 hjd
    have a1 : atI (names.map D.str) (i : Int) = some (.str names[i]) := atI_nat (by rw [List.getElem?_map, List.getElem?_eq_getElem hi1]; rfl)
    have a2 : atI (ds.map D.int) ((i : Int) + 1) = some (.int ds[i + 1]) := by
      have : ((i : Int) + 1) = ((i + 1 : Nat) : Int) := by omega
      rw [this]
      exact atI_nat (by rw [List.getElem?_map, List.getElem?_eq_getElem hi2]; rfl)
    have e2 : ∀ x : Int, (plainD (.int x) && plainD (.int 0)) = true := fun _ => rfl
    have hz := zip_take hi1 hi3
    let add : P2 := if v - 10 = 0 then [(names[i], ds[i + 1] - (v - 10))] else [(names[i], ds[i + 1] - (v - 10)), (names[i], v - 10)]
    have hadd1 : add.length ≤ 2 := by
      show (if v - 10 = 0 then _ else _ : P2).length ≤ 2
      split <;> simp
    have hadd2 : ∀ p ∈ add, p.1 ∈ names := by
      intro p hp
      have hp : p ∈ (if v - 10 = 0 then [(names[i], ds[i + 1] - (v - 10))] else [(names[i], ds[i + 1] - (v - 10)), (names[i], v - 10)] : P2) := hp
      split at hp
      · simp at hp
        rw [hp]
        exact List.getElem_mem hi1
      · simp at hp
        rcases hp with z | z <;> rw [z] <;> exact List.getElem_mem hi1
    have hadd3 : ∀ x, sg add x = sg [(names[i], ds[i + 1])] x := by
      intro x
      show sg (if v - 10 = 0 then [(names[i], ds[i + 1] - (v - 10))] else [(names[i], ds[i + 1] - (v - 10)), (names[i], v - 10)] : P2) x = _
      split
      · rename_i z
        rw [sg_cons, sg_cons]
        simp only [z]
        split <;> simp
      · rw [sg_cons, sg_cons, sg_cons]
        dsimp only
        split <;> simp [sg]
    obtain ⟨ps, j, M4, y4, y5, lp, q1, q2, q3, q4, q5⟩ := ih (i + 1) (by omega) (acc ++ add) M2.length (M2 ++ [.lst (encP (acc ++ add))]) (some (.int i)) (some (.int (v - 10))) nxx.appNew (at_last _ _) (by have := nxx.len; omega) (by simp; omega) (fun p hp => by
      rcases List.mem_append.mp hp with z | z
      · exact h2 p z
      · exact hadd2 p z) (fun x => by
      rw [hz, sg_append, sg_append, h3, hadd3, hdt])
    refine ⟨ps, j, M4, y4, y5, ?_, q1, q2, q3, q4, q5⟩
    rw [rng0_drop hi1]
    refine (forG_nx rfl ?_).trans lp
    unfold turnF
    rw [asT.eq_def]
    dsimp only
    rw [if_pos (by simp)]
    dsimp only [List.set_cons_succ, List.set_cons_zero]
    unfold bodyP
    rw [exSs_nx (ρ1 := [some (.ref st), some (.ref jn), some (.ref jd), some (.ref j3), some (.int i), some (.int (v - 10))]) (M1 := M2) (by simp only [exSs, exS, evE, evEs, evO, evP, evL, evQ, evI, asT, asTs, wipeD, List.map_cons, List.map_nil, List.getElem?_cons_zero, List.getElem?_cons_succ, List.getElem?_nil, List.set_cons_zero, List.set_cons_succ, List.length_cons, List.length_nil, Nat.reduceAdd, Nat.reduceLT, Nat.zero_lt_succ, Nat.succ_lt_succ_iff, if_true, if_false, ite_true, ite_false, Bool.false_eq_true, Bool.not_true, Bool.not_false, recv, mthS, keyOf, binS, putS, Option.map_some, Option.bind_some, Option.map_none, Option.bind_none, idxS, items, itemsL, itemsW, truth, lim0, lim1, lim2, lim3, lim4, lim5, e1])]
    have hlim : (encP acc).length + 2 ≤ lim := by
      have : lim = 16777216 := rfl
      rw [encP_len]
      omega
    have hlim1 : (encP acc).length + 1 ≤ lim := by omega
    have hadd : add = if v - 10 = 0 then [(names[i], ds[i + 1] - (v - 10))] else [(names[i], ds[i + 1] - (v - 10)), (names[i], v - 10)] := rfl
    by_cases hv : v - 10 = 0
    · have e3 : eqD (.int (v - 10)) (.int 0) = true := by show (v - 10 == 0) = true; simpa using hv
      have e4 : (2 : Int) - 1 = 1 := rfl
      rw [if_pos hv] at hadd
      rw [hadd]
      refine (exSs_nx (ρ1 := [some (.ref st), some (.ref jn), some (.ref jd), some (.ref M2.length), some (.int i), some (.int (v - 10))]) (M1 := M2 ++ [.lst (encP (acc ++ [(names[i], ds[i + 1] - (v - 10))]))]) ?_).trans (by simp only [exSs, exS, evE, evEs, evO, evP, evL, evQ, evI, asT, asTs, wipeD, List.map_cons, List.map_nil, List.getElem?_cons_zero, List.getElem?_cons_succ, List.getElem?_nil, List.set_cons_zero, List.set_cons_succ, List.length_cons, List.length_nil, Nat.reduceAdd, Nat.reduceLT, Nat.zero_lt_succ, Nat.succ_lt_succ_iff, if_true, if_false, ite_true, ite_false, Bool.false_eq_true, Bool.not_true, Bool.not_false, recv, mthS, keyOf, binS, putS, Option.map_some, Option.bind_some, Option.map_none, Option.bind_none, idxS, items, itemsL, itemsW, truth, lim0, lim1, lim2, lim3, lim4, lim5])
      simp only [exSs, exS, evE, evEs, evO, evP, evL, evQ, evI, asT, asTs, wipeD, List.map_cons, List.map_nil, List.getElem?_cons_zero, List.getElem?_cons_succ, List.getElem?_nil, List.set_cons_zero, List.set_cons_succ, List.length_cons, List.length_nil, Nat.reduceAdd, Nat.reduceLT, Nat.zero_lt_succ, Nat.succ_lt_succ_iff, if_true, if_false, ite_true, ite_false, Bool.false_eq_true, Bool.not_true, Bool.not_false, recv, mthS, keyOf, binS, putS, Option.map_some, Option.bind_some, Option.map_none, Option.bind_none, idxS, items, itemsL, itemsW, truth, lim0, lim1, lim2, lim3, lim4, lim5, hn2, hd2, a1, a2, bltS, cmpS, e2, e3, e4, cut21, ha2, hlim1]
      rw [encP_app]
      rfl
    · have e3 : eqD (.int (v - 10)) (.int 0) = false := by show (v - 10 == 0) = false; simpa using hv
      have e4 : (2 : Int) - 0 = 2 := rfl
      rw [if_neg hv] at hadd
      rw [hadd]
      refine (exSs_nx (ρ1 := [some (.ref st), some (.ref jn), some (.ref jd), some (.ref M2.length), some (.int i), some (.int (v - 10))]) (M1 := M2 ++ [.lst (encP (acc ++ [(names[i], ds[i + 1] - (v - 10)), (names[i], v - 10)]))]) ?_).trans (by simp only [exSs, exS, evE, evEs, evO, evP, evL, evQ, evI, asT, asTs, wipeD, List.map_cons, List.map_nil, List.getElem?_cons_zero, List.getElem?_cons_succ, List.getElem?_nil, List.set_cons_zero, List.set_cons_succ, List.length_cons, List.length_nil, Nat.reduceAdd, Nat.reduceLT, Nat.zero_lt_succ, Nat.succ_lt_succ_iff, if_true, if_false, ite_true, ite_false, Bool.false_eq_true, Bool.not_true, Bool.not_false, recv, mthS, keyOf, binS, putS, Option.map_some, Option.bind_some, Option.map_none, Option.bind_none, idxS, items, itemsL, itemsW, truth, lim0, lim1, lim2, lim3, lim4, lim5])
      simp only [exSs, exS, evE, evEs, evO, evP, evL, evQ, evI, asT, asTs, wipeD, List.map_cons, List.map_nil, List.getElem?_cons_zero, List.getElem?_cons_succ, List.getElem?_nil, List.set_cons_zero, List.set_cons_succ, List.length_cons, List.length_nil, Nat.reduceAdd, Nat.reduceLT, Nat.zero_lt_succ, Nat.succ_lt_succ_iff, if_true, if_false, ite_true, ite_false, Bool.false_eq_true, Bool.not_true, Bool.not_false, recv, mthS, keyOf, binS, putS, Option.map_some, Option.bind_some, Option.map_none, Option.bind_none, idxS, items, itemsL, itemsW, truth, lim0, lim1, lim2, lim3, lim4, lim5, hn2, hd2, a1, a2, bltS, cmpS, e2, e3, e4, cut22, ha2, hlim]
      rw [encP_app]
      rfl
theorem parts_run (W k st jn jd : Nat) (hn1 : jn ≠ st) (hd1 : jd ≠ st) (names : List Str) (ds : List Int) (M : Store) (h : St M st) (hjn : M[jn]? = some (.lst (names.map D.str))) (hjd : M[jd]? = some (.lst (ds.map D.int))) (hl : ds.length = names.length + 1) (hn4 : names.length ≤ 4) :
    ∃ (ps : P2) (M' : Store), runF fds W (k + 2) 15 [.ref st, .ref jn, .ref jd] M = some (.tup (encP ps), M') ∧ Nx st M M' ∧ ps.length ≤ 8 ∧ (∀ p ∈ ps, p.1 ∈ names) ∧ ∀ x, sg ps x = sg (zipP names ds.tail) x := by
  have hs := h.lt
  obtain ⟨ps, j, M2, y4, y5, lp, q1, q2, q3, q4, q5⟩ := parts_loop W k st jn jd hn1 hd1 names ds M hs hjn hjd hl hn4 names.length 0 (by omega) [] M.length (M ++ [.lst []]) none none (Nx.app h) (at_last _ _) (Nat.le_refl _) (by simp) (fun p hp => by simp at hp) (fun x => rfl)
  rw [List.drop_zero] at lp
  have hx : exSs (runF fds W (k + 1)) W b15 [some (.ref st), some (.ref jn), some (.ref jd), none, none, none] M = some (.rt (.tup (encP ps.reverse)), [some (.ref st), some (.ref jn), some (.ref jd), some (.ref j), y4, y5], M2) := by
    unfold b15
    rw [exSs_nx (ρ1 := [some (.ref st), some (.ref jn), some (.ref jd), some (.ref M.length), none, none]) (M1 := M ++ [.lst []]) (by simp only [exSs, exS, evE, evEs, evO, evP, evL, evQ, evI, asT, asTs, wipeD, List.map_cons, List.map_nil, List.getElem?_cons_zero, List.getElem?_cons_succ, List.getElem?_nil, List.set_cons_zero, List.set_cons_succ, List.length_cons, List.length_nil, Nat.reduceAdd, Nat.reduceLT, Nat.zero_lt_succ, Nat.succ_lt_succ_iff, if_true, if_false, ite_true, ite_false, Bool.false_eq_true, Bool.not_true, Bool.not_false, recv, mthS, keyOf, binS, putS, Option.map_some, Option.bind_some, Option.map_none, Option.bind_none, idxS, items, itemsL, itemsW, truth, lim0, lim1, lim2, lim3, lim4, lim5])]
    rw [exSs_nx (ρ1 := [some (.ref st), some (.ref jn), some (.ref jd), some (.ref j), y4, y5]) (M1 := M2) ((exS_fr (evI_rng (n := names.length) (M1 := M ++ [.lst []]) (by
      simp only [exSs, exS, evE, evEs, evO, evP, evL, evQ, evI, asT, asTs, wipeD, List.map_cons, List.map_nil, List.getElem?_cons_zero, List.getElem?_cons_succ, List.getElem?_nil, List.set_cons_zero, List.set_cons_succ, List.length_cons, List.length_nil, Nat.reduceAdd, Nat.reduceLT, Nat.zero_lt_succ, Nat.succ_lt_succ_iff, if_true, if_false, ite_true, ite_false, Bool.false_eq_true, Bool.not_true, Bool.not_false, recv, mthS, keyOf, binS, putS, Option.map_some, Option.bind_some, Option.map_none, Option.bind_none, idxS, items, itemsL, itemsW, truth, lim0, lim1, lim2, lim3, lim4, lim5, aggS, listAt, at_old hjn, List.length_map]
      try rfl) (by omega))).trans lp)]
    refine exSs_rt ?_
    simp only [exSs, exS, evE, evEs, evO, evP, evL, evQ, evI, asT, asTs, wipeD, List.map_cons, List.map_nil, List.getElem?_cons_zero, List.getElem?_cons_succ, List.getElem?_nil, List.set_cons_zero, List.set_cons_succ, List.length_cons, List.length_nil, Nat.reduceAdd, Nat.reduceLT, Nat.zero_lt_succ, Nat.succ_lt_succ_iff, if_true, if_false, ite_true, ite_false, Bool.false_eq_true, Bool.not_true, Bool.not_false, recv, mthS, keyOf, binS, putS, Option.map_some, Option.bind_some, Option.map_none, Option.bind_none, idxS, items, itemsL, itemsW, truth, lim0, lim1, lim2, lim3, lim4, lim5, listAt, q2, aggS]
    simp [encP]
  have hgc := gc_st (d := .tup (encP ps.reverse)) hs q1 (by show closedDs _ _ = true; exact closed_encP _ _)
  have hrun := runF_rt (W := W) (k := k + 1) (f := 15) (fd := ⟨3, 6, b15⟩) (ds := [.ref st, .ref jn, .ref jd]) (M := M) rfl rfl hx
  refine ⟨ps.reverse, M2.take M.length, hrun.trans (by rw [hgc]), q1.take hs, by simp; omega, fun p hp => q4 p (by simpa using hp), fun x => by rw [sg_perm (List.reverse_perm ps), q5]⟩
end K45

set_option Elab.async false
set_option linter.all false
set_option maxRecDepth 100000
set_option maxHeartbeats 4000000
/-! L45m: forms and digits, side by side. -/
namespace K45
open PySem L2 PS
theorem told_eq {names : List Str} {ds : List Int} {c : Int} {r : P2} (nd : names.Nodup) (hl : ds.length = names.length + 1) (hr : IsCan r) (hc : c = ds.headD 0) (hs : ∀ x, sg r x = sg (zipP names ds.tail) x) : (c, r) = toldF ds names := by
  obtain ⟨h1, h2⟩ := told_can nd hl
  have : r = (toldF ds names).2 := can_ext hr h1 fun x => by rw [hs, h2]
  rw [this, hc]
  rfl
theorem plus_can {f g : Int × P2} (hf : IsCan f.2) (hg : IsCan g.2) : IsCan (plusF f g).2 ∧ (plusF f g).1 = f.1 + g.1 ∧ ∀ x, sg (plusF f g).2 x = sg f.2 x + sg g.2 x := by
  unfold plusF
  split
  · rename_i h
    refine ⟨hf, rfl, fun x => ?_⟩
    rw [h]
    show sg f.2 x = sg f.2 x + 0
    omega
  · obtain ⟨h1, h2⟩ := form_can (f.1 + g.1) (f.2 ++ g.2)
    exact ⟨h1, rfl, fun x => by rw [h2, sg_append]⟩
theorem sg_smul (k : Int) (ps : P2) (x : Str) : sg (ps.map fun p => (p.1, k * p.2)) x = k * sg ps x := by
  induction ps with
  | nil => simp [sg]
  | cons p ps ih =>
    rw [List.map_cons, sg_cons, sg_cons, ih, Int.mul_add]
    split <;> simp
theorem times_can (k : Int) {f : Int × P2} (hf : IsCan f.2) : IsCan (timesF k f).2 ∧ (timesF k f).1 = k * f.1 ∧ ∀ x, sg (timesF k f).2 x = k * sg f.2 x := by
  unfold timesF
  split
  · rename_i h
    subst h
    exact ⟨⟨List.Pairwise.nil, fun p m => by simp at m⟩, by simp, fun x => by simp [sg]⟩
  · rename_i h
    refine ⟨⟨List.pairwise_map.mpr hf.srt, fun p hp => ?_⟩, rfl, fun x => sg_smul k _ x⟩
    obtain ⟨q, hq, rfl⟩ := List.mem_map.mp hp
    exact Int.mul_ne_zero h (hf.nz q hq)
theorem minus_can {f g : Int × P2} (hf : IsCan f.2) (hg : IsCan g.2) : IsCan (minusF f g).2 ∧ (minusF f g).1 = f.1 - g.1 ∧ ∀ x, sg (minusF f g).2 x = sg f.2 x - sg g.2 x := by
  obtain ⟨t1, t2, t3⟩ := times_can (-1) hg
  obtain ⟨p1, p2, p3⟩ := plus_can hf t1
  refine ⟨p1, ?_, fun x => ?_⟩
  · show (plusF f (timesF (-1) g)).1 = _
    rw [p2, t2]
    omega
  · show sg (plusF f (timesF (-1) g)).2 x = _
    rw [p3, t3]
    omega
/-! ### lists of digits -/
def addL (a b : List Int) : List Int := List.zipWith (· + ·) a b
def smul (k : Int) (a : List Int) : List Int := a.map (k * ·)
theorem addL_len {a b : List Int} {n : Nat} (ha : a.length = n) (hb : b.length = n) : (addL a b).length = n := by simp [addL, ha, hb]
theorem smul_len {a : List Int} {n : Nat} (k : Int) (ha : a.length = n) : (smul k a).length = n := by simp [smul, ha]
theorem num_add : ∀ {a b : List Int}, a.length = b.length → num (addL a b) = num a + num b
  | [], [], _ => rfl
  | [], _ :: _, h => by simp at h
  | _ :: _, [], h => by simp at h
  | a :: as, b :: bs, h => by
    have ih := num_add (a := as) (b := bs) (by simpa using h)
    show num (addL as bs) * B + (a + b) = (num as * B + a) + (num bs * B + b)
    rw [ih, Int.add_mul]
    omega
theorem num_smul (k : Int) : ∀ a : List Int, num (smul k a) = k * num a
  | [] => by simp [smul, num]
  | a :: as => by
    show num (smul k as) * B + k * a = k * (num as * B + a)
    rw [num_smul k as, Int.mul_add, Int.mul_assoc]
theorem zip_add : ∀ (names : List Str) {a b : List Int}, a.length = b.length → ∀ x, sg (zipP names (addL a b)) x = sg (zipP names a) x + sg (zipP names b) x
  | [], a, b, _, x => by simp [zipP, sg]
  | n :: names, [], [], _, x => by simp [zipP, sg, addL]
  | n :: names, [], _ :: _, h, x => by simp at h
  | n :: names, _ :: _, [], h, x => by simp at h
  | n :: names, a :: as, b :: bs, h, x => by
    have ih := zip_add names (a := as) (b := bs) (by simpa using h) x
    show sg ((n, a + b) :: zipP names (addL as bs)) x = sg ((n, a) :: zipP names as) x + sg ((n, b) :: zipP names bs) x
    rw [sg_cons, sg_cons, sg_cons, ih]
    dsimp only
    split <;> omega
theorem zip_smul (names : List Str) (k : Int) (a : List Int) (x : Str) : sg (zipP names (smul k a)) x = k * sg (zipP names a) x := by
  have : zipP names (smul k a) = (zipP names a).map fun p => (p.1, k * p.2) := by
    unfold zipP smul
    rw [List.zip_map_right]
    rfl
  rw [this, sg_smul]
theorem head_add {a b : List Int} (h : a.length = b.length) : (addL a b).headD 0 = a.headD 0 + b.headD 0 := by
  cases a with
  | nil =>
    cases b with
    | nil => rfl
    | cons _ _ => simp at h
  | cons _ _ =>
    cases b with
    | nil => simp at h
    | cons _ _ => rfl
theorem head_smul (k : Int) (a : List Int) : (smul k a).headD 0 = k * a.headD 0 := by cases a <;> simp [smul]
theorem tail_add (a b : List Int) : (addL a b).tail = addL a.tail b.tail := by
  cases a <;> cases b <;> simp [addL]
theorem tail_smul (k : Int) (a : List Int) : (smul k a).tail = smul k a.tail := by cases a <;> simp [smul]
theorem dig_add {x y z : Int} (hz : z = x + y) : ∀ {a b : List Int}, Dig x a → Dig y b → Dig z (addL a b)
  | [], _, _, _ => ⟨fun d m => by simp [addL] at m, fun d m => by simp [addL] at m⟩
  | _ :: _, [], _, _ => ⟨fun d m => by simp [addL] at m, fun d m => by simp [addL] at m⟩
  | a :: as, b :: bs, ha, hb => by
    have ih := dig_add hz (a := as) (b := bs) ⟨fun d m => ha.lo d (List.mem_cons_of_mem _ m), fun d m => ha.hi d (List.mem_cons_of_mem _ m)⟩ ⟨fun d m => hb.lo d (List.mem_cons_of_mem _ m), fun d m => hb.hi d (List.mem_cons_of_mem _ m)⟩
    have a1 := ha.lo a List.mem_cons_self
    have a2 := ha.hi a List.mem_cons_self
    have b1 := hb.lo b List.mem_cons_self
    have b2 := hb.hi b List.mem_cons_self
    have e : addL (a :: as) (b :: bs) = (a + b) :: addL as bs := rfl
    rw [e]
    exact ⟨fun d m => by
      rcases List.mem_cons.mp m with z | z
      · omega
      · exact ih.lo d z, fun d m => by
      rcases List.mem_cons.mp m with z | z
      · omega
      · exact ih.hi d z⟩
theorem dig_smul {x k z : Int} (h0 : 0 ≤ x) {K : Int} (hk1 : -K ≤ k) (hk2 : k ≤ K) (hz : z = K * x) {a : List Int} (ha : Dig x a) : Dig z (smul k a) := by
  have key : ∀ d ∈ a, -z ≤ k * d ∧ k * d ≤ z := fun d m => by
    have d1 := ha.lo d m
    have d2 := ha.hi d m
    have hK : 0 ≤ K := by omega
    have h1 : (k * d).natAbs ≤ (K * x).natAbs := by
      rw [Int.natAbs_mul, Int.natAbs_mul]
      exact Nat.mul_le_mul (by omega) (by omega)
    have h2 : 0 ≤ K * x := Int.mul_nonneg hK h0
    rw [hz]
    omega
  exact ⟨fun d m => by
    obtain ⟨e, he, rfl⟩ := List.mem_map.mp m
    exact (key e he).1, fun d m => by
    obtain ⟨e, he, rfl⟩ := List.mem_map.mp m
    exact (key e he).2⟩
theorem Dig.mono {x y : Int} (h : x ≤ y) {a : List Int} (ha : Dig x a) : Dig y a := ⟨fun d m => by have := ha.lo d m; omega, fun d m => by have := ha.hi d m; omega⟩
theorem dig_half {x : Int} (hx : 2 * x < B) {a : List Int} (ha : Dig x a) : (∀ d ∈ a, -B < 2 * d) ∧ ∀ d ∈ a, 2 * d < B := ⟨fun d m => by have := ha.lo d m; omega, fun d m => by have := ha.hi d m; omega⟩
/-! ### sums of them -/
def comb (c0 : List Int) (L : List (Int × List Int)) : List Int := L.foldl (fun t p => addL t (smul p.1 p.2)) c0
theorem comb_lin {n : Nat} {φ : List Int → Int} (hadd : ∀ a b : List Int, a.length = n → b.length = n → φ (addL a b) = φ a + φ b) (hsm : ∀ (k : Int) (a : List Int), φ (smul k a) = k * φ a) :
    ∀ (L : List (Int × List Int)) (c0 : List Int), c0.length = n → (∀ p ∈ L, p.2.length = n) → φ (comb c0 L) = φ c0 + (L.map fun p => p.1 * φ p.2).sum ∧ (comb c0 L).length = n
  | [], c0, h, _ => ⟨by simp [comb], h⟩
  | p :: L, c0, h, hL => by
    have hp := hL p List.mem_cons_self
    have hs := smul_len p.1 hp
    obtain ⟨i1, i2⟩ := comb_lin hadd hsm L (addL c0 (smul p.1 p.2)) (addL_len h hs) fun q m => hL q (List.mem_cons_of_mem _ m)
    refine ⟨?_, i2⟩
    show φ (comb (addL c0 (smul p.1 p.2)) L) = _
    rw [i1, hadd _ _ h hs, hsm, List.map_cons, List.sum_cons]
    omega
def lsum (l : P2) (F : Str → Int) : Int := (l.map fun p => p.2 * F p.1).sum
theorem lsum_perm {a b : P2} (h : a.Perm b) (F : Str → Int) : lsum a F = lsum b F := by
  induction h with
  | nil => rfl
  | cons p _ ih =>
    show p.2 * F p.1 + lsum _ F = p.2 * F p.1 + lsum _ F
    rw [ih]
  | swap p q l =>
    show q.2 * F q.1 + (p.2 * F p.1 + lsum l F) = p.2 * F p.1 + (q.2 * F q.1 + lsum l F)
    omega
  | trans _ _ i1 i2 => exact i1.trans i2
theorem lsum_filter (l : P2) (F : Str → Int) : lsum (l.filter fun p => p.2 ≠ 0) F = lsum l F := by
  induction l with
  | nil => rfl
  | cons p l ih =>
    by_cases h : p.2 = 0
    · rw [List.filter_cons_of_neg (by simp [h]), ih]
      show _ = p.2 * F p.1 + lsum l F
      rw [h]
      simp
    · rw [List.filter_cons_of_pos (by simp [h])]
      show p.2 * F p.1 + lsum _ F = p.2 * F p.1 + lsum l F
      rw [ih]
theorem lsum_told {names : List Str} {ds : List Int} (hl : ds.length = names.length + 1) (F : Str → Int) : lsum (toldF ds names).2 F = lsum (zipP names ds.tail) F := by
  cases ds with
  | nil => simp at hl
  | cons d0 es =>
    show lsum (sortB ltP (prs names (d0 :: es))) F = lsum (zipP names es) F
    rw [lsum_perm (sortB_perm _), prs_zip names d0 es (by simpa using hl), lsum_filter]
theorem lsum_zip (F : Str → Int) (φ : List Int → Int) : ∀ (names : List Str) (es : List Int) (Gs : List (List Int)), es.length = names.length → Gs.length = names.length → (∀ (j : Nat) (n : Str) (g : List Int), names[j]? = some n → Gs[j]? = some g → F n = φ g) →
    lsum (zipP names es) F = ((es.zip Gs).map fun p => p.1 * φ p.2).sum
  | [], es, Gs, h1, h2, _ => by
    have : es = [] := by
      cases es with
      | nil => rfl
      | cons _ _ => simp at h1
    subst this
    rfl
  | n :: names, [], Gs, h1, h2, _ => by simp at h1
  | n :: names, e :: es, [], h1, h2, _ => by simp at h2
  | n :: names, e :: es, g :: Gs, h1, h2, h => by
    have ih := lsum_zip F φ names es Gs (by simpa using h1) (by simpa using h2) fun j n g a b => h (j + 1) n g (by simpa using a) (by simpa using b)
    have h0 := h 0 n g rfl rfl
    show e * F n + lsum (zipP names es) F = e * φ g + ((es.zip Gs).map fun p => p.1 * φ p.2).sum
    rw [ih, h0]
/-! ### image -/
def Fc (gs : PF2) (n : Str) : Int := match lk gs n with
  | some g => g.1
  | none => 0
def Fx (gs : PF2) (x n : Str) : Int := match lk gs n with
  | some g => sg g.2 x
  | none => if n = x then 1 else 0
theorem foldI_sem (gs : PF2) : ∀ (ps : P2) (s : Int × P2), (ps.foldl (stepI gs) s).1 = s.1 + lsum ps (Fc gs) ∧ ∀ x, sg (ps.foldl (stepI gs) s).2 x = sg s.2 x + lsum ps (Fx gs x)
  | [], s => ⟨by simp [lsum], fun x => by simp [lsum]⟩
  | p :: ps, s => by
    obtain ⟨i1, i2⟩ := foldI_sem gs ps (stepI gs s p)
    have e1 : lsum (p :: ps) (Fc gs) = p.2 * Fc gs p.1 + lsum ps (Fc gs) := rfl
    have e2 : ∀ x, lsum (p :: ps) (Fx gs x) = p.2 * Fx gs x p.1 + lsum ps (Fx gs x) := fun _ => rfl
    refine ⟨?_, fun x => ?_⟩
    · rw [List.foldl_cons, i1, e1]
      unfold stepI Fc
      cases lk gs p.1 with
      | none => simp
      | some g => dsimp only; omega
    · rw [List.foldl_cons, i2, e2]
      unfold stepI Fx
      cases lk gs p.1 with
      | none =>
        dsimp only
        rw [sg_append, sg_cons]
        split <;> simp [sg]
        omega
      | some g =>
        dsimp only
        rw [sg_append, sg_smul]
        omega
theorem image_sem (names : List Str) (one : List Int) (gs : PF2) (Gs : List (List Int)) (nd : names.Nodup) (hl : one.length = names.length + 1) (hG : Gs.length = names.length) (hGl : ∀ g ∈ Gs, g.length = names.length + 1)
    (h1 : ∀ (j : Nat) (n : Str) (g : List Int), names[j]? = some n → Gs[j]? = some g → Fc gs n = g.headD 0) (h2 : ∀ (x : Str) (j : Nat) (n : Str) (g : List Int), names[j]? = some n → Gs[j]? = some g → Fx gs x n = sg (zipP names g.tail) x) :
    imageF (toldF one names) gs = toldF (comb (one.headD 0 :: List.replicate names.length 0) (one.tail.zip Gs)) names := by
  have hlen0 : (one.headD 0 :: List.replicate names.length (0 : Int)).length = names.length + 1 := by simp
  have hes : one.tail.length = names.length := by rw [List.length_tail, hl]; rfl
  have hLl : ∀ p ∈ one.tail.zip Gs, p.2.length = names.length + 1 := fun p hp => hGl _ (List.of_mem_zip hp).2
  have hhd := comb_lin (n := names.length + 1) (φ := fun a => a.headD 0) (fun a b ha hb => head_add (by rw [ha, hb])) head_smul (one.tail.zip Gs) _ hlen0 hLl
  have hsg := fun x => (comb_lin (n := names.length + 1) (φ := fun a => sg (zipP names a.tail) x) (fun a b ha hb => by
    try dsimp only
    rw [tail_add, zip_add names (by rw [List.length_tail, List.length_tail, ha, hb])]) (fun k a => by
    try dsimp only
    rw [tail_smul, zip_smul]) (one.tail.zip Gs) _ hlen0 hLl).1
  obtain ⟨s1, s2⟩ := foldI_sem gs (toldF one names).2 ((toldF one names).1, [])
  have key := told_eq (c := ((toldF one names).2.foldl (stepI gs) ((toldF one names).1, [])).1) (r := (formF ((toldF one names).2.foldl (stepI gs) ((toldF one names).1, [])).1 ((toldF one names).2.foldl (stepI gs) ((toldF one names).1, [])).2).2) nd hhd.2
    (form_can _ _).1 (by
      rw [s1, lsum_told hl, lsum_zip (Fc gs) (fun a => a.headD 0) names one.tail Gs hes hG h1]
      have := hhd.1
      try dsimp only at this
      rw [this]
      rfl) (fun x => by
      rw [(form_can _ _).2, s2, lsum_told hl, lsum_zip (Fx gs x) (fun a => sg (zipP names a.tail) x) names one.tail Gs hes hG (h2 x)]
      have := hsg x
      try dsimp only at this
      rw [this]
      have h0 : ∀ (names : List Str) (n : Nat), sg (zipP names (List.replicate n (0 : Int))) x = 0 := by
        intro names
        induction names with
        | nil => intro n; rfl
        | cons m names ih =>
          intro n
          cases n with
          | zero => rfl
          | succ n =>
            show sg ((m, 0) :: zipP names (List.replicate n 0)) x = 0
            rw [sg_cons, ih]
            simp
      rw [List.tail_cons, h0]
      rfl)
  exact key
end K45

set_option Elab.async false
set_option linter.all false
set_option maxRecDepth 100000
set_option maxHeartbeats 4000000
/-! L45n: the law's own loops. -/
namespace K45
open PySem L2 PS
theorem compG_mapL {α : Type} (enc : α → D) (h : α → Option D) {ok : Store → Bool} {f : D → Store → R (Option D)} {M : Store} (hok : ok M = true) : ∀ (l : List α) (acc : List D), (∀ a ∈ l, f (enc a) M = some (h a, M)) → acc.length + l.length < lim → compG ok f (l.map enc) acc M = some (acc ++ l.filterMap h, M)
  | [], acc, _, _ => by
    rw [List.map_nil, compG, if_pos hok]
    simp
  | a :: l, acc, hf, hl => by
    rw [List.map_cons, compG, if_pos hok, hf a List.mem_cons_self]
    have hl2 : acc.length + (l.length + 1) < lim := by simpa using hl
    cases hg : h a with
    | none =>
      dsimp only
      rw [compG_mapL enc h hok l acc (fun d m => hf d (List.mem_cons_of_mem _ m)) (by omega), List.filterMap_cons_none hg]
    | some y =>
      dsimp only
      rw [if_pos (by omega), compG_mapL enc h hok l (acc ++ [y]) (fun d m => hf d (List.mem_cons_of_mem _ m)) (by simp; omega), List.filterMap_cons_some hg]
      simp
theorem evL_mapL {α : Type} (enc : α → D) (g : α → Option D) {Φ : Nat → Fn} {own : List (Str × Nat)} {t : PS.T} {it : I} {c : O} {elt : E} {ρ : PS.Env} {M M1 : Store} {ok : Store → Bool} {l : List α} (h : evI Φ it ρ M = some (ok, l.map enc, M1)) (hok : ok M1 = true) (hl : l.length < 1000)
    (hg : ∀ a ∈ l, turnC (asT Φ t) (evO Φ c) (evE Φ elt) (wipeD ρ (own.map (·.2))) (enc a) M1 = some (g a, M1)) : evL Φ (.comp own t it c elt) ρ M = some (l.filterMap g, M1) := by
  rw [evL_comp h, compG_mapL enc g hok l [] hg (by have : lim = 16777216 := rfl; simp; omega)]
  rfl
abbrev SO := List (Str × Nat × List Int)
def encSO (so : SO) : List D := so.map fun p => .tup [.str p.1, .ref p.2.1]
structure GoodSO (st m : Nat) (M : Store) (so : SO) : Prop where
  at_ : ∀ p ∈ so, M[p.2.1]? = some (.lst (p.2.2.map D.int))
  ne : ∀ p ∈ so, p.2.1 ≠ st
  len : ∀ p ∈ so, p.2.2.length = m
  dig : ∀ p ∈ so, Dig DB p.2.2
theorem GoodSO.nx {st m : Nat} {M M1 : Store} {so : SO} (h : GoodSO st m M so) (nx : Nx st M M1) : GoodSO st m M1 so := ⟨fun p hp => nx.old _ _ (h.ne p hp) (h.at_ p hp), h.ne, h.len, h.dig⟩
theorem some_loop (W st jn : Nat) (hne : jn ≠ st) (names : List Str) (hn4 : names.length ≤ 4) (ρ : PS.Env) (hl : ρ.length = 19) (h1 : ρ[1]? = some (some (.ref st))) (h3 : ρ[3]? = some (some (.ref jn))) : ∀ (r i : Nat), i + r = names.length → ∀ (acc : SO) (M : Store), St M st → M[jn]? = some (.lst (names.map D.str)) → GoodSO st (names.length + 1) M acc → (acc.map (·.1)).Sublist (names.take i) → acc.length ≤ i → ∃ (so : SO) (M2 : Store),
    compG (fun _ => true) (turnC (asT (runF fds W 11) (.name 14)) (evO (runF fds W 11) (.yes (.cmp .Gt (.call 7 (.cons (.var 1) (.cons (.int 3) .nil))) (.int 0)))) (evE (runF fds W 11) (.tup (.cons (.idx (.val (.var 3)) (.var 14)) (.cons (.call 14 (.cons (.var 1) (.cons (.bin .Add (.agg .len (.val (.var 3))) (.int 1)) .nil))) .nil)))) (ρ.set 14 none)) ((rng0 names.length).drop i) (encSO acc) M = some (encSO so, M2)
      ∧ Nx st M M2 ∧ GoodSO st (names.length + 1) M2 so ∧ (so.map (·.1)).Sublist names ∧ so.length ≤ names.length := by
  intro r
  induction r with
  | zero =>
    intro i hi acc M hs hj hg hsub hal
    have hi : i = names.length := by omega
    subst hi
    refine ⟨acc, M, ?_, Nx.refl hs, hg, by rw [List.take_of_length_le (Nat.le_refl _)] at hsub; exact hsub, hal⟩
    rw [List.drop_eq_nil_of_le (by simp [rng0]), compG, if_pos rfl]
  | succ r ih =>
    intro i hi acc M hs hj hg hsub hal
    have hi1 : i < names.length := by omega
    rw [rng0_drop hi1, compG, if_pos rfl]
    obtain ⟨v, M1, e1, v1, v2, nx1, hl1⟩ := draw_run W 10 st 3 M hs (by decide) (by decide)
    have r1 : ∀ d, ((ρ.set 14 none).set 14 (some d))[1]? = some (some (.ref st)) := fun d => by rw [List.getElem?_set_ne (by decide), List.getElem?_set_ne (by decide), h1]
    have r3 : ∀ d, ((ρ.set 14 none).set 14 (some d))[3]? = some (some (.ref jn)) := fun d => by rw [List.getElem?_set_ne (by decide), List.getElem?_set_ne (by decide), h3]
    have r14 : ∀ d : D, ((ρ.set 14 none).set 14 (some d))[14]? = some (some d) := fun d => List.getElem?_set_self (by simp; omega)
    have l14 : 14 < (ρ.set 14 none).length := by simp; omega
    have hj1 : M1[jn]? = some (.lst (names.map D.str)) := nx1.old _ _ hne hj
    have a1 : atI (names.map D.str) (i : Int) = some (.str names[i]) := atI_nat (by rw [List.getElem?_map, List.getElem?_eq_getElem hi1]; rfl)
    have tk : names.take (i + 1) = names.take i ++ [names[i]] := by rw [List.take_add_one, List.getElem?_eq_getElem hi1]; rfl
    by_cases hv : 0 < v
    · have hv' : decide (0 < v) = true := by simpa using hv
      obtain ⟨ds, M2, e2, d1, d2, nx2, d3⟩ := dig_run W 9 st (names.length + 1) M1 nx1.st (by omega)
      have hstep : turnC (asT (runF fds W 11) (.name 14)) (evO (runF fds W 11) (.yes (.cmp .Gt (.call 7 (.cons (.var 1) (.cons (.int 3) .nil))) (.int 0)))) (evE (runF fds W 11) (.tup (.cons (.idx (.val (.var 3)) (.var 14)) (.cons (.call 14 (.cons (.var 1) (.cons (.bin .Add (.agg .len (.val (.var 3))) (.int 1)) .nil))) .nil)))) (ρ.set 14 none) (.int i) M = some (some (.tup [.str names[i], .ref M1.length]), M2) := by
        unfold turnC
        have e2' : runF fds W 11 14 [.ref st, .int ((names.length : Int) + 1)] M1 = some (.ref M1.length, M2) := e2
        simp only [exSs, exS, evE, evEs, evO, evP, evL, evQ, evI, asT, asTs, wipeD, List.map_cons, List.map_nil, List.getElem?_cons_zero, List.getElem?_cons_succ, List.getElem?_nil, List.set_cons_zero, List.set_cons_succ, List.length_cons, List.length_nil, Nat.reduceAdd, Nat.reduceLT, Nat.zero_lt_succ, Nat.succ_lt_succ_iff, if_true, if_false, ite_true, ite_false, Bool.false_eq_true, Bool.not_true, Bool.not_false, recv, mthS, keyOf, binS, putS, Option.map_some, Option.bind_some, Option.map_none, Option.bind_none, idxS, items, itemsL, itemsW, truth, lim0, lim1, lim2, lim3, lim4, lim5, l14, r1, r3, r14, e1, cmpS, hv', hj1, a1, aggS, listAt, List.length_map, e2']
      rw [hstep]
      dsimp only
      rw [if_pos (by have : lim = 16777216 := rfl; simp [encSO]; omega)]
      obtain ⟨so, M3, lp, q1, q2, q3, q4⟩ := ih (i + 1) (by omega) (acc ++ [(names[i], M1.length, ds)]) M2 nx2.st (nx2.old _ _ hne hj1) (by
        have g2 := (hg.nx nx1).nx nx2
        have hst := nx1.st.lt
        refine ⟨fun p hp => ?_, fun p hp => ?_, fun p hp => ?_, fun p hp => ?_⟩ <;> rcases List.mem_append.mp hp with z | z
        · exact g2.at_ p z
        · simp at z; rw [z]; exact d3
        · exact g2.ne p z
        · simp at z; rw [z]; dsimp only; omega
        · exact g2.len p z
        · simp at z; rw [z]; exact d1
        · exact g2.dig p z
        · simp at z; rw [z]; exact d2) (by
        rw [tk, List.map_append]
        exact hsub.append (List.Sublist.refl _)) (by simp; omega)
      refine ⟨so, M3, ?_, (nx1.trans nx2).trans q1, q2, q3, q4⟩
      have : encSO (acc ++ [(names[i], M1.length, ds)]) = encSO acc ++ [.tup [.str names[i], .ref M1.length]] := by simp [encSO]
      rw [← this]
      exact lp
    · have hv' : decide (0 < v) = false := by simpa using hv
      have hstep : turnC (asT (runF fds W 11) (.name 14)) (evO (runF fds W 11) (.yes (.cmp .Gt (.call 7 (.cons (.var 1) (.cons (.int 3) .nil))) (.int 0)))) (evE (runF fds W 11) (.tup (.cons (.idx (.val (.var 3)) (.var 14)) (.cons (.call 14 (.cons (.var 1) (.cons (.bin .Add (.agg .len (.val (.var 3))) (.int 1)) .nil))) .nil)))) (ρ.set 14 none) (.int i) M = some (none, M1) := by
        unfold turnC
        simp only [exSs, exS, evE, evEs, evO, evP, evL, evQ, evI, asT, asTs, wipeD, List.map_cons, List.map_nil, List.getElem?_cons_zero, List.getElem?_cons_succ, List.getElem?_nil, List.set_cons_zero, List.set_cons_succ, List.length_cons, List.length_nil, Nat.reduceAdd, Nat.reduceLT, Nat.zero_lt_succ, Nat.succ_lt_succ_iff, if_true, if_false, ite_true, ite_false, Bool.false_eq_true, Bool.not_true, Bool.not_false, recv, mthS, keyOf, binS, putS, Option.map_some, Option.bind_some, Option.map_none, Option.bind_none, idxS, items, itemsL, itemsW, truth, lim0, lim1, lim2, lim3, lim4, lim5, l14, r1, r3, r14, e1, cmpS, hv']
      rw [hstep]
      dsimp only
      obtain ⟨so, M3, lp, q1, q2, q3, q4⟩ := ih (i + 1) (by omega) acc M1 nx1.st hj1 (hg.nx nx1) (by
        rw [tk]
        exact hsub.trans (List.sublist_append_left _ _)) (by omega)
      exact ⟨so, M3, lp, nx1.trans q1, q2, q3, q4⟩
end K45

set_option Elab.async false
set_option linter.all false
set_option maxRecDepth 100000
set_option maxHeartbeats 4000000
/-! L45o: the law's total. -/
namespace K45
open PySem L2 PS
theorem evE_bin {Φ : Nat → Fn} {o : Operator} {a b : E} {ρ : PS.Env} {M M1 M2 : Store} {x y : D} (ha : evE Φ a ρ M = some (x, M1)) (hb : evE Φ b ρ M1 = some (y, M2)) : evE Φ (.bin o a b) ρ M = binS o x y M2 := by
  rw [evE.eq_def]
  dsimp only
  rw [ha]
  dsimp only
  rw [hb]
theorem evE_idx {Φ : Nat → Fn} {q : Q} {i : E} {ρ : PS.Env} {M M1 M2 : Store} {x : QV} {y : D} (ha : evQ Φ q ρ M = some (x, M1)) (hb : evE Φ i ρ M1 = some (y, M2)) : evE Φ (.idx q i) ρ M = (idxS x y M2).map fun d => (d, M2) := by
  rw [evE.eq_def]
  dsimp only
  rw [ha]
  dsimp only
  rw [hb]
theorem evL_cat {Φ : Nat → Fn} {a b : Q} {ρ : PS.Env} {M M1 M2 : Store} {xs ys : List D} (ha : evQ Φ a ρ M = some (.tmp xs, M1)) (hb : evQ Φ b ρ M1 = some (.tmp ys, M2)) (hl : xs.length + ys.length < 1000) : evL Φ (.cat a b) ρ M = some (xs ++ ys, M2) := by
  rw [evL.eq_def]
  dsimp only
  rw [ha]
  dsimp only
  rw [hb]
  dsimp only [itemsW]
  rw [if_pos (by have : lim = 16777216 := rfl; omega)]
theorem exS_asgN {Φ : Nat → Fn} {W i : Nat} {e : E} {ρ : PS.Env} {M M1 : Store} {d : D} (h : evE Φ e ρ M = some (d, M1)) (hi : i < ρ.length) : exS Φ W (.asg (.name i) e) ρ M = some (.nx, ρ.set i (some d), M1) := by
  rw [exS.eq_def]
  dsimp only
  rw [h]
  dsimp only
  rw [asT.eq_def]
  dsimp only
  rw [if_pos hi]
theorem evE_ofL {Φ : Nat → Fn} {l : L} {ρ : PS.Env} {M M1 : Store} {ds : List D} (h : evL Φ l ρ M = some (ds, M1)) : evE Φ (.ofL l) ρ M = some (.ref M1.length, M1 ++ [.lst ds]) := by
  rw [evE.eq_def]
  dsimp only
  rw [h]
def unit0 (j : Nat) : List Int := List.replicate (j + 1) 0 ++ [1]
def unit (m j : Nat) : List Int := unit0 j ++ List.replicate (m - 1 - j) 0
theorem num_pad (a : List Int) : ∀ n : Nat, num (a ++ List.replicate n 0) = num a := by
  intro n
  have h0 : ∀ n : Nat, num (List.replicate n (0 : Int)) = 0 := by
    intro n
    induction n with
    | zero => rfl
    | succ n ih =>
      show num (List.replicate n 0) * B + 0 = 0
      rw [ih]
      rfl
  induction a with
  | nil => exact h0 n
  | cons d a ih =>
    show num (a ++ List.replicate n 0) * B + d = num a * B + d
    rw [ih]
theorem unit_len {m j : Nat} (h : j < m) : (unit m j).length = m + 1 := by
  simp [unit, unit0]
  omega
theorem unit_dig (j : Nat) : Dig DB (unit0 j) := ⟨fun d m => by
  simp [unit0] at m
  rcases m with m | m
  · rw [m]; decide
  · rw [m]; decide, fun d m => by
  simp [unit0] at m
  rcases m with m | m
  · rw [m]; decide
  · rw [m]; decide⟩
def gsel (so : SO) (n : Str) (m j : Nat) : List Int := match so.find? (fun p => decide (p.1 = n)) with
  | some p => p.2.2
  | none => unit m j
theorem filter_find {so : SO} (nd : (so.map (·.1)).Nodup) (n : Str) : so.filter (fun p => decide (p.1 = n)) = (so.find? fun p => decide (p.1 = n)).toList := by
  induction so with
  | nil => rfl
  | cons p so ih =>
    rw [List.map_cons] at nd
    obtain ⟨n1, n2⟩ := List.nodup_cons.mp nd
    by_cases h : p.1 = n
    · rw [List.filter_cons_of_pos (by simpa using h), List.find?_cons_of_pos (by simpa using h)]
      have : so.filter (fun p => decide (p.1 = n)) = [] := by
        rw [List.filter_eq_nil_iff]
        intro q hq z
        have z : q.1 = n := by simpa using z
        exact n1 (by rw [h, ← z]; exact List.mem_map.mpr ⟨q, hq, rfl⟩)
      rw [this]
      rfl
    · rw [List.filter_cons_of_neg (by simpa using h), List.find?_cons_of_neg (by simpa using h)]
      exact ih n2
def bodyJ : Ss := (.cons (.asg (.name 15) (.ofL (.comp [("name", 17), ("digits", 18)] (.tup (.cons (.name 17) (.cons (.name 18) .nil))) (.q (.val (.var 12))) (.yes (.cmp .Eq (.var 17) (.idx (.val (.var 3)) (.var 14)))) (.var 18))))
  (.cons (.asg (.name 13) (.bin .Add (.var 13) (.bin .Mult (.idx (.val (.var 4)) (.bin .Add (.var 14) (.int 1))) (.idx (.lst (.cat (.lst (.comp [("digits", 18)] (.name 18) (.q (.val (.var 15))) .no (.call 13 (.cons (.var 18) .nil)))) (.lst (.disp (.cons (.call 13 (.cons (.ofL (.cat (.lst (.rep (.lst (.disp (.cons (.int 0) .nil))) (.bin .Add (.var 14) (.int 1)))) (.lst (.disp (.cons (.int 1) .nil))))) .nil)) .nil))))) (.int 0)))))
  .nil))
theorem Dig.big {a : List Int} (h : Dig DB a) : Dig 1000000000000000000000000000000 a := h.mono (by decide)
theorem unit_ev (W i : Nat) (hi : i < 4) (ρ : PS.Env) (h14 : ρ[14]? = some (some (.int i))) (S : Store) : evL (runF fds W 11) (.cat (.lst (.rep (.lst (.disp (.cons (.int 0) .nil))) (.bin .Add (.var 14) (.int 1)))) (.lst (.disp (.cons (.int 1) .nil)))) ρ S = some ((unit0 i).map D.int, S) := by
  have k1 : -(9223372036854775808 : Int) ≤ (i : Int) + 1 := by omega
  have k1b : (i : Int) + 1 < 9223372036854775808 := by omega
  have k1c : 1 * (i + 1) ≤ lim := by have : lim = 16777216 := rfl; omega
  have k2 : ((i : Int) + 1).toNat = i + 1 := by omega
  have k3 : (List.replicate (i + 1) [D.int 0]).flatten = List.replicate (i + 1) (D.int 0) := by simp
  have k4 : (List.replicate (i + 1) (D.int 0)).length + 1 ≤ lim := by have : lim = 16777216 := rfl; simp; omega
  have k5 : List.replicate (i + 1) (D.int 0) ++ [D.int 1] = (unit0 i).map D.int := by simp [unit0]
  simp only [exSs, exS, evE, evEs, evO, evP, evL, evQ, evI, asT, asTs, wipeD, List.map_cons, List.map_nil, List.getElem?_cons_zero, List.getElem?_cons_succ, List.getElem?_nil, List.set_cons_zero, List.set_cons_succ, List.length_cons, List.length_nil, Nat.reduceAdd, Nat.reduceLT, Nat.zero_lt_succ, Nat.succ_lt_succ_iff, if_true, if_false, ite_true, ite_false, Bool.false_eq_true, Bool.not_true, Bool.not_false, recv, mthS, keyOf, binS, putS, Option.map_some, Option.bind_some, Option.map_none, Option.bind_none, idxS, items, itemsL, itemsW, truth, lim0, lim1, lim2, lim3, lim4, lim5, h14, k1, k1b, k1c, and_self, k2, k3, k4, k5]
theorem call_num (W : Nat) (S : Store) (ρ : PS.Env) (l : L) (ds : List Int) (hl : evL (runF fds W 11) l ρ S = some (ds.map D.int, S)) (hr : runF fds W (9 + 2) 13 [.ref S.length] (S ++ [.lst (ds.map D.int)]) = some (.int (num ds), S ++ [.lst (ds.map D.int)])) : evL (runF fds W 11) (.disp (.cons (.call 13 (.cons (.ofL l) .nil)) .nil)) ρ S = some ([.int (num ds)], S ++ [.lst (ds.map D.int)]) := by
  simp only [exSs, exS, evE, evEs, evO, evP, evL, evQ, evI, asT, asTs, wipeD, List.map_cons, List.map_nil, List.getElem?_cons_zero, List.getElem?_cons_succ, List.getElem?_nil, List.set_cons_zero, List.set_cons_succ, List.length_cons, List.length_nil, Nat.reduceAdd, Nat.reduceLT, Nat.zero_lt_succ, Nat.succ_lt_succ_iff, if_true, if_false, ite_true, ite_false, Bool.false_eq_true, Bool.not_true, Bool.not_false, recv, mthS, keyOf, binS, putS, Option.map_some, Option.bind_some, Option.map_none, Option.bind_none, idxS, items, itemsL, itemsW, truth, lim0, lim1, lim2, lim3, lim4, lim5, hl, hr]
theorem total_turn (W st jn j1 js : Nat) (hn : jn ≠ st) (h1 : j1 ≠ st) (hs : js ≠ st) (names : List Str) (one : List Int) (so : SO) (M : Store) (hst : St M st) (hM1 : M[jn]? = some (.lst (names.map D.str))) (hM2 : M[j1]? = some (.lst (one.map D.int))) (hM3 : M[js]? = some (.lst (encSO so))) (hg : GoodSO st (names.length + 1) M so)
    (nd : (so.map (·.1)).Nodup) (hsl : so.length ≤ 4) (hn4 : names.length ≤ 4) (hl : one.length = names.length + 1) (ho : Dig DB one) (i : Nat) (hi : i < names.length) (tot : Int) (x0 x1 x2 x5 x6 x7 x8 x9 x10 x11 x14 x15 x16 x17 x18 : Option D) : ∃ (y15 : Option D) (M2 : Store),
    turnF (runF fds W 11) W (.name 14) bodyJ (.int i) [x0, x1, x2, some (.ref jn), some (.ref j1), x5, x6, x7, x8, x9, x10, x11, some (.ref js), some (.int tot), x14, x15, x16, x17, x18] M = some (.nx, [x0, x1, x2, some (.ref jn), some (.ref j1), x5, x6, x7, x8, x9, x10, x11, some (.ref js), some (.int (tot + one.tail.getD i 0 * num (gsel so (names.getD i "") names.length i))), some (.int i), y15, x16, x17, x18], M2)
      ∧ Nx st M M2 := by
  have hi2 : i + 1 < one.length := by omega
  have a1 : atI (names.map D.str) (i : Int) = some (.str names[i]) := atI_nat (by rw [List.getElem?_map, List.getElem?_eq_getElem hi]; rfl)
  have a2 : atI (one.map D.int) ((i : Int) + 1) = some (.int one[i + 1]) := by
    have : ((i : Int) + 1) = ((i + 1 : Nat) : Int) := by omega
    rw [this]
    exact atI_nat (by rw [List.getElem?_map, List.getElem?_eq_getElem hi2]; rfl)
  have t1 : one.tail.getD i 0 = one[i + 1] := by
    rw [List.getD_eq_getElem?_getD, List.getElem?_tail, List.getElem?_eq_getElem hi2]
    rfl
  have t2 : names.getD i "" = names[i] := by simp [hi]
  rw [t1, t2]
  have e2 : ∀ x y : Str, (plainD (.str x) && plainD (.str y)) = true := fun _ _ => rfl
  have e3 : ∀ x y : Str, eqD (.str x) (.str y) = (x == y) := fun _ _ => rfl
  -- the list of what was told
  have hT := evL_mapL (Φ := runF fds W 11) (fun p : Str × Nat × List Int => D.tup [.str p.1, .ref p.2.1]) (fun p => if p.1 = names[i] then some (D.ref p.2.1) else none) (own := [("name", 17), ("digits", 18)]) (t := .tup (.cons (.name 17) (.cons (.name 18) .nil))) (it := .q (.val (.var 12))) (c := .yes (.cmp .Eq (.var 17) (.idx (.val (.var 3)) (.var 14)))) (elt := .var 18)
    (ρ := [x0, x1, x2, some (.ref jn), some (.ref j1), x5, x6, x7, x8, x9, x10, x11, some (.ref js), some (.int tot), some (.int i), x15, x16, x17, x18]) (M := M) (M1 := M) (ok := stands (.val (.ref js)) (encSO so)) (l := so) (by
      simp only [exSs, exS, evE, evEs, evO, evP, evL, evQ, evI, asT, asTs, wipeD, List.map_cons, List.map_nil, List.getElem?_cons_zero, List.getElem?_cons_succ, List.getElem?_nil, List.set_cons_zero, List.set_cons_succ, List.length_cons, List.length_nil, Nat.reduceAdd, Nat.reduceLT, Nat.zero_lt_succ, Nat.succ_lt_succ_iff, if_true, if_false, ite_true, ite_false, Bool.false_eq_true, Bool.not_true, Bool.not_false, recv, mthS, keyOf, binS, putS, Option.map_some, Option.bind_some, Option.map_none, Option.bind_none, idxS, items, itemsL, itemsW, truth, lim0, lim1, lim2, lim3, lim4, lim5, listAt, hM3]
      rfl) (by
      show decide (listAt M js = some (encSO so)) = true
      unfold listAt
      rw [hM3]
      simp) (by omega) (fun p hp => by
      unfold turnC
      simp only [exSs, exS, evE, evEs, evO, evP, evL, evQ, evI, asT, asTs, wipeD, List.map_cons, List.map_nil, List.getElem?_cons_zero, List.getElem?_cons_succ, List.getElem?_nil, List.set_cons_zero, List.set_cons_succ, List.length_cons, List.length_nil, Nat.reduceAdd, Nat.reduceLT, Nat.zero_lt_succ, Nat.succ_lt_succ_iff, if_true, if_false, ite_true, ite_false, Bool.false_eq_true, Bool.not_true, Bool.not_false, recv, mthS, keyOf, binS, putS, Option.map_some, Option.bind_some, Option.map_none, Option.bind_none, idxS, items, itemsL, itemsW, truth, lim0, lim1, lim2, lim3, lim4, lim5, hM1, a1, cmpS, e2, e3]
      by_cases hx : p.1 = names[i]
      · have : (p.1 == names[i]) = true := by simpa using hx
        rw [this, if_pos hx]
        try rfl
      · have : (p.1 == names[i]) = false := by simpa using hx
        rw [this, if_neg hx]
        try rfl)
  have hT2 : so.filterMap (fun p => if p.1 = names[i] then some (D.ref p.2.1) else none) = (so.filter fun p => decide (p.1 = names[i])).map fun p => D.ref p.2.1 := by
    rw [← List.filterMap_eq_map, List.filterMap_filter]
    congr 1
    funext p
    by_cases hx : p.1 = names[i] <;> simp [hx]
  rw [hT2] at hT
  generalize hF : so.filter (fun p => decide (p.1 = names[i])) = F at hT
  have hFg : ∀ p ∈ F, p ∈ so := fun p hp => by rw [← hF] at hp; exact (List.mem_filter.mp hp).1
  have hFl : F.length ≤ so.length := by rw [← hF]; exact List.length_filter_le _ _
  have hFf := filter_find nd names[i]
  rw [hF] at hFf
  -- its numbers
  have nx1 : Nx st M (M ++ [MO.lst (F.map fun p => D.ref p.2.1)]) := Nx.app hst
  have hg1 := hg.nx nx1
  have hA := evL_mapL (Φ := runF fds W 11) (fun p : Str × Nat × List Int => D.ref p.2.1) (fun p => some (D.int (num p.2.2))) (own := [("digits", 18)]) (t := .name 18) (it := .q (.val (.var 15))) (c := .no) (elt := .call 13 (.cons (.var 18) .nil))
    (ρ := [x0, x1, x2, some (.ref jn), some (.ref j1), x5, x6, x7, x8, x9, x10, x11, some (.ref js), some (.int tot), some (.int i), some (.ref M.length), x16, x17, x18]) (M := M ++ [MO.lst (F.map fun p => D.ref p.2.1)]) (M1 := M ++ [MO.lst (F.map fun p => D.ref p.2.1)]) (ok := stands (.val (.ref M.length)) (F.map fun p => D.ref p.2.1)) (l := F) (by
      simp only [exSs, exS, evE, evEs, evO, evP, evL, evQ, evI, asT, asTs, wipeD, List.map_cons, List.map_nil, List.getElem?_cons_zero, List.getElem?_cons_succ, List.getElem?_nil, List.set_cons_zero, List.set_cons_succ, List.length_cons, List.length_nil, Nat.reduceAdd, Nat.reduceLT, Nat.zero_lt_succ, Nat.succ_lt_succ_iff, if_true, if_false, ite_true, ite_false, Bool.false_eq_true, Bool.not_true, Bool.not_false, recv, mthS, keyOf, binS, putS, Option.map_some, Option.bind_some, Option.map_none, Option.bind_none, idxS, items, itemsL, itemsW, truth, lim0, lim1, lim2, lim3, lim4, lim5, listAt, at_last]) (by
      show decide (listAt _ _ = _) = true
      unfold listAt
      rw [at_last]
      simp) (by omega) (fun p hp => by
      have hr := num_run W 9 (j := p.2.1) (ds := p.2.2) (M ++ [MO.lst (F.map fun p => D.ref p.2.1)]) (hg1.at_ p (hFg p hp)) (hg.dig p (hFg p hp)).big (by have := hg.len p (hFg p hp); omega)
      unfold turnC
      simp only [exSs, exS, evE, evEs, evO, evP, evL, evQ, evI, asT, asTs, wipeD, List.map_cons, List.map_nil, List.getElem?_cons_zero, List.getElem?_cons_succ, List.getElem?_nil, List.set_cons_zero, List.set_cons_succ, List.length_cons, List.length_nil, Nat.reduceAdd, Nat.reduceLT, Nat.zero_lt_succ, Nat.succ_lt_succ_iff, if_true, if_false, ite_true, ite_false, Bool.false_eq_true, Bool.not_true, Bool.not_false, recv, mthS, keyOf, binS, putS, Option.map_some, Option.bind_some, Option.map_none, Option.bind_none, idxS, items, itemsL, itemsW, truth, lim0, lim1, lim2, lim3, lim4, lim5, hr])
  -- the unit
  have hru := num_run W 9 (j := (M ++ [MO.lst (F.map fun p => D.ref p.2.1)]).length) (ds := unit0 i) ((M ++ [MO.lst (F.map fun p => D.ref p.2.1)]) ++ [MO.lst ((unit0 i).map D.int)]) (at_last _ _) (unit_dig i).big (by simp [unit0]; omega)
  have hU : evL (runF fds W 11) (.disp (.cons (.call 13 (.cons (.ofL (.cat (.lst (.rep (.lst (.disp (.cons (.int 0) .nil))) (.bin .Add (.var 14) (.int 1)))) (.lst (.disp (.cons (.int 1) .nil))))) .nil)) .nil)) [x0, x1, x2, some (.ref jn), some (.ref j1), x5, x6, x7, x8, x9, x10, x11, some (.ref js), some (.int tot), some (.int i), some (.ref M.length), x16, x17, x18] (M ++ [MO.lst (F.map fun p => D.ref p.2.1)]) = some ([.int (num (unit0 i))], (M ++ [MO.lst (F.map fun p => D.ref p.2.1)]) ++ [MO.lst ((unit0 i).map D.int)]) := by
    exact call_num W _ _ _ _ (unit_ev W i (by omega) _ rfl _) hru
  have hC := evL_cat (evQ_lst hA) (evQ_lst hU) (by simp; have := List.length_filterMap_le (fun p : Str × Nat × List Int => some (D.int (num p.2.2))) F; omega)
  have hH : atI (F.filterMap (fun p => some (D.int (num p.2.2))) ++ [D.int (num (unit0 i))]) 0 = some (D.int (num (gsel so names[i] names.length i))) := by
    unfold gsel
    rw [hFf]
    cases so.find? (fun p => decide (p.1 = names[i])) with
    | none =>
      show atI [D.int (num (unit0 i))] 0 = _
      rw [show num (unit names.length i) = num (unit0 i) from num_pad _ _]
      rfl
    | some p => rfl
  have hI := (evE_idx (evQ_lst hC) (i := .int 0) (y := D.int 0) (M2 := (M ++ [MO.lst (F.map fun p => D.ref p.2.1)]) ++ [MO.lst ((unit0 i).map D.int)]) (by simp only [exSs, exS, evE, evEs, evO, evP, evL, evQ, evI, asT, asTs, wipeD, List.map_cons, List.map_nil, List.getElem?_cons_zero, List.getElem?_cons_succ, List.getElem?_nil, List.set_cons_zero, List.set_cons_succ, List.length_cons, List.length_nil, Nat.reduceAdd, Nat.reduceLT, Nat.zero_lt_succ, Nat.succ_lt_succ_iff, if_true, if_false, ite_true, ite_false, Bool.false_eq_true, Bool.not_true, Bool.not_false, recv, mthS, keyOf, binS, putS, Option.map_some, Option.bind_some, Option.map_none, Option.bind_none, idxS, items, itemsL, itemsW, truth, lim0, lim1, lim2, lim3, lim4, lim5])).trans (show ((atI (F.filterMap (fun p => some (D.int (num p.2.2))) ++ [D.int (num (unit0 i))]) 0).map fun d => (d, (M ++ [MO.lst (F.map fun p => D.ref p.2.1)]) ++ [MO.lst ((unit0 i).map D.int)])) = some (D.int (num (gsel so names[i] names.length i)), (M ++ [MO.lst (F.map fun p => D.ref p.2.1)]) ++ [MO.lst ((unit0 i).map D.int)]) by rw [hH]; rfl)
  have hm : mulOk one[i + 1] (num (gsel so names[i] names.length i)) = true := mulOk_small (by
    have b1 := ho.lo one[i + 1] (List.getElem_mem hi2)
    have b2 := ho.hi one[i + 1] (List.getElem_mem hi2)
    unfold DB at b1 b2
    omega)
  have hM2' : (M ++ [MO.lst (F.map fun p => D.ref p.2.1)])[j1]? = some (.lst (one.map D.int)) := at_old hM2
  have hE := evE_bin (o := .Mult) (show evE (runF fds W 11) (.idx (.val (.var 4)) (.bin .Add (.var 14) (.int 1))) [x0, x1, x2, some (.ref jn), some (.ref j1), x5, x6, x7, x8, x9, x10, x11, some (.ref js), some (.int tot), some (.int i), some (.ref M.length), x16, x17, x18] (M ++ [MO.lst (F.map fun p => D.ref p.2.1)]) = some (.int one[i + 1], M ++ [MO.lst (F.map fun p => D.ref p.2.1)]) by simp only [exSs, exS, evE, evEs, evO, evP, evL, evQ, evI, asT, asTs, wipeD, List.map_cons, List.map_nil, List.getElem?_cons_zero, List.getElem?_cons_succ, List.getElem?_nil, List.set_cons_zero, List.set_cons_succ, List.length_cons, List.length_nil, Nat.reduceAdd, Nat.reduceLT, Nat.zero_lt_succ, Nat.succ_lt_succ_iff, if_true, if_false, ite_true, ite_false, Bool.false_eq_true, Bool.not_true, Bool.not_false, recv, mthS, keyOf, binS, putS, Option.map_some, Option.bind_some, Option.map_none, Option.bind_none, idxS, items, itemsL, itemsW, truth, lim0, lim1, lim2, lim3, lim4, lim5, hM2', a2]) hI
  have hE2 := hE.trans (show binS .Mult (.int one[i + 1]) (.int (num (gsel so names[i] names.length i))) ((M ++ [MO.lst (F.map fun p => D.ref p.2.1)]) ++ [MO.lst ((unit0 i).map D.int)]) = some (D.int (one[i + 1] * num (gsel so names[i] names.length i)), (M ++ [MO.lst (F.map fun p => D.ref p.2.1)]) ++ [MO.lst ((unit0 i).map D.int)]) by
    simp only [binS, hm, if_true])
  have hE3 := (evE_bin (o := .Add) (show evE (runF fds W 11) (.var 13) [x0, x1, x2, some (.ref jn), some (.ref j1), x5, x6, x7, x8, x9, x10, x11, some (.ref js), some (.int tot), some (.int i), some (.ref M.length), x16, x17, x18] (M ++ [MO.lst (F.map fun p => D.ref p.2.1)]) = some (.int tot, M ++ [MO.lst (F.map fun p => D.ref p.2.1)]) by simp only [exSs, exS, evE, evEs, evO, evP, evL, evQ, evI, asT, asTs, wipeD, List.map_cons, List.map_nil, List.getElem?_cons_zero, List.getElem?_cons_succ, List.getElem?_nil, List.set_cons_zero, List.set_cons_succ, List.length_cons, List.length_nil, Nat.reduceAdd, Nat.reduceLT, Nat.zero_lt_succ, Nat.succ_lt_succ_iff, if_true, if_false, ite_true, ite_false, Bool.false_eq_true, Bool.not_true, Bool.not_false, recv, mthS, keyOf, binS, putS, Option.map_some, Option.bind_some, Option.map_none, Option.bind_none, idxS, items, itemsL, itemsW, truth, lim0, lim1, lim2, lim3, lim4, lim5]) hE2).trans (show binS .Add (.int tot) (.int (one[i + 1] * num (gsel so names[i] names.length i))) ((M ++ [MO.lst (F.map fun p => D.ref p.2.1)]) ++ [MO.lst ((unit0 i).map D.int)]) = some (D.int (tot + one[i + 1] * num (gsel so names[i] names.length i)), (M ++ [MO.lst (F.map fun p => D.ref p.2.1)]) ++ [MO.lst ((unit0 i).map D.int)]) by simp only [binS])
  refine ⟨some (.ref M.length), (M ++ [MO.lst (F.map fun p => D.ref p.2.1)]) ++ [MO.lst ((unit0 i).map D.int)], ?_, nx1.appNew⟩
  unfold turnF
  rw [asT.eq_def]
  dsimp only
  rw [if_pos (by simp)]
  dsimp only [List.set_cons_succ, List.set_cons_zero]
  unfold bodyJ
  rw [exSs_nx (ρ1 := [x0, x1, x2, some (.ref jn), some (.ref j1), x5, x6, x7, x8, x9, x10, x11, some (.ref js), some (.int tot), some (.int i), some (.ref M.length), x16, x17, x18]) (M1 := M ++ [MO.lst (F.map fun p => D.ref p.2.1)]) (exS_asgN (evE_ofL hT) (by simp))]
  rw [exSs_nx (exS_asgN hE3 (by simp))]
  rw [exSs.eq_def]
  rfl
end K45

set_option Elab.async false
set_option linter.all false
set_option maxRecDepth 100000
set_option maxHeartbeats 4000000
/-! L45p: the law's total as a whole; the law's statements, one by one. -/
namespace K45
open PySem L2 PS
def trm (one : List Int) (names : List Str) (so : SO) (i : Nat) : Int := one.tail.getD i 0 * num (gsel so (names.getD i "") names.length i)
theorem total_loop (W st jn j1 js : Nat) (hn : jn ≠ st) (h1 : j1 ≠ st) (hs : js ≠ st) (names : List Str) (one : List Int) (so : SO) (nd : (so.map (·.1)).Nodup) (hsl : so.length ≤ 4) (hn4 : names.length ≤ 4) (hl : one.length = names.length + 1) (ho : Dig DB one) (x0 x1 x2 x5 x6 x7 x8 x9 x10 x11 x16 x17 x18 : Option D) :
    ∀ (r i : Nat), i + r = names.length → ∀ (tot : Int) (x14 x15 : Option D) (M : Store), St M st → M[jn]? = some (.lst (names.map D.str)) → M[j1]? = some (.lst (one.map D.int)) → M[js]? = some (.lst (encSO so)) → GoodSO st (names.length + 1) M so → ∃ (y14 y15 : Option D) (M2 : Store),
    forG (fun _ => true) (turnF (runF fds W 11) W (.name 14) bodyJ) ((rng0 names.length).drop i) [x0, x1, x2, some (.ref jn), some (.ref j1), x5, x6, x7, x8, x9, x10, x11, some (.ref js), some (.int tot), x14, x15, x16, x17, x18] M = some (.nx, [x0, x1, x2, some (.ref jn), some (.ref j1), x5, x6, x7, x8, x9, x10, x11, some (.ref js), some (.int (tot + (((List.range names.length).drop i).map (trm one names so)).sum)), y14, y15, x16, x17, x18], M2)
      ∧ Nx st M M2 := by
  intro r
  induction r with
  | zero =>
    intro i hi tot x14 x15 M hst hM1 hM2 hM3 hg
    refine ⟨x14, x15, M, ?_, Nx.refl hst⟩
    rw [List.drop_eq_nil_of_le (by simp [rng0]; omega), List.drop_eq_nil_of_le (by simp; omega), forG, if_pos rfl]
    simp
  | succ r ih =>
    intro i hi tot x14 x15 M hst hM1 hM2 hM3 hg
    have hi1 : i < names.length := by omega
    obtain ⟨y15, M1, e1, nx1⟩ := total_turn W st jn j1 js hn h1 hs names one so M hst hM1 hM2 hM3 hg nd hsl hn4 hl ho i hi1 tot x0 x1 x2 x5 x6 x7 x8 x9 x10 x11 x14 x15 x16 x17 x18
    obtain ⟨z14, z15, M2, lp, nx2⟩ := ih (i + 1) (by omega) (tot + trm one names so i) (some (.int i)) y15 M1 nx1.st (nx1.old _ _ hn hM1) (nx1.old _ _ h1 hM2) (nx1.old _ _ hs hM3) (hg.nx nx1)
    refine ⟨z14, z15, M2, ?_, nx1.trans nx2⟩
    have e2 : (List.range names.length).drop i = i :: (List.range names.length).drop (i + 1) := by
      rw [List.drop_eq_getElem_cons (by simpa using hi1)]
      simp
    rw [rng0_drop hi1, e2, List.map_cons, List.sum_cons, ← Int.add_assoc]
    exact (forG_nx rfl e1).trans lp
def Gsel (names : List Str) (so : SO) : List (List Int) := (List.range names.length).map fun j => gsel so (names.getD j "") names.length j
theorem gsel_len {names : List Str} {so : SO} (h : ∀ p ∈ so, p.2.2.length = names.length + 1) {n : Str} {j : Nat} (hj : j < names.length) : (gsel so n names.length j).length = names.length + 1 := by
  unfold gsel
  cases e : so.find? (fun p => decide (p.1 = n)) with
  | none => exact unit_len hj
  | some p => exact h p (List.mem_of_find?_eq_some e)
theorem total_num {names : List Str} {one : List Int} {so : SO} (h : ∀ p ∈ so, p.2.2.length = names.length + 1) (hl : one.length = names.length + 1) :
    one.headD 0 + ((List.range names.length).map (trm one names so)).sum = num (comb (one.headD 0 :: List.replicate names.length 0) (one.tail.zip (Gsel names so))) := by
  have hG : ∀ p ∈ one.tail.zip (Gsel names so), p.2.length = names.length + 1 := fun p hp => by
    obtain ⟨j, hj, e⟩ := List.mem_map.mp (List.of_mem_zip hp).2
    rw [← e]
    exact gsel_len h (by simpa using hj)
  have := (comb_lin (n := names.length + 1) (φ := num) (fun a b ha hb => num_add (by rw [ha, hb])) num_smul (one.tail.zip (Gsel names so)) (one.headD 0 :: List.replicate names.length 0) (by simp) hG).1
  rw [this]
  have h0 : num (one.headD 0 :: List.replicate names.length 0) = one.headD 0 := by
    have := num_pad [one.headD 0] names.length
    rw [List.singleton_append] at this
    rw [this]
    show 0 * B + one.headD 0 = _
    omega
  rw [h0]
  congr 2
  apply List.ext_getElem
  · simp [Gsel, hl]
  · intro j h1 h2
    have hj : j < names.length := by simpa using h1
    have ht : j < one.tail.length := by rw [List.length_tail]; omega
    simp only [List.getElem_map, List.getElem_zip, List.getElem_range, Gsel]
    unfold trm
    rw [List.getD_eq_getElem?_getD, List.getElem?_eq_getElem ht]
    rfl
/-! ### statements, with the calls as they may be -/
section
variable {Φ : Nat → Fn} {W : Nat} {ρ : PS.Env}
theorem exS_asg2 {i j : Nat} {e : E} {M M1 : Store} {d1 d2 : D} (h : evE Φ e ρ M = some (.tup [d1, d2], M1)) (hi : i < ρ.length) (hj : j < ρ.length) : exS Φ W (.asg (.tup (.cons (.name i) (.cons (.name j) .nil))) e) ρ M = some (.nx, (ρ.set i (some d1)).set j (some d2), M1) := by
  rw [exS.eq_def]
  dsimp only
  rw [h]
  dsimp only
  rw [asT.eq_def]
  dsimp only
  rw [asTs.eq_def]
  dsimp only
  rw [asT.eq_def]
  dsimp only
  rw [if_pos hi]
  dsimp only
  rw [asTs.eq_def]
  dsimp only
  rw [asT.eq_def]
  dsimp only
  rw [if_pos (by simpa using hj)]
  dsimp only
  rw [asTs.eq_def]
theorem st0_ev {st jx jy : Nat} {xs : List Str} {v : Int} {M M1 M2 : Store} (r1 : ρ[1]? = some (some (.ref st))) (h8 : Φ 8 [.ref st, .ref M.length] (M ++ [.lst [D.str "s0", .str "s1", .str "@n", .str "t"]]) = some (.ref jx, M1)) (h7 : Φ 7 [.ref st, .int 4] M1 = some (.int v, M2)) (hx : M2[jx]? = some (.lst (xs.map D.str))) :
    evE Φ (.slc (.call 8 (.cons (.var 1) (.cons (.ofL (.disp (.cons (.str "s0") (.cons (.str "s1") (.cons (.str "@n") (.cons (.str "t") .nil)))))) .nil))) .no (.yes (.bin .Add (.int 1) (.call 7 (.cons (.var 1) (.cons (.int 4) .nil)))))) ρ M = some (.ref M2.length, M2 ++ [.lst (cutD (xs.map D.str) none (some (1 + v)))]) := by
  simp only [exSs, exS, evE, evEs, evO, evP, evL, evQ, evI, asT, asTs, wipeD, List.map_cons, List.map_nil, List.getElem?_cons_zero, List.getElem?_cons_succ, List.getElem?_nil, List.set_cons_zero, List.set_cons_succ, List.length_cons, List.length_nil, Nat.reduceAdd, Nat.reduceLT, Nat.zero_lt_succ, Nat.succ_lt_succ_iff, if_true, if_false, ite_true, ite_false, Bool.false_eq_true, Bool.not_true, Bool.not_false, recv, mthS, keyOf, binS, putS, Option.map_some, Option.bind_some, Option.map_none, Option.bind_none, idxS, items, itemsL, itemsW, truth, lim0, lim1, lim2, lim3, lim4, lim5, r1, h8, h7, slcS, listAt, hx]
theorem evE_call2 {f : Nat} {a b : E} {M M1 M2 : Store} {x y : D} (ha : evE Φ a ρ M = some (x, M1)) (hb : evE Φ b ρ M1 = some (y, M2)) : evE Φ (.call f (.cons a (.cons b .nil))) ρ M = Φ f [x, y] M2 := by
  rw [evE.eq_def]
  dsimp only
  rw [evEs.eq_def]
  dsimp only
  rw [ha]
  dsimp only
  rw [evEs.eq_def]
  dsimp only
  rw [hb]
  dsimp only
  rw [evEs.eq_def]
theorem evE_tup2 {a b : E} {M M1 M2 : Store} {x y : D} (ha : evE Φ a ρ M = some (x, M1)) (hb : evE Φ b ρ M1 = some (y, M2)) : evE Φ (.tup (.cons a (.cons b .nil))) ρ M = some (.tup [x, y], M2) := by
  rw [evE.eq_def]
  dsimp only
  rw [evEs.eq_def]
  dsimp only
  rw [ha]
  dsimp only
  rw [evEs.eq_def]
  dsimp only
  rw [hb]
  dsimp only
  rw [evEs.eq_def]
  dsimp only
  rw [if_pos (show [x, y].length ≤ lim from lim2)]
theorem st1_ev {st jn j1 j2 : Nat} {names : List Str} {M M1 M2 : Store} (r1 : ρ[1]? = some (some (.ref st))) (r3 : ρ[3]? = some (some (.ref jn))) (hn : M[jn]? = some (.lst (names.map D.str))) (hn1 : M1[jn]? = some (.lst (names.map D.str)))
    (h1 : Φ 14 [.ref st, .int ((names.length : Int) + 1)] M = some (.ref j1, M1)) (h2 : Φ 14 [.ref st, .int ((names.length : Int) + 1)] M1 = some (.ref j2, M2)) :
    evE Φ (.tup (.cons (.call 14 (.cons (.var 1) (.cons (.bin .Add (.agg .len (.val (.var 3))) (.int 1)) .nil))) (.cons (.call 14 (.cons (.var 1) (.cons (.bin .Add (.agg .len (.val (.var 3))) (.int 1)) .nil))) .nil))) ρ M = some (.tup [.ref j1, .ref j2], M2) := by
  have a1 : ∀ M : Store, M[jn]? = some (.lst (names.map D.str)) → evE Φ (.bin .Add (.agg .len (.val (.var 3))) (.int 1)) ρ M = some (.int ((names.length : Int) + 1), M) := fun M h => by
    simp only [exSs, exS, evE, evEs, evO, evP, evL, evQ, evI, asT, asTs, wipeD, List.map_cons, List.map_nil, List.getElem?_cons_zero, List.getElem?_cons_succ, List.getElem?_nil, List.set_cons_zero, List.set_cons_succ, List.length_cons, List.length_nil, Nat.reduceAdd, Nat.reduceLT, Nat.zero_lt_succ, Nat.succ_lt_succ_iff, if_true, if_false, ite_true, ite_false, Bool.false_eq_true, Bool.not_true, Bool.not_false, recv, mthS, keyOf, binS, putS, Option.map_some, Option.bind_some, Option.map_none, Option.bind_none, idxS, items, itemsL, itemsW, truth, lim0, lim1, lim2, lim3, lim4, lim5, r3, aggS, listAt, h, List.length_map]
  have v1 : ∀ M : Store, evE Φ (.var 1) ρ M = some (.ref st, M) := fun M => by simp only [exSs, exS, evE, evEs, evO, evP, evL, evQ, evI, asT, asTs, wipeD, List.map_cons, List.map_nil, List.getElem?_cons_zero, List.getElem?_cons_succ, List.getElem?_nil, List.set_cons_zero, List.set_cons_succ, List.length_cons, List.length_nil, Nat.reduceAdd, Nat.reduceLT, Nat.zero_lt_succ, Nat.succ_lt_succ_iff, if_true, if_false, ite_true, ite_false, Bool.false_eq_true, Bool.not_true, Bool.not_false, recv, mthS, keyOf, binS, putS, Option.map_some, Option.bind_some, Option.map_none, Option.bind_none, idxS, items, itemsL, itemsW, truth, lim0, lim1, lim2, lim3, lim4, lim5, r1]
  exact evE_tup2 ((evE_call2 (v1 _) (a1 _ hn)).trans h1) ((evE_call2 (v1 _) (a1 _ hn1)).trans h2)
theorem st2_ev {j1 j2 : Nat} {a b : Int} {M : Store} (r4 : ρ[4]? = some (some (.ref j1))) (r5 : ρ[5]? = some (some (.ref j2))) (h1 : Φ 13 [.ref j1] M = some (.int a, M)) (h2 : Φ 13 [.ref j2] M = some (.int b, M)) :
    evE Φ (.tup (.cons (.call 13 (.cons (.var 4) .nil)) (.cons (.call 13 (.cons (.var 5) .nil)) .nil))) ρ M = some (.tup [.int a, .int b], M) := by
  simp only [exSs, exS, evE, evEs, evO, evP, evL, evQ, evI, asT, asTs, wipeD, List.map_cons, List.map_nil, List.getElem?_cons_zero, List.getElem?_cons_succ, List.getElem?_nil, List.set_cons_zero, List.set_cons_succ, List.length_cons, List.length_nil, Nat.reduceAdd, Nat.reduceLT, Nat.zero_lt_succ, Nat.succ_lt_succ_iff, if_true, if_false, ite_true, ite_false, Bool.false_eq_true, Bool.not_true, Bool.not_false, recv, mthS, keyOf, binS, putS, Option.map_some, Option.bind_some, Option.map_none, Option.bind_none, idxS, items, itemsL, itemsW, truth, lim0, lim1, lim2, lim3, lim4, lim5, r4, r5, h1, h2]
theorem st3_ev {jn : Nat} {a b : Int} {f g : D} {M : Store} (r3 : ρ[3]? = some (some (.ref jn))) (r6 : ρ[6]? = some (some (.int a))) (r7 : ρ[7]? = some (some (.int b))) (h1 : Φ 12 [.int a, .ref jn] M = some (f, M)) (h2 : Φ 12 [.int b, .ref jn] M = some (g, M)) :
    evE Φ (.tup (.cons (.call 12 (.cons (.var 6) (.cons (.var 3) .nil))) (.cons (.call 12 (.cons (.var 7) (.cons (.var 3) .nil))) .nil))) ρ M = some (.tup [f, g], M) := by
  simp only [exSs, exS, evE, evEs, evO, evP, evL, evQ, evI, asT, asTs, wipeD, List.map_cons, List.map_nil, List.getElem?_cons_zero, List.getElem?_cons_succ, List.getElem?_nil, List.set_cons_zero, List.set_cons_succ, List.length_cons, List.length_nil, Nat.reduceAdd, Nat.reduceLT, Nat.zero_lt_succ, Nat.succ_lt_succ_iff, if_true, if_false, ite_true, ite_false, Bool.false_eq_true, Bool.not_true, Bool.not_false, recv, mthS, keyOf, binS, putS, Option.map_some, Option.bind_some, Option.map_none, Option.bind_none, idxS, items, itemsL, itemsW, truth, lim0, lim1, lim2, lim3, lim4, lim5, r3, r6, r7, h1, h2]
theorem st4_ev {st jn j1 j2 : Nat} {one other : List Int} {c1 c2 : Int} {p1 p2 f g : D} {M M1 M2 : Store} (r1 : ρ[1]? = some (some (.ref st))) (r3 : ρ[3]? = some (some (.ref jn))) (r4 : ρ[4]? = some (some (.ref j1))) (r5 : ρ[5]? = some (some (.ref j2))) (r8 : ρ[8]? = some (some f)) (r9 : ρ[9]? = some (some g))
    (m1 : M[j1]? = some (.lst (one.map D.int))) (m2 : M1[j2]? = some (.lst (other.map D.int))) (a1 : atI (one.map D.int) 0 = some (.int c1)) (a2 : atI (other.map D.int) 0 = some (.int c2))
    (h1 : Φ 15 [.ref st, .ref jn, .ref j1] M = some (p1, M1)) (h2 : Φ 0 [.int c1, p1] M1 = some (f, M1)) (h3 : Φ 15 [.ref st, .ref jn, .ref j2] M1 = some (p2, M2)) (h4 : Φ 0 [.int c2, p2] M2 = some (g, M2)) (h5 : Φ 10 [.tup [f, g], .tup [f, g]] M2 = some (.bl true, M2)) :
    evE Φ (.nt (.call 10 (.cons (.tup (.cons (.call 0 (.cons (.idx (.val (.var 4)) (.int 0)) (.cons (.call 15 (.cons (.var 1) (.cons (.var 3) (.cons (.var 4) .nil)))) .nil))) (.cons (.call 0 (.cons (.idx (.val (.var 5)) (.int 0)) (.cons (.call 15 (.cons (.var 1) (.cons (.var 3) (.cons (.var 5) .nil)))) .nil))) .nil))) (.cons (.tup (.cons (.var 8) (.cons (.var 9) .nil))) .nil)))) ρ M = some (.bl false, M2) := by
  simp only [exSs, exS, evE, evEs, evO, evP, evL, evQ, evI, asT, asTs, wipeD, List.map_cons, List.map_nil, List.getElem?_cons_zero, List.getElem?_cons_succ, List.getElem?_nil, List.set_cons_zero, List.set_cons_succ, List.length_cons, List.length_nil, Nat.reduceAdd, Nat.reduceLT, Nat.zero_lt_succ, Nat.succ_lt_succ_iff, if_true, if_false, ite_true, ite_false, Bool.false_eq_true, Bool.not_true, Bool.not_false, recv, mthS, keyOf, binS, putS, Option.map_some, Option.bind_some, Option.map_none, Option.bind_none, idxS, items, itemsL, itemsW, truth, lim0, lim1, lim2, lim3, lim4, lim5, r1, r3, r4, r5, r8, r9, m1, m2, a1, a2, h1, h2, h3, h4, h5]
theorem st5_ev {st : Nat} {v : Int} {M M1 : Store} (r1 : ρ[1]? = some (some (.ref st))) (h : Φ 7 [.ref st, .int 41] M = some (.int v, M1)) : evE Φ (.bin .Sub (.call 7 (.cons (.var 1) (.cons (.int 41) .nil))) (.int 20)) ρ M = some (.int (v - 20), M1) := by
  simp only [exSs, exS, evE, evEs, evO, evP, evL, evQ, evI, asT, asTs, wipeD, List.map_cons, List.map_nil, List.getElem?_cons_zero, List.getElem?_cons_succ, List.getElem?_nil, List.set_cons_zero, List.set_cons_succ, List.length_cons, List.length_nil, Nat.reduceAdd, Nat.reduceLT, Nat.zero_lt_succ, Nat.succ_lt_succ_iff, if_true, if_false, ite_true, ite_false, Bool.false_eq_true, Bool.not_true, Bool.not_false, recv, mthS, keyOf, binS, putS, Option.map_some, Option.bind_some, Option.map_none, Option.bind_none, idxS, items, itemsL, itemsW, truth, lim0, lim1, lim2, lim3, lim4, lim5, r1, h]
theorem st6_ev {jn : Nat} {a b k : Int} {d1 d2 d3 d4 : D} {M : Store} (r3 : ρ[3]? = some (some (.ref jn))) (r6 : ρ[6]? = some (some (.int a))) (r7 : ρ[7]? = some (some (.int b))) (r10 : ρ[10]? = some (some (.int k))) (mk : ∀ x, mulOk k x = true) (h1 : Φ 12 [.int (a + b), .ref jn] M = some (d1, M)) (h2 : Φ 12 [.int (a - b), .ref jn] M = some (d2, M)) (h3 : Φ 12 [.int (k * a), .ref jn] M = some (d3, M)) (h4 : Φ 12 [.int (k * a - k * b), .ref jn] M = some (d4, M)) :
    evE Φ (.tup (.cons (.call 12 (.cons (.bin .Add (.var 6) (.var 7)) (.cons (.var 3) .nil))) (.cons (.call 12 (.cons (.bin .Sub (.var 6) (.var 7)) (.cons (.var 3) .nil))) (.cons (.call 12 (.cons (.bin .Mult (.var 10) (.var 6)) (.cons (.var 3) .nil))) (.cons (.call 12 (.cons (.bin .Sub (.bin .Mult (.var 10) (.var 6)) (.bin .Mult (.var 10) (.var 7))) (.cons (.var 3) .nil))) .nil))))) ρ M = some (.tup [d1, d2, d3, d4], M) := by
  simp only [exSs, exS, evE, evEs, evO, evP, evL, evQ, evI, asT, asTs, wipeD, List.map_cons, List.map_nil, List.getElem?_cons_zero, List.getElem?_cons_succ, List.getElem?_nil, List.set_cons_zero, List.set_cons_succ, List.length_cons, List.length_nil, Nat.reduceAdd, Nat.reduceLT, Nat.zero_lt_succ, Nat.succ_lt_succ_iff, if_true, if_false, ite_true, ite_false, Bool.false_eq_true, Bool.not_true, Bool.not_false, recv, mthS, keyOf, binS, putS, Option.map_some, Option.bind_some, Option.map_none, Option.bind_none, idxS, items, itemsL, itemsW, truth, lim0, lim1, lim2, lim3, lim4, lim5, r3, r6, r7, r10, mk, h1, h2, h3, h4]
theorem st7_ev {f g due d1 d2 d3 d4 m : D} {k : Int} {M : Store} (r8 : ρ[8]? = some (some f)) (r9 : ρ[9]? = some (some g)) (r10 : ρ[10]? = some (some (.int k))) (r11 : ρ[11]? = some (some (.tup [d1, d2, d3, d4]))) (h1 : Φ 1 [f, g] M = some (d1, M)) (h2 : Φ 3 [f, g] M = some (d2, M)) (h3 : Φ 2 [.int k, f] M = some (d3, M)) (h4 : Φ 2 [.int k, d2] M = some (d4, M))
    (h5 : Φ 10 [.tup [d1, d2, d3, d4], .tup [d1, d2, d3, d4]] M = some (.bl true, M)) :
    evE Φ (.nt (.call 10 (.cons (.tup (.cons (.call 1 (.cons (.var 8) (.cons (.var 9) .nil))) (.cons (.call 3 (.cons (.var 8) (.cons (.var 9) .nil))) (.cons (.call 2 (.cons (.var 10) (.cons (.var 8) .nil))) (.cons (.call 2 (.cons (.var 10) (.cons (.call 3 (.cons (.var 8) (.cons (.var 9) .nil))) .nil))) .nil))))) (.cons (.var 11) .nil)))) ρ M = some (.bl false, M) := by
  simp only [exSs, exS, evE, evEs, evO, evP, evL, evQ, evI, asT, asTs, wipeD, List.map_cons, List.map_nil, List.getElem?_cons_zero, List.getElem?_cons_succ, List.getElem?_nil, List.set_cons_zero, List.set_cons_succ, List.length_cons, List.length_nil, Nat.reduceAdd, Nat.reduceLT, Nat.zero_lt_succ, Nat.succ_lt_succ_iff, if_true, if_false, ite_true, ite_false, Bool.false_eq_true, Bool.not_true, Bool.not_false, recv, mthS, keyOf, binS, putS, Option.map_some, Option.bind_some, Option.map_none, Option.bind_none, idxS, items, itemsL, itemsW, truth, lim0, lim1, lim2, lim3, lim4, lim5, r8, r9, r10, r11, h1, h2, h3, h4, h5]
theorem st9_ev {j1 : Nat} {one : List Int} {c : Int} {M : Store} (r4 : ρ[4]? = some (some (.ref j1))) (m1 : M[j1]? = some (.lst (one.map D.int))) (a1 : atI (one.map D.int) 0 = some (.int c)) : evE Φ (.idx (.val (.var 4)) (.int 0)) ρ M = some (.int c, M) := by
  simp only [exSs, exS, evE, evEs, evO, evP, evL, evQ, evI, asT, asTs, wipeD, List.map_cons, List.map_nil, List.getElem?_cons_zero, List.getElem?_cons_succ, List.getElem?_nil, List.set_cons_zero, List.set_cons_succ, List.length_cons, List.length_nil, Nat.reduceAdd, Nat.reduceLT, Nat.zero_lt_succ, Nat.succ_lt_succ_iff, if_true, if_false, ite_true, ite_false, Bool.false_eq_true, Bool.not_true, Bool.not_false, recv, mthS, keyOf, binS, putS, Option.map_some, Option.bind_some, Option.map_none, Option.bind_none, idxS, items, itemsL, itemsW, truth, lim0, lim1, lim2, lim3, lim4, lim5, r4, m1, a1]
theorem st11_ev {jn : Nat} {f d gs : D} {xs : List D} {tot : Int} {M : Store} {l : L} (r3 : ρ[3]? = some (some (.ref jn))) (r8 : ρ[8]? = some (some f)) (r13 : ρ[13]? = some (some (.int tot))) (hl : evL Φ l ρ M = some (xs, M)) (h1 : Φ 4 [f, .tup xs] M = some (d, M)) (h2 : Φ 12 [.int tot, .ref jn] M = some (d, M)) (h3 : Φ 10 [d, d] M = some (.bl true, M)) :
    evE Φ (.nt (.call 10 (.cons (.call 4 (.cons (.var 8) (.cons (.agg .tup (.lst l)) .nil))) (.cons (.call 12 (.cons (.var 13) (.cons (.var 3) .nil))) .nil)))) ρ M = some (.bl false, M) := by
  simp only [exSs, exS, evE, evEs, evO, evP, evQ, asT, asTs, wipeD, List.map_cons, List.map_nil, List.getElem?_cons_zero, List.getElem?_cons_succ, List.getElem?_nil, List.set_cons_zero, List.set_cons_succ, List.length_cons, List.length_nil, Nat.reduceAdd, Nat.reduceLT, Nat.zero_lt_succ, Nat.succ_lt_succ_iff, if_true, if_false, ite_true, ite_false, Bool.false_eq_true, Bool.not_true, Bool.not_false, recv, mthS, keyOf, binS, putS, Option.map_some, Option.bind_some, Option.map_none, Option.bind_none, idxS, items, itemsL, itemsW, truth, lim0, lim1, lim2, lim3, lim4, lim5, r3, r8, r13, hl, aggS, h1, h2, h3]
theorem st12_ev {st jn j : Nat} {names : List Str} {M M1 : Store} (r1 : ρ[1]? = some (some (.ref st))) (r3 : ρ[3]? = some (some (.ref jn))) (hn : M[jn]? = some (.lst (names.map D.str))) (h : Φ 14 [.ref st, .int (names.length : Int)] M = some (.ref j, M1)) :
    evE Φ (.call 14 (.cons (.var 1) (.cons (.agg .len (.val (.var 3))) .nil))) ρ M = some (.ref j, M1) := by
  simp only [exSs, exS, evE, evEs, evO, evP, evL, evQ, evI, asT, asTs, wipeD, List.map_cons, List.map_nil, List.getElem?_cons_zero, List.getElem?_cons_succ, List.getElem?_nil, List.set_cons_zero, List.set_cons_succ, List.length_cons, List.length_nil, Nat.reduceAdd, Nat.reduceLT, Nat.zero_lt_succ, Nat.succ_lt_succ_iff, if_true, if_false, ite_true, ite_false, Bool.false_eq_true, Bool.not_true, Bool.not_false, recv, mthS, keyOf, binS, putS, Option.map_some, Option.bind_some, Option.map_none, Option.bind_none, idxS, items, itemsL, itemsW, truth, lim0, lim1, lim2, lim3, lim4, lim5, r1, r3, aggS, listAt, hn, List.length_map, h]
theorem st13_ev {j1 : Nat} {one zs : List Int} {c : Int} {M : Store} {l : L} (r4 : ρ[4]? = some (some (.ref j1))) (m1 : M[j1]? = some (.lst (one.map D.int))) (a1 : atI (one.map D.int) 0 = some (.int c)) (hl : evL Φ l ρ M = some (zs.map D.int, M)) : evE Φ (.bin .Add (.idx (.val (.var 4)) (.int 0)) (.agg .sum (.lst l))) ρ M = some (.int (c + zs.sum), M) := by
  simp only [exSs, exS, evE, evEs, evO, evP, evQ, asT, asTs, wipeD, List.map_cons, List.map_nil, List.getElem?_cons_zero, List.getElem?_cons_succ, List.getElem?_nil, List.set_cons_zero, List.set_cons_succ, List.length_cons, List.length_nil, Nat.reduceAdd, Nat.reduceLT, Nat.zero_lt_succ, Nat.succ_lt_succ_iff, if_true, if_false, ite_true, ite_false, Bool.false_eq_true, Bool.not_true, Bool.not_false, recv, mthS, keyOf, binS, putS, Option.map_some, Option.bind_some, Option.map_none, Option.bind_none, idxS, items, itemsL, itemsW, truth, lim0, lim1, lim2, lim3, lim4, lim5, r4, m1, a1, hl, aggS, intsOf_map]
theorem st14_ev {f : D} {xs : List D} {due : Int} {M : Store} {l : L} (r8 : ρ[8]? = some (some f)) (r11 : ρ[11]? = some (some (.int due))) (hl : evL Φ l ρ M = some (xs, M)) (h1 : Φ 5 [f, .tup xs] M = some (.int due, M)) (h3 : Φ 10 [.int due, .int due] M = some (.bl true, M)) :
    evE Φ (.nt (.call 10 (.cons (.call 5 (.cons (.var 8) (.cons (.agg .tup (.lst l)) .nil))) (.cons (.var 11) .nil)))) ρ M = some (.bl false, M) := by
  simp only [exSs, exS, evE, evEs, evO, evP, evQ, asT, asTs, wipeD, List.map_cons, List.map_nil, List.getElem?_cons_zero, List.getElem?_cons_succ, List.getElem?_nil, List.set_cons_zero, List.set_cons_succ, List.length_cons, List.length_nil, Nat.reduceAdd, Nat.reduceLT, Nat.zero_lt_succ, Nat.succ_lt_succ_iff, if_true, if_false, ite_true, ite_false, Bool.false_eq_true, Bool.not_true, Bool.not_false, recv, mthS, keyOf, binS, putS, Option.map_some, Option.bind_some, Option.map_none, Option.bind_none, idxS, items, itemsL, itemsW, truth, lim0, lim1, lim2, lim3, lim4, lim5, r8, r11, hl, aggS, h1, h3]
end
end K45

set_option Elab.async false
set_option linter.all false
set_option maxRecDepth 100000
set_option maxHeartbeats 4000000
/-! L45q: what the turn leans on. -/
namespace K45
open PySem L2 PS
theorem cut_take (l : List D) (n : Nat) : cutD l none (some (n : Int)) = l.take n := by
  unfold cutD
  rw [HT.sIx_none, HT.sIx_nat, List.drop_zero, Nat.sub_zero, List.take_eq_take_iff]
  omega
theorem told_mem {names : List Str} {ds : List Int} (hl : ds.length = names.length + 1) {p : Str × Int} (h : p ∈ (toldF ds names).2) : p.1 ∈ names ∧ p.2 ∈ ds := by
  cases ds with
  | nil => simp at hl
  | cons d0 es =>
    have h : p ∈ sortB ltP (prs names (d0 :: es)) := h
    have h := (sortB_perm _).mem_iff.mp h
    rw [prs_zip names d0 es (by simpa using hl)] at h
    have h := (List.mem_filter.mp h).1
    exact ⟨(List.of_mem_zip h).1, List.mem_cons_of_mem _ (List.of_mem_zip h).2⟩
theorem told_len {names : List Str} {ds : List Int} (hl : ds.length = names.length + 1) : (toldF ds names).2.length ≤ names.length := by
  cases ds with
  | nil => simp at hl
  | cons d0 es =>
    have e : (toldF (d0 :: es) names).2.length = (prs names (d0 :: es)).length := (sortB_perm (lt := ltP) (prs names (d0 :: es))).length_eq
    rw [e, prs_zip names d0 es (by simpa using hl)]
    refine Nat.le_trans (List.length_filter_le _ _) ?_
    simp [zipP]
    omega
theorem told_ok {names : List Str} {ds : List Int} (hl : ds.length = names.length + 1) (hn : names.length ≤ 4) (h4 : ∀ x ∈ names, x ∈ N4) : Ok4 4 (toldF ds names).2 :=
  ⟨by have := told_len hl; omega, fun p hp => h4 _ (told_mem hl hp).1⟩
theorem flat_encP : ∀ ps : P2, flatDs (encP ps) = true
  | [] => rfl
  | p :: ps => by
    show (flatD (.tup [.str p.1, .int p.2]) && flatDs (encP ps)) = true
    rw [flat_encP ps]
    rfl
theorem flat_encF {f : Int × P2} (h : f.2.length < 1000) : flatD (encF f) = true := by
  have h1 : flatD (.tup (encP f.2)) = true := by
    show (flatDs (encP f.2) && decide ((encP f.2).length < 1000)) = true
    rw [flat_encP, encP_len]
    simpa using h
  show ((flatD (.int f.1) && (flatD (.tup (encP f.2)) && true)) && decide (2 < 1000)) = true
  rw [h1]
  rfl
theorem dep_encF (f : Int × P2) : dep (encF f) ≤ 3 := by
  have h2 : deps (encP f.2) ≤ 1 := by
    generalize f.2 = ps
    induction ps with
    | nil => decide
    | cons p ps ih =>
      show max (dep _) (deps (encP ps)) ≤ 1
      have : dep (.tup [.str p.1, .int p.2]) = 1 := rfl
      rw [this]
      omega
  show max 0 (max (deps (encP f.2) + 1) 0) + 1 ≤ 3
  omega
theorem same_two (W : Nat) {f g : Int × P2} (M : Store) (hf : f.2.length < 1000) (hg : g.2.length < 1000) : runF fds W 11 10 [.tup [encF f, encF g], .tup [encF f, encF g]] M = some (.bl true, M) := by
  refine same_run W 9 _ M ?_ ?_
  · show ((flatD (encF f) && (flatD (encF g) && true)) && decide (2 < 1000)) = true
    rw [flat_encF hf, flat_encF hg]
    rfl
  · show max (dep (encF f)) (max (dep (encF g)) 0) + 1 ≤ 9
    have := dep_encF f
    have := dep_encF g
    omega
theorem same_four (W : Nat) {f g h k : Int × P2} (M : Store) (hf : f.2.length < 1000) (hg : g.2.length < 1000) (hh : h.2.length < 1000) (hk : k.2.length < 1000) : runF fds W 11 10 [.tup [encF f, encF g, encF h, encF k], .tup [encF f, encF g, encF h, encF k]] M = some (.bl true, M) := by
  refine same_run W 9 _ M ?_ ?_
  · show ((flatD (encF f) && (flatD (encF g) && (flatD (encF h) && (flatD (encF k) && true)))) && decide (4 < 1000)) = true
    rw [flat_encF hf, flat_encF hg, flat_encF hh, flat_encF hk]
    rfl
  · show max (dep (encF f)) (max (dep (encF g)) (max (dep (encF h)) (max (dep (encF k)) 0))) + 1 ≤ 9
    have := dep_encF f
    have := dep_encF g
    have := dep_encF h
    have := dep_encF k
    omega
theorem same_one (W : Nat) {f : Int × P2} (M : Store) (hf : f.2.length < 1000) : runF fds W 11 10 [encF f, encF f] M = some (.bl true, M) := same_run W 9 _ M (flat_encF hf) (Nat.le_trans (dep_encF f) (by decide))
theorem form_told {names : List Str} {ds : List Int} {ps : P2} (nd : names.Nodup) (hl : ds.length = names.length + 1) (h : ∀ x, sg ps x = sg (zipP names ds.tail) x) : formF (ds.headD 0) ps = toldF ds names :=
  told_eq (c := ds.headD 0) (r := (formF (ds.headD 0) ps).2) nd hl (form_can _ _).1 rfl fun x => by rw [(form_can _ _).2, h]
theorem plus_told {names : List Str} {a b : List Int} (nd : names.Nodup) (ha : a.length = names.length + 1) (hb : b.length = names.length + 1) : plusF (toldF a names) (toldF b names) = toldF (addL a b) names := by
  obtain ⟨a1, a2⟩ := told_can nd ha
  obtain ⟨b1, b2⟩ := told_can nd hb
  obtain ⟨p1, p2, p3⟩ := plus_can a1 b1
  refine told_eq (c := (plusF (toldF a names) (toldF b names)).1) (r := (plusF (toldF a names) (toldF b names)).2) nd (addL_len ha hb) p1 ?_ fun x => ?_
  · rw [p2, head_add (by rw [ha, hb])]
    rfl
  · rw [p3, a2, b2, tail_add, zip_add names (by rw [List.length_tail, List.length_tail, ha, hb])]
theorem times_told {names : List Str} {a : List Int} (nd : names.Nodup) (ha : a.length = names.length + 1) (k : Int) : timesF k (toldF a names) = toldF (smul k a) names := by
  obtain ⟨a1, a2⟩ := told_can nd ha
  obtain ⟨p1, p2, p3⟩ := times_can k a1
  refine told_eq (c := (timesF k (toldF a names)).1) (r := (timesF k (toldF a names)).2) nd (smul_len k ha) p1 ?_ fun x => ?_
  · rw [p2, head_smul]
    rfl
  · rw [p3, a2, tail_smul, zip_smul]
theorem minus_told {names : List Str} {a b : List Int} (nd : names.Nodup) (ha : a.length = names.length + 1) (hb : b.length = names.length + 1) : minusF (toldF a names) (toldF b names) = toldF (addL a (smul (-1) b)) names := by
  unfold minusF
  rw [times_told nd hb, plus_told nd ha (smul_len _ hb)]
theorem zip_unit : ∀ (names : List Str) (j n : Nat) (x : Str) (h : j < names.length), sg (zipP names (List.replicate j (0 : Int) ++ 1 :: List.replicate n 0)) x = if names[j] = x then 1 else 0
  | [], j, n, x, h => by simp at h
  | y :: names, 0, n, x, h => by
    have h0 : ∀ (names : List Str) (n : Nat), sg (zipP names (List.replicate n (0 : Int))) x = 0 := by
      intro names
      induction names with
      | nil => intro n; rfl
      | cons m names ih =>
        intro n
        cases n with
        | zero => rfl
        | succ n =>
          show sg ((m, 0) :: zipP names (List.replicate n 0)) x = 0
          rw [sg_cons, ih]
          simp
    show sg ((y, 1) :: zipP names (List.replicate n 0)) x = _
    rw [sg_cons, h0]
    simp
  | y :: names, j + 1, n, x, h => by
    have ih := zip_unit names j n x (by simpa using h)
    show sg ((y, 0) :: zipP names (List.replicate j (0 : Int) ++ 1 :: List.replicate n 0)) x = _
    rw [sg_cons, ih]
    simp
def gsF (so : SO) (names : List Str) : PF2 := so.map fun p => (p.1, toldF p.2.2 names)
theorem lk_gsF (so : SO) (names : List Str) (n : Str) : lk (gsF so names) n = (so.find? fun p => decide (p.1 = n)).map fun p => toldF p.2.2 names := by
  unfold lk gsF
  rw [List.find?_map, Option.map_map]
  rfl
theorem image_told {names : List Str} {one : List Int} {so : SO} (nd : names.Nodup) (hl : one.length = names.length + 1) (hso : ∀ p ∈ so, p.2.2.length = names.length + 1) :
    imageF (toldF one names) (gsF so names) = toldF (comb (one.headD 0 :: List.replicate names.length 0) (one.tail.zip (Gsel names so))) names := by
  have hget : ∀ (j : Nat) (n : Str) (g : List Int), names[j]? = some n → (Gsel names so)[j]? = some g → ∃ h : j < names.length, names[j] = n ∧ g = gsel so n names.length j := fun j n g h1 h2 => by
    obtain ⟨hj, e⟩ := List.getElem?_eq_some_iff.mp h1
    refine ⟨hj, e, ?_⟩
    unfold Gsel at h2
    rw [List.getElem?_map, List.getElem?_range hj] at h2
    simp only [Option.map_some, Option.some.injEq] at h2
    rw [← h2, ← e]
    simp [hj]
  refine image_sem names one (gsF so names) (Gsel names so) nd hl (by simp [Gsel]) (fun g hg => ?_) (fun j n g h1 h2 => ?_) fun x j n g h1 h2 => ?_
  · obtain ⟨j, hj, e⟩ := List.mem_map.mp hg
    rw [← e]
    exact gsel_len hso (by simpa using hj)
  · obtain ⟨hj, e, rfl⟩ := hget j n g h1 h2
    unfold Fc gsel
    rw [lk_gsF]
    cases so.find? (fun p => decide (p.1 = n)) with
    | none => rfl
    | some p => rfl
  · obtain ⟨hj, e, rfl⟩ := hget j n g h1 h2
    unfold Fx gsel
    rw [lk_gsF]
    cases hf : so.find? (fun p => decide (p.1 = n)) with
    | none =>
      show (if n = x then (1 : Int) else 0) = sg (zipP names (unit names.length j).tail) x
      have : (unit names.length j).tail = List.replicate j (0 : Int) ++ 1 :: List.replicate (names.length - 1 - j) 0 := by
        unfold unit unit0
        rw [List.replicate_succ]
        simp
      rw [this, zip_unit names j _ x hj, e]
    | some p => exact (told_can nd (hso p (List.mem_of_find?_eq_some hf))).2 x
theorem comb_dig {x K : Int} (h0 : 0 ≤ x) (hK : 0 ≤ K) : ∀ (L : List (Int × List Int)) (b : Int) (c0 : List Int), Dig b c0 → (∀ p ∈ L, -K ≤ p.1 ∧ p.1 ≤ K ∧ Dig x p.2) → Dig (b + L.length * (K * x)) (comb c0 L)
  | [], b, c0, h, _ => by
    have : b + (([] : List (Int × List Int)).length : Int) * (K * x) = b := by simp
    rw [this]
    exact h
  | p :: L, b, c0, h, hL => by
    obtain ⟨p1, p2, p3⟩ := hL p List.mem_cons_self
    have ih := comb_dig h0 hK L (b + K * x) (addL c0 (smul p.1 p.2)) (dig_add rfl h (dig_smul h0 p1 p2 rfl p3)) fun q m => hL q (List.mem_cons_of_mem _ m)
    have e : b + ((p :: L).length : Int) * (K * x) = b + K * x + (L.length : Int) * (K * x) := by
      rw [List.length_cons]
      have : ((L.length + 1 : Nat) : Int) = (L.length : Int) + 1 := by omega
      rw [this, Int.add_mul]
      omega
    rw [e]
    exact ih
theorem val_nodup {ps : P2} {p : Str × Int} (nd : (ps.map (·.1)).Nodup) (h : p ∈ ps) : val ps p.1 = p.2 := by
  unfold val
  rw [get_nodup nd h]
  rfl
theorem value_told {names : List Str} {one at_ : List Int} (nd : names.Nodup) (hl : one.length = names.length + 1) (ha : at_.length = names.length) : valueF (toldF one names) (zipP names at_) = one.headD 0 + ((List.range names.length).map fun i => one.tail.getD i 0 * at_.getD i 0).sum := by
  have hes : one.tail.length = names.length := by rw [List.length_tail, hl]; rfl
  have hz := zip_names names at_ ha
  have e1 := lsum_told hl (val (zipP names at_))
  have e2 := lsum_zip (val (zipP names at_)) (fun g => g.headD 0) names one.tail (at_.map fun a => [a]) hes (by simpa using ha) (fun j n g h1 h2 => by
    rw [List.getElem?_map] at h2
    obtain ⟨a, h3, rfl⟩ := Option.map_eq_some_iff.mp h2
    have hm : (n, a) ∈ zipP names at_ := by
      obtain ⟨hj, e⟩ := List.getElem?_eq_some_iff.mp h1
      obtain ⟨hj2, e'⟩ := List.getElem?_eq_some_iff.mp h3
      refine List.mem_iff_getElem.mpr ⟨j, by simp [zipP]; omega, ?_⟩
      simp [zipP, e, e']
    exact val_nodup (by rw [hz]; exact nd) hm)
  show one.headD 0 + lsum (toldF one names).2 (val (zipP names at_)) = _
  rw [e1, e2]
  congr 2
  apply List.ext_getElem
  · simp [hes, ha]
  · intro j h1 h2
    have hj : j < names.length := by simpa using h2
    have ht : j < one.tail.length := by omega
    have hat : j < at_.length := by omega
    simp only [List.getElem_map, List.getElem_zip, List.getElem_range]
    rw [List.getD_eq_getElem?_getD, List.getElem?_eq_getElem ht, List.getD_eq_getElem?_getD, List.getElem?_eq_getElem hat]
    rfl
end K45

set_option Elab.async false
set_option linter.all false
set_option maxRecDepth 100000
set_option maxHeartbeats 4000000
/-! L45r: one turn of the law. -/
namespace K45
open PySem L2 PS
theorem N4_nodup : N4.Nodup := by decide +kernel
def bodyL : Ss := match b16 with
  | .cons _ (.cons (.fr _ _ b) _) => b
  | _ => .nil
theorem turn_ok (W st : Nat) (t : D) (M : Store) (hst : St M st) (x0 x2 x3 x4 x5 x6 x7 x8 x9 x10 x11 x12 x13 x14 x15 x16 x17 x18 : Option D) : ∃ (ρ' : PS.Env) (M' : Store), turnF (runF fds W 11) W (.name 2) bodyL t [x0, some (.ref st), x2, x3, x4, x5, x6, x7, x8, x9, x10, x11, x12, x13, x14, x15, x16, x17, x18] M = some (.nx, ρ', M') ∧ ρ'.length = 19 ∧ ρ'[1]? = some (some (.ref st)) ∧ Nx st M M' := by
  have hs := hst.lt
  -- names
  have nA : Nx st M (M ++ [.lst (N4.map D.str)]) := Nx.app hst
  obtain ⟨xs, M1, e8, pm, n1, hx1⟩ := shuf_run W 9 st M.length (by omega) N4 (M ++ [.lst (N4.map D.str)]) nA.st (at_last _ _) (by decide)
  obtain ⟨v, M2, e7, v1, v2, n2, -⟩ := draw_run W 10 st 4 M1 n1.st (by decide) (by decide)
  have hxl : (M ++ [MO.lst (N4.map D.str)]).length ≠ st := by simp; omega
  have hx2 := n2.old _ _ hxl hx1
  have k0 := st0_ev (jy := 0) (Φ := runF fds W 11) (ρ := [x0, some (.ref st), some t, x3, x4, x5, x6, x7, x8, x9, x10, x11, x12, x13, x14, x15, x16, x17, x18]) rfl e8 e7 hx2
  obtain ⟨w, rfl⟩ := Int.eq_ofNat_of_zero_le v1
  have hw : (1 : Int) + (w : Int) = ((w + 1 : Nat) : Int) := by omega
  rw [hw, cut_take, ← List.map_take] at k0
  have hxs4 : xs.length = 4 := pm.length_eq
  have hnd : (xs.take (w + 1)).Nodup := List.Nodup.sublist (List.take_sublist _ _) (pm.nodup_iff.mpr N4_nodup)
  have hN4 : ∀ x ∈ xs.take (w + 1), x ∈ N4 := fun x hx => pm.mem_iff.mp (List.mem_of_mem_take hx)
  have hm4 : (xs.take (w + 1)).length ≤ 4 := by rw [List.length_take]; omega
  generalize xs.take (w + 1) = names at k0 hnd hN4 hm4
  have s2 := n2.st.lt
  have n3 : Nx st M2 (M2 ++ [.lst (names.map D.str)]) := Nx.app n2.st
  have hjn : M2.length ≠ st := by omega
  have hn3 : (M2 ++ [MO.lst (names.map D.str)])[M2.length]? = some (.lst (names.map D.str)) := at_last _ _
  generalize M2.length = jn at k0 hjn hn3
  generalize hM3 : M2 ++ [MO.lst (names.map D.str)] = M3 at k0 n3 hn3
  -- digits
  have s3 := n3.st.lt
  obtain ⟨one, M4, e14, l1, g1, n4, h14⟩ := dig_run W 9 st (names.length + 1) M3 n3.st (by omega)
  have s4 := n4.st.lt
  have l34 := n4.len
  have hj1 : M3.length ≠ st := by omega
  generalize M3.length = j1 at e14 h14 hj1
  obtain ⟨other, M5, e14b, l2, g2, n5, h25⟩ := dig_run W 9 st (names.length + 1) M4 n4.st (by omega)
  have hj2 : M4.length ≠ st := by omega
  generalize M4.length = j2 at e14b h25 hj2
  have hn4 := n4.old _ _ hjn hn3
  have hn5 := n5.old _ _ hjn hn4
  have h15 := n5.old _ _ hj1 h14
  have k1 := st1_ev (Φ := runF fds W 11) (ρ := [x0, some (.ref st), some t, some (.ref jn), x4, x5, x6, x7, x8, x9, x10, x11, x12, x13, x14, x15, x16, x17, x18]) rfl rfl hn3 hn4 e14 e14b
  have k2 := st2_ev (Φ := runF fds W 11) (ρ := [x0, some (.ref st), some t, some (.ref jn), some (.ref j1), some (.ref j2), x6, x7, x8, x9, x10, x11, x12, x13, x14, x15, x16, x17, x18]) rfl rfl (num_run W 9 M5 h15 g1.big (by omega)) (num_run W 9 M5 h25 g2.big (by omega))
  have T : ∀ (ds : List Int) (b : Int) (S : Store), S[jn]? = some (.lst (names.map D.str)) → ds.length = names.length + 1 → Dig b ds → 2 * b < B → runF fds W 11 12 [.int (num ds), .ref jn] S = some (encF (toldF ds names), S) := fun ds b S hS hl hd hb => told_run W 9 S hS hl hm4 (dig_half hb hd).1 (dig_half hb hd).2
  have k3 := st3_ev (Φ := runF fds W 11) (ρ := [x0, some (.ref st), some t, some (.ref jn), some (.ref j1), some (.ref j2), some (.int (num one)), some (.int (num other)), x8, x9, x10, x11, x12, x13, x14, x15, x16, x17, x18]) rfl rfl rfl (T one DB M5 hn5 l1 g1 (by decide)) (T other DB M5 hn5 l2 g2 (by decide))
  -- pairs in parts
  obtain ⟨ps1, M6, e15, n6, p1, p2, p3⟩ := parts_run W 9 st jn j1 hjn hj1 names one M5 n5.st hn5 h15 l1 hm4
  have hn6 := n6.old _ _ hjn hn5
  have h26 := n6.old _ _ hj2 h25
  obtain ⟨ps2, M7, e15b, n7, q1, q2, q3⟩ := parts_run W 9 st jn j2 hjn hj2 names other M6 n6.st hn6 h26 l2 hm4
  have hn7 := n7.old _ _ hjn hn6
  have h17 := n7.old _ _ hj1 (n6.old _ _ hj1 h15)
  have hd0 : ∀ ds : List Int, ds.length = names.length + 1 → atI (ds.map D.int) 0 = some (.int (ds.headD 0)) := fun ds h => by
    cases ds with
    | nil => simp at h
    | cons d ds => exact atI_nat (j := 0) rfl
  have f1 := form_tup W 10 (one.headD 0) (n := 8) M6 ⟨p1, fun p hp => hN4 _ (p2 p hp)⟩ (by decide)
  have f2 := form_tup W 10 (other.headD 0) (n := 8) M7 ⟨q1, fun p hp => hN4 _ (q2 p hp)⟩ (by decide)
  rw [form_told hnd l1 p3] at f1
  rw [form_told hnd l2 q3] at f2
  have big : ∀ ds : List Int, ds.length = names.length + 1 → (toldF ds names).2.length < 1000 := fun ds h => by
    have := told_len h
    omega
  have k4 := st4_ev (Φ := runF fds W 11) (ρ := [x0, some (.ref st), some t, some (.ref jn), some (.ref j1), some (.ref j2), some (.int (num one)), some (.int (num other)), some (encF (toldF one names)), some (encF (toldF other names)), x10, x11, x12, x13, x14, x15, x16, x17, x18]) rfl rfl rfl rfl rfl rfl h15 h26 (hd0 one l1) (hd0 other l2) e15 f1 e15b f2 (same_two W M7 (big one l1) (big other l2))
  -- the multiplier
  obtain ⟨u, M8, e41, u1, u2, n8, -⟩ := draw_run W 10 st 41 M7 n7.st (by decide) (by decide)
  have k5 := st5_ev (Φ := runF fds W 11) (ρ := [x0, some (.ref st), some t, some (.ref jn), some (.ref j1), some (.ref j2), some (.int (num one)), some (.int (num other)), some (encF (toldF one names)), some (encF (toldF other names)), x10, x11, x12, x13, x14, x15, x16, x17, x18]) rfl e41
  have hn8 := n8.old _ _ hjn hn7
  have h18 := n8.old _ _ hj1 h17
  obtain ⟨k, hk⟩ : ∃ k : Int, k = u - 20 := ⟨_, rfl⟩
  have hk1 : -20 ≤ k := by omega
  have hk2 : k ≤ 20 := by omega
  rw [← hk] at k5
  have lk1 := smul_len k l1
  have lm : (smul (-1) other).length = names.length + 1 := smul_len (-1) l2
  have lp := addL_len l1 l2
  have lq := addL_len l1 lm
  have lkq := smul_len k lq
  have gm : Dig DB (smul (-1) other) := dig_smul (K := 1) (by decide) (by decide) (by decide) rfl g2
  have gp : Dig (DB + DB) (addL one other) := dig_add rfl g1 g2
  have gq : Dig (DB + DB) (addL one (smul (-1) other)) := dig_add rfl g1 gm
  have gk : Dig (20 * DB) (smul k one) := dig_smul (K := 20) (by decide) hk1 hk2 rfl g1
  have gkq : Dig (20 * (DB + DB)) (smul k (addL one (smul (-1) other))) := dig_smul (K := 20) (by decide) hk1 hk2 rfl gq
  have i1 := T _ _ M8 hn8 lp gp (by decide)
  have i2 := T _ _ M8 hn8 lq gq (by decide)
  have i3 := T _ _ M8 hn8 lk1 gk (by decide)
  have i4 := T _ _ M8 hn8 lkq gkq (by decide)
  rw [num_add (by rw [l1, l2])] at i1
  rw [num_add (by rw [l1, lm]), num_smul] at i2
  rw [num_smul] at i3
  rw [num_smul, num_add (by rw [l1, lm]), num_smul] at i4
  have c2 : num one + -1 * num other = num one - num other := by omega
  have c4 : k * (num one + -1 * num other) = k * num one - k * num other := by rw [c2, Int.mul_sub]
  rw [c2] at i2
  rw [c4] at i4
  have mk : ∀ x, mulOk k x = true := fun x => mulOk_small (by omega)
  have k6 := st6_ev (Φ := runF fds W 11) (ρ := [x0, some (.ref st), some t, some (.ref jn), some (.ref j1), some (.ref j2), some (.int (num one)), some (.int (num other)), some (encF (toldF one names)), some (encF (toldF other names)), some (.int k), x11, x12, x13, x14, x15, x16, x17, x18]) rfl rfl rfl rfl mk i1 i2 i3 i4
  have o1 := told_ok l1 hm4 hN4
  have o2 := told_ok l2 hm4 hN4
  have r1 := plus_run W 9 M8 o1 o2
  have r2 := minus_run W 8 M8 o1 o2
  have r3 := times_run W 10 k (f := toldF one names) M8 (by omega) (Nat.le_of_lt (big one l1))
  have r4 := times_run W 10 k (f := toldF (addL one (smul (-1) other)) names) M8 (by omega) (Nat.le_of_lt (big _ lq))
  rw [plus_told hnd l1 l2] at r1
  rw [minus_told hnd l1 l2] at r2
  rw [times_told hnd l1] at r3
  rw [times_told hnd lq] at r4
  have k7 := st7_ev (Φ := runF fds W 11) (ρ := [x0, some (.ref st), some t, some (.ref jn), some (.ref j1), some (.ref j2), some (.int (num one)), some (.int (num other)), some (encF (toldF one names)), some (encF (toldF other names)), some (.int k), some (.tup [encF (toldF (addL one other) names), encF (toldF (addL one (smul (-1) other)) names), encF (toldF (smul k one) names), encF (toldF (smul k (addL one (smul (-1) other))) names)]), x12, x13, x14, x15, x16, x17, x18]) (due := .non) (m := .non) rfl rfl rfl rfl r1 r2 r3 r4 (same_four W M8 (big _ lp) (big _ lq) (big _ lk1) (big _ lkq))
  -- some
  have hrange : ∀ (ρ : PS.Env) (S : Store), ρ[3]? = some (some (.ref jn)) → S[jn]? = some (.lst (names.map D.str)) → evI (runF fds W 11) (.rng1 (.agg .len (.val (.var 3)))) ρ S = some (fun _ => true, rng0 names.length, S) := fun ρ S h3 hS => evI_rng (by
    simp only [exSs, exS, evE, evEs, evO, evP, evL, evQ, evI, asT, asTs, wipeD, List.map_cons, List.map_nil, List.getElem?_cons_zero, List.getElem?_cons_succ, List.getElem?_nil, List.set_cons_zero, List.set_cons_succ, List.length_cons, List.length_nil, Nat.reduceAdd, Nat.reduceLT, Nat.zero_lt_succ, Nat.succ_lt_succ_iff, if_true, if_false, ite_true, ite_false, Bool.false_eq_true, Bool.not_true, Bool.not_false, recv, mthS, keyOf, binS, putS, Option.map_some, Option.bind_some, Option.map_none, Option.bind_none, idxS, items, itemsL, itemsW, truth, lim0, lim1, lim2, lim3, lim4, lim5, h3, aggS, listAt, hS, List.length_map]) (by omega)
  obtain ⟨so, M9, lpS, n9, gso, sub, sol⟩ := some_loop W st jn hjn names hm4 [x0, some (.ref st), some t, some (.ref jn), some (.ref j1), some (.ref j2), some (.int (num one)), some (.int (num other)), some (encF (toldF one names)), some (encF (toldF other names)), some (.int k), some (.tup [encF (toldF (addL one other) names), encF (toldF (addL one (smul (-1) other)) names), encF (toldF (smul k one) names), encF (toldF (smul k (addL one (smul (-1) other))) names)]), x12, x13, x14, x15, x16, x17, x18] rfl rfl rfl names.length 0 (by omega) [] M8 n8.st hn8 ⟨fun p hp => by simp at hp, fun p hp => by simp at hp, fun p hp => by simp at hp, fun p hp => by simp at hp⟩ (by simp) (Nat.le_refl _)
  rw [List.drop_zero] at lpS
  have k8 := evE_ofL ((evL_comp (own := [("j", 14)]) (hrange [x0, some (.ref st), some t, some (.ref jn), some (.ref j1), some (.ref j2), some (.int (num one)), some (.int (num other)), some (encF (toldF one names)), some (encF (toldF other names)), some (.int k), some (.tup [encF (toldF (addL one other) names), encF (toldF (addL one (smul (-1) other)) names), encF (toldF (smul k one) names), encF (toldF (smul k (addL one (smul (-1) other))) names)]), x12, x13, x14, x15, x16, x17, x18] M8 rfl hn8)).trans lpS)
  have s9 := n9.st.lt
  have hjs : M9.length ≠ st := by omega
  have n9' : Nx st M8 (M9 ++ [.lst (encSO so)]) := n9.appNew
  have hs9 : (M9 ++ [MO.lst (encSO so)])[M9.length]? = some (.lst (encSO so)) := at_last _ _
  have gso' := gso.nx (Nx.app (T := [.lst (encSO so)]) n9.st)
  generalize M9.length = js at k8 hjs hs9
  generalize hMA : M9 ++ [MO.lst (encSO so)] = MA at k8 n9' hs9 gso'
  have hnA := n9'.old _ _ hjn hn8
  have h1A := n9'.old _ _ hj1 h18
  have ndso : (so.map (·.1)).Nodup := hnd.sublist sub
  have k9 := st9_ev (Φ := runF fds W 11) (ρ := [x0, some (.ref st), some t, some (.ref jn), some (.ref j1), some (.ref j2), some (.int (num one)), some (.int (num other)), some (encF (toldF one names)), some (encF (toldF other names)), some (.int k), some (.tup [encF (toldF (addL one other) names), encF (toldF (addL one (smul (-1) other)) names), encF (toldF (smul k one) names), encF (toldF (smul k (addL one (smul (-1) other))) names)]), some (.ref js), x13, x14, x15, x16, x17, x18]) rfl h1A (hd0 one l1)
  -- the total
  obtain ⟨y14, y15, MB, lpT, nB⟩ := total_loop W st jn j1 js hjn hj1 hjs names one so ndso (by omega) hm4 l1 g1 (x0) (some (.ref st)) (some t) (some (.ref j2)) (some (.int (num one))) (some (.int (num other))) (some (encF (toldF one names))) (some (encF (toldF other names))) (some (.int k)) (some (.tup [encF (toldF (addL one other) names), encF (toldF (addL one (smul (-1) other)) names), encF (toldF (smul k one) names), encF (toldF (smul k (addL one (smul (-1) other))) names)])) (x16) (x17) (x18) names.length 0 (by omega) (one.headD 0) (x14) (x15) MA n9'.st hnA h1A hs9 gso'
  rw [List.drop_zero, List.drop_zero, total_num gso'.len l1] at lpT
  have k10 := (exS_fr (W := W) (b := bodyJ) (t := .name 14) (hrange [x0, some (.ref st), some t, some (.ref jn), some (.ref j1), some (.ref j2), some (.int (num one)), some (.int (num other)), some (encF (toldF one names)), some (encF (toldF other names)), some (.int k), some (.tup [encF (toldF (addL one other) names), encF (toldF (addL one (smul (-1) other)) names), encF (toldF (smul k one) names), encF (toldF (smul k (addL one (smul (-1) other))) names)]), some (.ref js), some (.int (one.headD 0)), x14, x15, x16, x17, x18] MA rfl hnA)).trans lpT
  unfold bodyJ at k10
  generalize hTt : comb (one.headD 0 :: List.replicate names.length 0) (one.tail.zip (Gsel names so)) = Tt at k10
  have hnB := nB.old _ _ hjn hnA
  have h1B := nB.old _ _ hj1 h1A
  have hsB := nB.old _ _ hjs hs9
  have gsoB := gso'.nx nB
  -- image
  have hG : ∀ p ∈ one.tail.zip (Gsel names so), -DB ≤ p.1 ∧ p.1 ≤ DB ∧ Dig DB p.2 := fun p hp => by
    obtain ⟨z1, z2⟩ := List.of_mem_zip hp
    have z1 := List.mem_of_mem_tail z1
    refine ⟨g1.lo _ z1, g1.hi _ z1, ?_⟩
    obtain ⟨j, hj, e⟩ := List.mem_map.mp z2
    rw [← e]
    unfold gsel
    cases hf : so.find? (fun p => decide (p.1 = names.getD j "")) with
    | none =>
      have ud := unit_dig j
      refine ⟨fun d m => ?_, fun d m => ?_⟩ <;> rcases List.mem_append.mp m with z | z
      · exact ud.lo d z
      · have := (List.mem_replicate.mp z).2
        rw [this]
        decide
      · exact ud.hi d z
      · have := (List.mem_replicate.mp z).2
        rw [this]
        decide
    | some q => exact gso'.dig q (List.mem_of_find?_eq_some hf)
  have hc0 : Dig DB (one.headD 0 :: List.replicate names.length 0) := by
    have hh : one.headD 0 ∈ one := by
      cases one with
      | nil => simp at l1
      | cons d ds => simp
    refine ⟨fun d m => ?_, fun d m => ?_⟩ <;> rcases List.mem_cons.mp m with z | z
    · rw [z]; exact g1.lo _ hh
    · rw [(List.mem_replicate.mp z).2]; decide
    · rw [z]; exact g1.hi _ hh
    · rw [(List.mem_replicate.mp z).2]; decide
  have gT := comb_dig (x := DB) (K := DB) (by decide) (by decide) (one.tail.zip (Gsel names so)) DB _ hc0 hG
  have lT := (comb_lin (n := names.length + 1) (φ := num) (fun a b ha hb => num_add (by rw [ha, hb])) num_smul (one.tail.zip (Gsel names so)) (one.headD 0 :: List.replicate names.length 0) (by simp) (fun p hp => by
    obtain ⟨j, hj, e⟩ := List.mem_map.mp (List.of_mem_zip hp).2
    rw [← e]
    exact gsel_len gso'.len (by simpa using hj))).2
  rw [hTt] at gT lT
  have hzl : ((one.tail.zip (Gsel names so)).length : Int) ≤ 4 := by
    have : (one.tail.zip (Gsel names so)).length ≤ names.length := by simp [Gsel]; omega
    omega
  have gT' : Dig (DB + 4 * (DB * DB)) Tt := gT.mono (by
    have : (0 : Int) ≤ DB * DB := by decide
    have := Int.mul_le_mul_of_nonneg_right hzl this
    omega)
  have iT := T Tt _ MB hnB lT gT' (by decide)
  have hL := evL_mapL (Φ := runF fds W 11) (fun p : Str × Nat × List Int => D.tup [.str p.1, .ref p.2.1]) (fun p => some (D.tup [.str p.1, encF (toldF p.2.2 names)])) (own := [("name", 17), ("digits", 18)]) (t := .tup (.cons (.name 17) (.cons (.name 18) .nil))) (it := .q (.val (.var 12))) (c := .no) (elt := .tup (.cons (.var 17) (.cons (.call 12 (.cons (.call 13 (.cons (.var 18) .nil)) (.cons (.var 3) .nil))) .nil)))
    (ρ := [x0, some (.ref st), some t, some (.ref jn), some (.ref j1), some (.ref j2), some (.int (num one)), some (.int (num other)), some (encF (toldF one names)), some (encF (toldF other names)), some (.int k), some (.tup [encF (toldF (addL one other) names), encF (toldF (addL one (smul (-1) other)) names), encF (toldF (smul k one) names), encF (toldF (smul k (addL one (smul (-1) other))) names)]), some (.ref js), some (.int (num Tt)), y14, y15, x16, x17, x18]) (M := MB) (M1 := MB) (ok := stands (.val (.ref js)) (encSO so)) (l := so) (by
      simp only [exSs, exS, evE, evEs, evO, evP, evL, evQ, evI, asT, asTs, wipeD, List.map_cons, List.map_nil, List.getElem?_cons_zero, List.getElem?_cons_succ, List.getElem?_nil, List.set_cons_zero, List.set_cons_succ, List.length_cons, List.length_nil, Nat.reduceAdd, Nat.reduceLT, Nat.zero_lt_succ, Nat.succ_lt_succ_iff, if_true, if_false, ite_true, ite_false, Bool.false_eq_true, Bool.not_true, Bool.not_false, recv, mthS, keyOf, binS, putS, Option.map_some, Option.bind_some, Option.map_none, Option.bind_none, idxS, items, itemsL, itemsW, truth, lim0, lim1, lim2, lim3, lim4, lim5, listAt, hsB]
      try rfl) (by
      show decide (listAt MB js = some (encSO so)) = true
      unfold listAt
      rw [hsB]
      simp) (by omega) (fun p hp => by
      have a1 := num_run W 9 MB (gsoB.at_ p hp) (gsoB.dig p hp).big (by have := gsoB.len p hp; omega)
      have a2 := T p.2.2 DB MB hnB (gsoB.len p hp) (gsoB.dig p hp) (by decide)
      unfold turnC
      simp only [exSs, exS, evE, evEs, evO, evP, evL, evQ, evI, asT, asTs, wipeD, List.map_cons, List.map_nil, List.getElem?_cons_zero, List.getElem?_cons_succ, List.getElem?_nil, List.set_cons_zero, List.set_cons_succ, List.length_cons, List.length_nil, Nat.reduceAdd, Nat.reduceLT, Nat.zero_lt_succ, Nat.succ_lt_succ_iff, if_true, if_false, ite_true, ite_false, Bool.false_eq_true, Bool.not_true, Bool.not_false, recv, mthS, keyOf, binS, putS, Option.map_some, Option.bind_some, Option.map_none, Option.bind_none, idxS, items, itemsL, itemsW, truth, lim0, lim1, lim2, lim3, lim4, lim5, a1, a2])
  have hL2 : so.filterMap (fun p => some (D.tup [.str p.1, encF (toldF p.2.2 names)])) = encD (asF (gsF so names)) := by
    unfold encD asF gsF
    rw [List.map_map, List.map_map, ← List.filterMap_eq_map]
    rfl
  rw [hL2] at hL
  have hgsn : (gsF so names).map (·.1) = so.map (·.1) := by simp [gsF]
  have hcoef : ∀ p ∈ (toldF one names).2, p.2.natAbs < 18446744073709551616 := fun p hp => by
    have hm := (told_mem l1 hp).2
    have b1 := g1.lo _ hm
    have b2 := g1.hi _ hm
    unfold DB at b1 b2
    omega
  have im := image_run W 9 (f := toldF one names) (gs := gsF so names) MB o1 hcoef (by simp [gsF]; omega) (by rw [hgsn]; exact ndso) (fun p hp => by
    obtain ⟨q, hq, rfl⟩ := List.mem_map.mp hp
    exact told_ok (gsoB.len q hq) hm4 hN4)
  rw [image_told hnd l1 gsoB.len, hTt] at im
  have k11 := st11_ev (Φ := runF fds W 11) (ρ := [x0, some (.ref st), some t, some (.ref jn), some (.ref j1), some (.ref j2), some (.int (num one)), some (.int (num other)), some (encF (toldF one names)), some (encF (toldF other names)), some (.int k), some (.tup [encF (toldF (addL one other) names), encF (toldF (addL one (smul (-1) other)) names), encF (toldF (smul k one) names), encF (toldF (smul k (addL one (smul (-1) other))) names)]), some (.ref js), some (.int (num Tt)), y14, y15, x16, x17, x18]) (gs := .non) rfl rfl rfl hL im iT (same_one W MB (big _ lT))
  -- value
  obtain ⟨at_, MC, eC, lC, gC, nC, hC⟩ := dig_run W 9 st names.length MB nB.st (by omega)
  have sB := nB.st.lt
  have hjC : MB.length ≠ st := by omega
  have k12 := st12_ev (Φ := runF fds W 11) (ρ := [x0, some (.ref st), some t, some (.ref jn), some (.ref j1), some (.ref j2), some (.int (num one)), some (.int (num other)), some (encF (toldF one names)), some (encF (toldF other names)), some (.int k), some (.tup [encF (toldF (addL one other) names), encF (toldF (addL one (smul (-1) other)) names), encF (toldF (smul k one) names), encF (toldF (smul k (addL one (smul (-1) other))) names)]), some (.ref js), some (.int (num Tt)), y14, y15, x16, x17, x18]) rfl rfl hnB eC
  generalize MB.length = jC at k12 hC hjC
  have hnC := nC.old _ _ hjn hnB
  have h1C := nC.old _ _ hj1 h1B
  have b1 : ∀ i, i < names.length → atI (one.map D.int) ((i : Int) + 1) = some (.int (one.tail.getD i 0)) := fun i hi => by
    have : ((i : Int) + 1) = ((i + 1 : Nat) : Int) := by omega
    rw [this]
    refine atI_nat ?_
    have h2 : i + 1 < one.length := by omega
    rw [List.getElem?_map, List.getD_eq_getElem?_getD, List.getElem?_tail, List.getElem?_eq_getElem h2]
    rfl
  have b2 : ∀ i, i < names.length → atI (at_.map D.int) (i : Int) = some (.int (at_.getD i 0)) := fun i hi => by
    refine atI_nat ?_
    have h2 : i < at_.length := by omega
    rw [List.getElem?_map, List.getD_eq_getElem?_getD, List.getElem?_eq_getElem h2]
    rfl
  have b3 : ∀ i, i < names.length → atI (names.map D.str) (i : Int) = some (.str (names.getD i "")) := fun i hi => by
    refine atI_nat ?_
    rw [List.getElem?_map, List.getD_eq_getElem?_getD, List.getElem?_eq_getElem hi]
    rfl
  have b4 : ∀ i, i < names.length → ∀ x, mulOk (one.tail.getD i 0) x = true := fun i hi x => mulOk_small (by
    have h2 : i + 1 < one.length := by omega
    have e : one.tail.getD i 0 = one[i + 1] := by
      rw [List.getD_eq_getElem?_getD, List.getElem?_tail, List.getElem?_eq_getElem h2]
      rfl
    have c1 := g1.lo _ (List.getElem_mem h2)
    have c2 := g1.hi _ (List.getElem_mem h2)
    rw [e]
    unfold DB at c1 c2
    omega)
  have hV := evL_mapL (Φ := runF fds W 11) (fun i : Nat => D.int (i : Int)) (fun i => some (D.int (one.tail.getD i 0 * at_.getD i 0))) (own := [("j", 14)]) (t := .name 14) (it := .rng1 (.agg .len (.val (.var 3)))) (c := .no) (elt := .bin .Mult (.idx (.val (.var 4)) (.bin .Add (.var 14) (.int 1))) (.idx (.val (.var 16)) (.var 14)))
    (ρ := [x0, some (.ref st), some t, some (.ref jn), some (.ref j1), some (.ref j2), some (.int (num one)), some (.int (num other)), some (encF (toldF one names)), some (encF (toldF other names)), some (.int k), some (.tup [encF (toldF (addL one other) names), encF (toldF (addL one (smul (-1) other)) names), encF (toldF (smul k one) names), encF (toldF (smul k (addL one (smul (-1) other))) names)]), some (.ref js), some (.int (num Tt)), y14, y15, some (.ref jC), x17, x18]) (M := MC) (M1 := MC) (ok := fun _ => true) (l := List.range names.length) (hrange _ MC rfl hnC) rfl (by simp; omega) (fun i hi => by
      have hi : i < names.length := by simpa using hi
      have z1 := b1 i hi
      have z2 := b2 i hi
      have z3 := b4 i hi
      unfold turnC
      simp only [exSs, exS, evE, evEs, evO, evP, evL, evQ, evI, asT, asTs, wipeD, List.map_cons, List.map_nil, List.getElem?_cons_zero, List.getElem?_cons_succ, List.getElem?_nil, List.set_cons_zero, List.set_cons_succ, List.length_cons, List.length_nil, Nat.reduceAdd, Nat.reduceLT, Nat.zero_lt_succ, Nat.succ_lt_succ_iff, if_true, if_false, ite_true, ite_false, Bool.false_eq_true, Bool.not_true, Bool.not_false, recv, mthS, keyOf, binS, putS, Option.map_some, Option.bind_some, Option.map_none, Option.bind_none, idxS, items, itemsL, itemsW, truth, lim0, lim1, lim2, lim3, lim4, lim5, h1C, hC, z1, z2, z3])
  have hV2 : (List.range names.length).filterMap (fun i => some (D.int (one.tail.getD i 0 * at_.getD i 0))) = ((List.range names.length).map fun i => one.tail.getD i 0 * at_.getD i 0).map D.int := by
    rw [List.map_map, ← List.filterMap_eq_map]
    rfl
  rw [hV2] at hV
  have k13 := st13_ev (Φ := runF fds W 11) (ρ := [x0, some (.ref st), some t, some (.ref jn), some (.ref j1), some (.ref j2), some (.int (num one)), some (.int (num other)), some (encF (toldF one names)), some (encF (toldF other names)), some (.int k), some (.tup [encF (toldF (addL one other) names), encF (toldF (addL one (smul (-1) other)) names), encF (toldF (smul k one) names), encF (toldF (smul k (addL one (smul (-1) other))) names)]), some (.ref js), some (.int (num Tt)), y14, y15, some (.ref jC), x17, x18]) rfl h1C (hd0 one l1) hV
  have hP := evL_mapL (Φ := runF fds W 11) (fun i : Nat => D.int (i : Int)) (fun i => some (D.tup [.str (names.getD i ""), .int (at_.getD i 0)])) (own := [("j", 14)]) (t := .name 14) (it := .rng1 (.agg .len (.val (.var 3)))) (c := .no) (elt := .tup (.cons (.idx (.val (.var 3)) (.var 14)) (.cons (.idx (.val (.var 16)) (.var 14)) .nil)))
    (ρ := [x0, some (.ref st), some t, some (.ref jn), some (.ref j1), some (.ref j2), some (.int (num one)), some (.int (num other)), some (encF (toldF one names)), some (encF (toldF other names)), some (.int k), some (.int (one.headD 0 + ((List.range names.length).map fun i => one.tail.getD i 0 * at_.getD i 0).sum)), some (.ref js), some (.int (num Tt)), y14, y15, some (.ref jC), x17, x18]) (M := MC) (M1 := MC) (ok := fun _ => true) (l := List.range names.length) (hrange _ MC rfl hnC) rfl (by simp; omega) (fun i hi => by
      have hi : i < names.length := by simpa using hi
      have z2 := b2 i hi
      have z3 := b3 i hi
      unfold turnC
      simp only [exSs, exS, evE, evEs, evO, evP, evL, evQ, evI, asT, asTs, wipeD, List.map_cons, List.map_nil, List.getElem?_cons_zero, List.getElem?_cons_succ, List.getElem?_nil, List.set_cons_zero, List.set_cons_succ, List.length_cons, List.length_nil, Nat.reduceAdd, Nat.reduceLT, Nat.zero_lt_succ, Nat.succ_lt_succ_iff, if_true, if_false, ite_true, ite_false, Bool.false_eq_true, Bool.not_true, Bool.not_false, recv, mthS, keyOf, binS, putS, Option.map_some, Option.bind_some, Option.map_none, Option.bind_none, idxS, items, itemsL, itemsW, truth, lim0, lim1, lim2, lim3, lim4, lim5, hnC, hC, z2, z3])
  have hP2 : (List.range names.length).filterMap (fun i => some (D.tup [.str (names.getD i ""), .int (at_.getD i 0)])) = encP (zipP names at_) := by
    have e : (List.range names.length).map (fun i => (names.getD i "", at_.getD i 0)) = zipP names at_ := by
      apply List.ext_getElem
      · simp [zipP, lC]
      · intro i h1 h2
        have hi : i < names.length := by simpa using h1
        have hi2 : i < at_.length := by omega
        simp only [List.getElem_map, List.getElem_range, zipP, List.getElem_zip]
        rw [List.getD_eq_getElem?_getD, List.getElem?_eq_getElem hi, List.getD_eq_getElem?_getD, List.getElem?_eq_getElem hi2]
        rfl
    rw [← e]
    unfold encP
    rw [List.map_map, ← List.filterMap_eq_map]
    rfl
  rw [hP2] at hP
  have hzn := zip_names names at_ lC
  have va := value_run W 10 (f := toldF one names) (qs := zipP names at_) MC (Nat.le_of_lt (big one l1)) (by simp [zipP]; omega) (by rw [hzn]; exact hnd) (fun p hp => by rw [hzn]; exact (told_mem l1 hp).1) hcoef
  rw [value_told hnd l1 lC] at va
  have k14 := st14_ev (Φ := runF fds W 11) (ρ := [x0, some (.ref st), some t, some (.ref jn), some (.ref j1), some (.ref j2), some (.int (num one)), some (.int (num other)), some (encF (toldF one names)), some (encF (toldF other names)), some (.int k), some (.int (one.headD 0 + ((List.range names.length).map fun i => one.tail.getD i 0 * at_.getD i 0).sum)), some (.ref js), some (.int (num Tt)), y14, y15, some (.ref jC), x17, x18]) rfl rfl hP va (same_int W 9 _ MC)
  refine ⟨[x0, some (.ref st), some t, some (.ref jn), some (.ref j1), some (.ref j2), some (.int (num one)), some (.int (num other)), some (encF (toldF one names)), some (encF (toldF other names)), some (.int k), some (.int (one.headD 0 + ((List.range names.length).map fun i => one.tail.getD i 0 * at_.getD i 0).sum)), some (.ref js), some (.int (num Tt)), y14, y15, some (.ref jC), x17, x18], MC, ?_, rfl, rfl, ?_⟩
  · unfold turnF
    rw [asT.eq_def]
    dsimp only
    rw [if_pos (by simp)]
    dsimp only [List.set_cons_succ, List.set_cons_zero]
    show exSs (runF fds W 11) W bodyL [x0, some (.ref st), some t, x3, x4, x5, x6, x7, x8, x9, x10, x11, x12, x13, x14, x15, x16, x17, x18] M = _
    unfold bodyL b16
    dsimp only
    rw [exSs_nx (ρ1 := [x0, some (.ref st), some t, some (.ref jn), x4, x5, x6, x7, x8, x9, x10, x11, x12, x13, x14, x15, x16, x17, x18]) (M1 := M3) (exS_asgN k0 (by simp))]
    rw [exSs_nx (ρ1 := [x0, some (.ref st), some t, some (.ref jn), some (.ref j1), some (.ref j2), x6, x7, x8, x9, x10, x11, x12, x13, x14, x15, x16, x17, x18]) (M1 := M5) (exS_asg2 k1 (by simp) (by simp))]
    rw [exSs_nx (ρ1 := [x0, some (.ref st), some t, some (.ref jn), some (.ref j1), some (.ref j2), some (.int (num one)), some (.int (num other)), x8, x9, x10, x11, x12, x13, x14, x15, x16, x17, x18]) (M1 := M5) (exS_asg2 k2 (by simp) (by simp))]
    rw [exSs_nx (ρ1 := [x0, some (.ref st), some t, some (.ref jn), some (.ref j1), some (.ref j2), some (.int (num one)), some (.int (num other)), some (encF (toldF one names)), some (encF (toldF other names)), x10, x11, x12, x13, x14, x15, x16, x17, x18]) (M1 := M5) (exS_asg2 k3 (by simp) (by simp))]
    rw [exSs_nx (ρ1 := [x0, some (.ref st), some t, some (.ref jn), some (.ref j1), some (.ref j2), some (.int (num one)), some (.int (num other)), some (encF (toldF one names)), some (encF (toldF other names)), x10, x11, x12, x13, x14, x15, x16, x17, x18]) (M1 := M7) (exS_ifF k4 rfl)]
    rw [exSs_nx (ρ1 := [x0, some (.ref st), some t, some (.ref jn), some (.ref j1), some (.ref j2), some (.int (num one)), some (.int (num other)), some (encF (toldF one names)), some (encF (toldF other names)), some (.int k), x11, x12, x13, x14, x15, x16, x17, x18]) (M1 := M8) (exS_asgN k5 (by simp))]
    rw [exSs_nx (ρ1 := [x0, some (.ref st), some t, some (.ref jn), some (.ref j1), some (.ref j2), some (.int (num one)), some (.int (num other)), some (encF (toldF one names)), some (encF (toldF other names)), some (.int k), some (.tup [encF (toldF (addL one other) names), encF (toldF (addL one (smul (-1) other)) names), encF (toldF (smul k one) names), encF (toldF (smul k (addL one (smul (-1) other))) names)]), x12, x13, x14, x15, x16, x17, x18]) (M1 := M8) (exS_asgN k6 (by simp))]
    rw [exSs_nx (ρ1 := [x0, some (.ref st), some t, some (.ref jn), some (.ref j1), some (.ref j2), some (.int (num one)), some (.int (num other)), some (encF (toldF one names)), some (encF (toldF other names)), some (.int k), some (.tup [encF (toldF (addL one other) names), encF (toldF (addL one (smul (-1) other)) names), encF (toldF (smul k one) names), encF (toldF (smul k (addL one (smul (-1) other))) names)]), x12, x13, x14, x15, x16, x17, x18]) (M1 := M8) (exS_ifF k7 rfl)]
    rw [exSs_nx (ρ1 := [x0, some (.ref st), some t, some (.ref jn), some (.ref j1), some (.ref j2), some (.int (num one)), some (.int (num other)), some (encF (toldF one names)), some (encF (toldF other names)), some (.int k), some (.tup [encF (toldF (addL one other) names), encF (toldF (addL one (smul (-1) other)) names), encF (toldF (smul k one) names), encF (toldF (smul k (addL one (smul (-1) other))) names)]), some (.ref js), x13, x14, x15, x16, x17, x18]) (M1 := MA) (exS_asgN k8 (by simp))]
    rw [exSs_nx (ρ1 := [x0, some (.ref st), some t, some (.ref jn), some (.ref j1), some (.ref j2), some (.int (num one)), some (.int (num other)), some (encF (toldF one names)), some (encF (toldF other names)), some (.int k), some (.tup [encF (toldF (addL one other) names), encF (toldF (addL one (smul (-1) other)) names), encF (toldF (smul k one) names), encF (toldF (smul k (addL one (smul (-1) other))) names)]), some (.ref js), some (.int (one.headD 0)), x14, x15, x16, x17, x18]) (M1 := MA) (exS_asgN k9 (by simp))]
    rw [exSs_nx (ρ1 := [x0, some (.ref st), some t, some (.ref jn), some (.ref j1), some (.ref j2), some (.int (num one)), some (.int (num other)), some (encF (toldF one names)), some (encF (toldF other names)), some (.int k), some (.tup [encF (toldF (addL one other) names), encF (toldF (addL one (smul (-1) other)) names), encF (toldF (smul k one) names), encF (toldF (smul k (addL one (smul (-1) other))) names)]), some (.ref js), some (.int (num Tt)), y14, y15, x16, x17, x18]) (M1 := MB) k10]
    rw [exSs_nx (ρ1 := [x0, some (.ref st), some t, some (.ref jn), some (.ref j1), some (.ref j2), some (.int (num one)), some (.int (num other)), some (encF (toldF one names)), some (encF (toldF other names)), some (.int k), some (.tup [encF (toldF (addL one other) names), encF (toldF (addL one (smul (-1) other)) names), encF (toldF (smul k one) names), encF (toldF (smul k (addL one (smul (-1) other))) names)]), some (.ref js), some (.int (num Tt)), y14, y15, x16, x17, x18]) (M1 := MB) (exS_ifF k11 rfl)]
    rw [exSs_nx (ρ1 := [x0, some (.ref st), some t, some (.ref jn), some (.ref j1), some (.ref j2), some (.int (num one)), some (.int (num other)), some (encF (toldF one names)), some (encF (toldF other names)), some (.int k), some (.tup [encF (toldF (addL one other) names), encF (toldF (addL one (smul (-1) other)) names), encF (toldF (smul k one) names), encF (toldF (smul k (addL one (smul (-1) other))) names)]), some (.ref js), some (.int (num Tt)), y14, y15, some (.ref jC), x17, x18]) (M1 := MC) (exS_asgN k12 (by simp))]
    rw [exSs_nx (ρ1 := [x0, some (.ref st), some t, some (.ref jn), some (.ref j1), some (.ref j2), some (.int (num one)), some (.int (num other)), some (encF (toldF one names)), some (encF (toldF other names)), some (.int k), some (.int (one.headD 0 + ((List.range names.length).map fun i => one.tail.getD i 0 * at_.getD i 0).sum)), some (.ref js), some (.int (num Tt)), y14, y15, some (.ref jC), x17, x18]) (M1 := MC) (exS_asgN k13 (by simp))]
    rw [exSs_nx (ρ1 := [x0, some (.ref st), some t, some (.ref jn), some (.ref j1), some (.ref j2), some (.int (num one)), some (.int (num other)), some (encF (toldF one names)), some (encF (toldF other names)), some (.int k), some (.int (one.headD 0 + ((List.range names.length).map fun i => one.tail.getD i 0 * at_.getD i 0).sum)), some (.ref js), some (.int (num Tt)), y14, y15, some (.ref jC), x17, x18]) (M1 := MC) (exS_ifF k14 rfl)]
    rw [exSs.eq_def]
  · exact (((((((((((nA.trans n1).trans n2).trans n3).trans n4).trans n5).trans n6).trans n7).trans n8).trans n9').trans nB).trans nC)
end K45

set_option Elab.async false
set_option linter.all false
set_option maxRecDepth 100000
set_option maxHeartbeats 4000000
/-! L45s: the law. -/
namespace K45
open PySem L2 PS
def W : Nat := 0
def fuel : Nat := 12
theorem turns_ok (W st : Nat) : ∀ (ts : List D) (ρ : PS.Env) (M : Store), ρ.length = 19 → ρ[1]? = some (some (.ref st)) → St M st → ∃ (ρ' : PS.Env) (M' : Store), forG (fun _ => true) (turnF (runF fds W 11) W (.name 2) bodyL) ts ρ M = some (.nx, ρ', M')
  | [], ρ, M, _, _, _ => ⟨ρ, M, by rw [forG, if_pos rfl]⟩
  | t :: ts, ρ, M, hl, h1, hst => by
    obtain ⟨ρ1, M1, e, l1, r1, nx⟩ : ∃ (ρ' : PS.Env) (M' : Store), turnF (runF fds W 11) W (.name 2) bodyL t ρ M = some (.nx, ρ', M') ∧ ρ'.length = 19 ∧ ρ'[1]? = some (some (.ref st)) ∧ Nx st M M' := by
      match ρ, hl, h1 with
      | [x0, x1, x2, x3, x4, x5, x6, x7, x8, x9, x10, x11, x12, x13, x14, x15, x16, x17, x18], _, h1 =>
        have h1 : x1 = some (.ref st) := by simpa using h1
        subst h1
        exact turn_ok W st t M hst x0 x2 x3 x4 x5 x6 x7 x8 x9 x10 x11 x12 x13 x14 x15 x16 x17 x18
    obtain ⟨ρ2, M2, e2⟩ := turns_ok W st ts ρ1 M1 l1 r1 nx.st
    exact ⟨ρ2, M2, (forG_nx rfl e).trans e2⟩
theorem gc_bl (M M' : Store) (b : Bool) : ∃ M2, gcRet M (.bl b) M' = (.bl b, M2) := by
  unfold gcRet
  split
  · exact ⟨_, if_pos rfl⟩
  · exact ⟨_, rfl⟩
theorem law_true (ns : List Int) (h : ns.length ≤ 63) : ∃ M', runF fds W fuel 16 [.ref 0] [.frz (ns.map D.int)] = some (.bl true, M') := by
  obtain ⟨M1, e1, hst⟩ := start_run W 10 ns (by omega)
  obtain ⟨ρ2, M2, e2⟩ := turns_ok W 2 (rng0 6) [some (.ref 0), some (.ref 2), none, none, none, none, none, none, none, none, none, none, none, none, none, none, none, none, none] M1 rfl rfl hst
  have hx : exSs (runF fds W 11) W b16 [some (.ref 0), none, none, none, none, none, none, none, none, none, none, none, none, none, none, none, none, none, none] [.frz (ns.map D.int)] = some (.rt (.bl true), ρ2, M2) := by
    have k1 : evE (runF fds W 11) (.call 6 (.cons (.var 0) .nil)) [some (.ref 0), none, none, none, none, none, none, none, none, none, none, none, none, none, none, none, none, none, none] [.frz (ns.map D.int)] = some (.ref 2, M1) := by
      simp only [exSs, exS, evE, evEs, evO, evP, evL, evQ, evI, asT, asTs, wipeD, List.map_cons, List.map_nil, List.getElem?_cons_zero, List.getElem?_cons_succ, List.getElem?_nil, List.set_cons_zero, List.set_cons_succ, List.length_cons, List.length_nil, Nat.reduceAdd, Nat.reduceLT, Nat.zero_lt_succ, Nat.succ_lt_succ_iff, if_true, if_false, ite_true, ite_false, Bool.false_eq_true, Bool.not_true, Bool.not_false, recv, mthS, keyOf, binS, putS, Option.map_some, Option.bind_some, Option.map_none, Option.bind_none, idxS, items, itemsL, itemsW, truth, lim0, lim1, lim2, lim3, lim4, lim5, e1]
    have k2 := (exS_fr (W := W) (b := bodyL) (t := .name 2) (evI_rng (Φ := runF fds W 11) (a := .int 6) (ρ := [some (.ref 0), some (.ref 2), none, none, none, none, none, none, none, none, none, none, none, none, none, none, none, none, none]) (M := M1) (M1 := M1) (n := 6) (by simp only [exSs, exS, evE, evEs, evO, evP, evL, evQ, evI, asT, asTs, wipeD, List.map_cons, List.map_nil, List.getElem?_cons_zero, List.getElem?_cons_succ, List.getElem?_nil, List.set_cons_zero, List.set_cons_succ, List.length_cons, List.length_nil, Nat.reduceAdd, Nat.reduceLT, Nat.zero_lt_succ, Nat.succ_lt_succ_iff, if_true, if_false, ite_true, ite_false, Bool.false_eq_true, Bool.not_true, Bool.not_false, recv, mthS, keyOf, binS, putS, Option.map_some, Option.bind_some, Option.map_none, Option.bind_none, idxS, items, itemsL, itemsW, truth, lim0, lim1, lim2, lim3, lim4, lim5]; rfl) (by decide))).trans e2
    unfold bodyL b16 at k2
    dsimp only at k2
    unfold b16
    rw [exSs_nx (ρ1 := [some (.ref 0), some (.ref 2), none, none, none, none, none, none, none, none, none, none, none, none, none, none, none, none, none]) (M1 := M1) (exS_asgN k1 (by simp))]
    rw [exSs_nx k2]
    exact exSs_rt (exS_ret (by simp only [exSs, exS, evE, evEs, evO, evP, evL, evQ, evI, asT, asTs, wipeD, List.map_cons, List.map_nil, List.getElem?_cons_zero, List.getElem?_cons_succ, List.getElem?_nil, List.set_cons_zero, List.set_cons_succ, List.length_cons, List.length_nil, Nat.reduceAdd, Nat.reduceLT, Nat.zero_lt_succ, Nat.succ_lt_succ_iff, if_true, if_false, ite_true, ite_false, Bool.false_eq_true, Bool.not_true, Bool.not_false, recv, mthS, keyOf, binS, putS, Option.map_some, Option.bind_some, Option.map_none, Option.bind_none, idxS, items, itemsL, itemsW, truth, lim0, lim1, lim2, lim3, lim4, lim5]))
  have hr := runF_rt (W := W) (k := 11) (f := 16) (fd := ⟨1, 19, b16⟩) (ds := [.ref 0]) (M := [.frz (ns.map D.int)]) rfl rfl hx
  obtain ⟨M3, e3⟩ := gc_bl [.frz (ns.map D.int)] M2 true
  rw [e3] at hr
  exact ⟨M3, hr⟩
end K45

set_option Elab.async false
set_option linter.all false
set_option maxRecDepth 100000
set_option maxHeartbeats 4000000
set_option pp.maxSteps 400
set_option pp.deepTerms false
namespace K45
open PySem PySem.Spec PyProof.Rows L2 PS
def tb : Tb0 := ⟨[("form", 2), ("plus", 2), ("times", 2), ("minus", 2), ("image", 2), ("value", 2), ("_law_start", 1), ("_law_draw", 2), ("_law_shuffled", 2), ("_law_is_int", 1), ("_law_same", 2), ("_law_base", 0), ("_law_told", 2), ("_law_number", 1), ("_law_digits", 2), ("_law_in_parts", 3), ("law", 1)], [("ZERO", .tup [.int 0, .tup []])]⟩
def topS (i : Nat) : Stmt := PySem.Challenge.pw_fewkinds_k45_forms_as_great_numbers.main.body.getD i (.Pass ⟨0, 0, 0, 0⟩)
def sts : List Stmt := [topS 2, topS 3, topS 4, topS 5, topS 6, topS 7, topS 9, topS 10, topS 11, topS 12, topS 13, topS 14, topS 15, topS 16, topS 17, topS 18, topS 19]
def Ns : List (List Str) := [n0, n1, n2, n3, n4, n5, n6, n7, n8, n9, n10, n11, n12, n13, n14, n15, n16]
theorem ck_0 : ckFn tb fds sts Ns 0 = true := by decide +kernel
theorem ck_1 : ckFn tb fds sts Ns 1 = true := by decide +kernel
theorem ck_2 : ckFn tb fds sts Ns 2 = true := by decide +kernel
theorem ck_3 : ckFn tb fds sts Ns 3 = true := by decide +kernel
theorem ck_4 : ckFn tb fds sts Ns 4 = true := by decide +kernel
theorem ck_5 : ckFn tb fds sts Ns 5 = true := by decide +kernel
theorem ck_6 : ckFn tb fds sts Ns 6 = true := by decide +kernel
theorem ck_7 : ckFn tb fds sts Ns 7 = true := by decide +kernel
theorem ck_8 : ckFn tb fds sts Ns 8 = true := by decide +kernel
theorem ck_9 : ckFn tb fds sts Ns 9 = true := by decide +kernel
theorem ck_10 : ckFn tb fds sts Ns 10 = true := by decide +kernel
theorem ck_11 : ckFn tb fds sts Ns 11 = true := by decide +kernel
theorem ck_12 : ckFn tb fds sts Ns 12 = true := by decide +kernel
theorem ck_13 : ckFn tb fds sts Ns 13 = true := by decide +kernel
theorem ck_14 : ckFn tb fds sts Ns 14 = true := by decide +kernel
theorem ck_15 : ckFn tb fds sts Ns 15 = true := by decide +kernel
theorem ck_16 : ckFn tb fds sts Ns 16 = true := by decide +kernel
theorem ck_all : ∀ f, f < tb.fn.length → ckFn tb fds sts Ns f = true := by
  intro f h
  have h : f < 17 := h
  match f, h with
  | 0, _ => exact ck_0
  | 1, _ => exact ck_1
  | 2, _ => exact ck_2
  | 3, _ => exact ck_3
  | 4, _ => exact ck_4
  | 5, _ => exact ck_5
  | 6, _ => exact ck_6
  | 7, _ => exact ck_7
  | 8, _ => exact ck_8
  | 9, _ => exact ck_9
  | 10, _ => exact ck_10
  | 11, _ => exact ck_11
  | 12, _ => exact ck_12
  | 13, _ => exact ck_13
  | 14, _ => exact ck_14
  | 15, _ => exact ck_15
  | 16, _ => exact ck_16
  | f + 17, h => exact absurd h (by omega)
theorem all_mk {P : Program} {w : World} {K : PySem.W.Frag} {h : Heap} {mg : Str → Option Value} {fa f0 f1 f2 f3 f4 f5 f6 f7 f8 f9 f10 f11 f12 f13 f14 f15 f16 y0_1 y0_0 : Addr} (X : K.In h) (G : h.Ns mainGlobals mg) (hfa : mg "law" = some (.ref fa))
    {od0 an0 od1 an1 od2 an2 od3 an3 od4 an4 od5 an5 od6 an6 od7 an7 od8 an8 od9 an9 od10 an10 od11 an11 od12 an12 od13 an13 od14 an14 od15 an15 od16 an16 uy0_1 uy0_0 : Option Addr} {sl0 sl1 sl2 sl3 sl4 sl5 sl6 sl7 sl8 sl9 sl10 sl11 sl12 sl13 sl14 sl15 sl16 wy0_1 wy0_0 : Array (Option Value)} {oc0 kV0 dc0 pm0 cd0 ct0 oc1 kV1 dc1 pm1 cd1 ct1 oc2 kV2 dc2 pm2 cd2 ct2 oc3 kV3 dc3 pm3 cd3 ct3 oc4 kV4 dc4 pm4 cd4 ct4 oc5 kV5 dc5 pm5 cd5 ct5 oc6 kV6 dc6 pm6 cd6 ct6 oc7 kV7 dc7 pm7 cd7 ct7 oc8 kV8 dc8 pm8 cd8 ct8 oc9 kV9 dc9 pm9 cd9 ct9 oc10 kV10 dc10 pm10 cd10 ct10 oc11 kV11 dc11 pm11 cd11 ct11 oc12 kV12 dc12 pm12 cd12 ct12 oc13 kV13 dc13 pm13 cd13 ct13 oc14 kV14 dc14 pm14 cd14 ct14 oc15 kV15 dc15 pm15 cd15 ct15 oc16 kV16 dc16 pm16 cd16 ct16 : Value}
    {my0_1 my0_0 : Nat}
    {tk0 : Tok}
    (a0 : PySem.W.nsIn K mainGlobals "form" = some (some (.ref f0))) (l0 : K.lookup f0 = some ⟨oc0, od0, .func (PySem.W.fnOf "form" "form" (defArgs (topS 2)) (defBody (topS 2)) (defScope (topS 2)) .none kV0 dc0 pm0 an0 cd0 ct0), sl0⟩) (c0 : PySem.W.codeIn K cd0 "form" = true) (k0 : PySem.W.keepIn K (.ref f0) = true)
    (a1 : PySem.W.nsIn K mainGlobals "plus" = some (some (.ref f1))) (l1 : K.lookup f1 = some ⟨oc1, od1, .func (PySem.W.fnOf "plus" "plus" (defArgs (topS 3)) (defBody (topS 3)) (defScope (topS 3)) .none kV1 dc1 pm1 an1 cd1 ct1), sl1⟩) (c1 : PySem.W.codeIn K cd1 "plus" = true) (k1 : PySem.W.keepIn K (.ref f1) = true)
    (a2 : PySem.W.nsIn K mainGlobals "times" = some (some (.ref f2))) (l2 : K.lookup f2 = some ⟨oc2, od2, .func (PySem.W.fnOf "times" "times" (defArgs (topS 4)) (defBody (topS 4)) (defScope (topS 4)) .none kV2 dc2 pm2 an2 cd2 ct2), sl2⟩) (c2 : PySem.W.codeIn K cd2 "times" = true) (k2 : PySem.W.keepIn K (.ref f2) = true)
    (a3 : PySem.W.nsIn K mainGlobals "minus" = some (some (.ref f3))) (l3 : K.lookup f3 = some ⟨oc3, od3, .func (PySem.W.fnOf "minus" "minus" (defArgs (topS 5)) (defBody (topS 5)) (defScope (topS 5)) .none kV3 dc3 pm3 an3 cd3 ct3), sl3⟩) (c3 : PySem.W.codeIn K cd3 "minus" = true) (k3 : PySem.W.keepIn K (.ref f3) = true)
    (a4 : PySem.W.nsIn K mainGlobals "image" = some (some (.ref f4))) (l4 : K.lookup f4 = some ⟨oc4, od4, .func (PySem.W.fnOf "image" "image" (defArgs (topS 6)) (defBody (topS 6)) (defScope (topS 6)) .none kV4 dc4 pm4 an4 cd4 ct4), sl4⟩) (c4 : PySem.W.codeIn K cd4 "image" = true) (k4 : PySem.W.keepIn K (.ref f4) = true)
    (a5 : PySem.W.nsIn K mainGlobals "value" = some (some (.ref f5))) (l5 : K.lookup f5 = some ⟨oc5, od5, .func (PySem.W.fnOf "value" "value" (defArgs (topS 7)) (defBody (topS 7)) (defScope (topS 7)) .none kV5 dc5 pm5 an5 cd5 ct5), sl5⟩) (c5 : PySem.W.codeIn K cd5 "value" = true) (k5 : PySem.W.keepIn K (.ref f5) = true)
    (a6 : PySem.W.nsIn K mainGlobals "_law_start" = some (some (.ref f6))) (l6 : K.lookup f6 = some ⟨oc6, od6, .func (PySem.W.fnOf "_law_start" "_law_start" (defArgs (topS 9)) (defBody (topS 9)) (defScope (topS 9)) .none kV6 dc6 pm6 an6 cd6 ct6), sl6⟩) (c6 : PySem.W.codeIn K cd6 "_law_start" = true) (k6 : PySem.W.keepIn K (.ref f6) = true)
    (a7 : PySem.W.nsIn K mainGlobals "_law_draw" = some (some (.ref f7))) (l7 : K.lookup f7 = some ⟨oc7, od7, .func (PySem.W.fnOf "_law_draw" "_law_draw" (defArgs (topS 10)) (defBody (topS 10)) (defScope (topS 10)) .none kV7 dc7 pm7 an7 cd7 ct7), sl7⟩) (c7 : PySem.W.codeIn K cd7 "_law_draw" = true) (k7 : PySem.W.keepIn K (.ref f7) = true)
    (a8 : PySem.W.nsIn K mainGlobals "_law_shuffled" = some (some (.ref f8))) (l8 : K.lookup f8 = some ⟨oc8, od8, .func (PySem.W.fnOf "_law_shuffled" "_law_shuffled" (defArgs (topS 11)) (defBody (topS 11)) (defScope (topS 11)) .none kV8 dc8 pm8 an8 cd8 ct8), sl8⟩) (c8 : PySem.W.codeIn K cd8 "_law_shuffled" = true) (k8 : PySem.W.keepIn K (.ref f8) = true)
    (a9 : PySem.W.nsIn K mainGlobals "_law_is_int" = some (some (.ref f9))) (l9 : K.lookup f9 = some ⟨oc9, od9, .func (PySem.W.fnOf "_law_is_int" "_law_is_int" (defArgs (topS 12)) (defBody (topS 12)) (defScope (topS 12)) .none kV9 dc9 pm9 an9 cd9 ct9), sl9⟩) (c9 : PySem.W.codeIn K cd9 "_law_is_int" = true) (k9 : PySem.W.keepIn K (.ref f9) = true)
    (a10 : PySem.W.nsIn K mainGlobals "_law_same" = some (some (.ref f10))) (l10 : K.lookup f10 = some ⟨oc10, od10, .func (PySem.W.fnOf "_law_same" "_law_same" (defArgs (topS 13)) (defBody (topS 13)) (defScope (topS 13)) .none kV10 dc10 pm10 an10 cd10 ct10), sl10⟩) (c10 : PySem.W.codeIn K cd10 "_law_same" = true) (k10 : PySem.W.keepIn K (.ref f10) = true)
    (a11 : PySem.W.nsIn K mainGlobals "_law_base" = some (some (.ref f11))) (l11 : K.lookup f11 = some ⟨oc11, od11, .func (PySem.W.fnOf "_law_base" "_law_base" (defArgs (topS 14)) (defBody (topS 14)) (defScope (topS 14)) .none kV11 dc11 pm11 an11 cd11 ct11), sl11⟩) (c11 : PySem.W.codeIn K cd11 "_law_base" = true) (k11 : PySem.W.keepIn K (.ref f11) = true)
    (a12 : PySem.W.nsIn K mainGlobals "_law_told" = some (some (.ref f12))) (l12 : K.lookup f12 = some ⟨oc12, od12, .func (PySem.W.fnOf "_law_told" "_law_told" (defArgs (topS 15)) (defBody (topS 15)) (defScope (topS 15)) .none kV12 dc12 pm12 an12 cd12 ct12), sl12⟩) (c12 : PySem.W.codeIn K cd12 "_law_told" = true) (k12 : PySem.W.keepIn K (.ref f12) = true)
    (a13 : PySem.W.nsIn K mainGlobals "_law_number" = some (some (.ref f13))) (l13 : K.lookup f13 = some ⟨oc13, od13, .func (PySem.W.fnOf "_law_number" "_law_number" (defArgs (topS 16)) (defBody (topS 16)) (defScope (topS 16)) .none kV13 dc13 pm13 an13 cd13 ct13), sl13⟩) (c13 : PySem.W.codeIn K cd13 "_law_number" = true) (k13 : PySem.W.keepIn K (.ref f13) = true)
    (a14 : PySem.W.nsIn K mainGlobals "_law_digits" = some (some (.ref f14))) (l14 : K.lookup f14 = some ⟨oc14, od14, .func (PySem.W.fnOf "_law_digits" "_law_digits" (defArgs (topS 17)) (defBody (topS 17)) (defScope (topS 17)) .none kV14 dc14 pm14 an14 cd14 ct14), sl14⟩) (c14 : PySem.W.codeIn K cd14 "_law_digits" = true) (k14 : PySem.W.keepIn K (.ref f14) = true)
    (a15 : PySem.W.nsIn K mainGlobals "_law_in_parts" = some (some (.ref f15))) (l15 : K.lookup f15 = some ⟨oc15, od15, .func (PySem.W.fnOf "_law_in_parts" "_law_in_parts" (defArgs (topS 18)) (defBody (topS 18)) (defScope (topS 18)) .none kV15 dc15 pm15 an15 cd15 ct15), sl15⟩) (c15 : PySem.W.codeIn K cd15 "_law_in_parts" = true) (k15 : PySem.W.keepIn K (.ref f15) = true)
    (a16 : PySem.W.nsIn K mainGlobals "law" = some (some (.ref f16))) (l16 : K.lookup f16 = some ⟨oc16, od16, .func (PySem.W.fnOf "law" "law" (defArgs (topS 19)) (defBody (topS 19)) (defScope (topS 19)) .none kV16 dc16 pm16 an16 cd16 ct16), sl16⟩) (c16 : PySem.W.codeIn K cd16 "law" = true) (k16 : PySem.W.keepIn K (.ref f16) = true)
    (z0 : PySem.W.nsIn K mainGlobals "len" = some none)
    (z1 : PySem.W.nsIn K mainGlobals "sum" = some none)
    (z2 : PySem.W.nsIn K mainGlobals "any" = some none)
    (z3 : PySem.W.nsIn K mainGlobals "all" = some none)
    (z4 : PySem.W.nsIn K mainGlobals "min" = some none)
    (z5 : PySem.W.nsIn K mainGlobals "max" = some none)
    (z6 : PySem.W.nsIn K mainGlobals "tuple" = some none)
    (z7 : PySem.W.nsIn K mainGlobals "list" = some none)
    (z8 : PySem.W.nsIn K mainGlobals "range" = some none)
    (z9 : PySem.W.nsIn K mainGlobals "abs" = some none)
    (z10 : PySem.W.nsIn K mainGlobals "int" = some none)
    (z11 : PySem.W.nsIn K mainGlobals "isinstance" = some none)
    (z12 : PySem.W.nsIn K mainGlobals "sorted" = some none)
    (z13 : PySem.W.nsIn K mainGlobals "set" = some none)
    (z14 : PySem.W.nsIn K mainGlobals "zip" = some none)
    (z15 : PySem.W.nsIn K mainGlobals "enumerate" = some none)
    (z16 : PySem.W.nsIn K mainGlobals "str" = some none)
    (z17 : PySem.W.nsIn K mainGlobals "bool" = some none)
    (b0 : PySem.W.nsIn K mainGlobals "ZERO" = some (some (.ref y0_0)))
    (qy0_0 : K.lookup y0_0 = some ⟨.type "tuple", uy0_0, .seq #[.int 0 tk0, .ref y0_1] my0_0, wy0_0⟩)
    (qy0_1 : K.lookup y0_1 = some ⟨.type "tuple", uy0_1, .seq #[] my0_1, wy0_1⟩)
    (W k : Nat) : ∃ fd : FuncData, (∀ (s : Shared) (v : Value), BindsTo s fd ⟨[v], []⟩ [("script", v)]) ∧ ∀ base : Heap, K.In base → base.Ns mainGlobals mg → FnOk P w K mg base CX0 k fa fd ["script"] (spF K 1 (runF fds W k 16)) := by
  have pf : PF K mg tb sts Ns := by
    refine ⟨fun x hx => ?_, fun x d hx => ?_, fun f x n hf => ?_⟩
    · simp only [bltN, List.mem_cons, List.not_mem_nil, or_false] at hx
      rcases hx with rfl | rfl | rfl | rfl | rfl | rfl | rfl | rfl | rfl | rfl | rfl | rfl | rfl | rfl | rfl | rfl | rfl | rfl
      · exact PySem.W.mg_none_of X G z0
      · exact PySem.W.mg_none_of X G z1
      · exact PySem.W.mg_none_of X G z2
      · exact PySem.W.mg_none_of X G z3
      · exact PySem.W.mg_none_of X G z4
      · exact PySem.W.mg_none_of X G z5
      · exact PySem.W.mg_none_of X G z6
      · exact PySem.W.mg_none_of X G z7
      · exact PySem.W.mg_none_of X G z8
      · exact PySem.W.mg_none_of X G z9
      · exact PySem.W.mg_none_of X G z10
      · exact PySem.W.mg_none_of X G z11
      · exact PySem.W.mg_none_of X G z12
      · exact PySem.W.mg_none_of X G z13
      · exact PySem.W.mg_none_of X G z14
      · exact PySem.W.mg_none_of X G z15
      · exact PySem.W.mg_none_of X G z16
      · exact PySem.W.mg_none_of X G z17
    · have hx : (x, d) ∈ [(("ZERO" : Str), (.tup [.int 0, .tup []] : D))] := hx
      simp only [List.mem_cons, List.not_mem_nil, or_false, Prod.mk.injEq] at hx
      rcases hx with ⟨rfl, rfl⟩
      · exact ⟨_, (.ref y0_0 : V), PySem.W.mg_of X G b0, rfl, fun H L => ⟨_, ([.int 0, .ref y0_1] : List V), rfl, .inr ⟨_, _, _, qy0_0, rfl, rfl, (show 2 ≤ sizeLine by decide), (.cons ⟨_, rfl⟩ (.cons rfl .nil))⟩, ⟨_, _, rfl, rfl, ⟨_, _, rfl, ⟨_, ([] : List V), rfl, .inr ⟨_, _, _, qy0_1, rfl, rfl, (show 0 ≤ sizeLine by decide), .nil⟩, rfl⟩, rfl⟩⟩⟩⟩
    · match f, hf with
      | 0, hf =>
        have hf : some (("form" : Str), 2) = some (x, n) := hf
        cases hf
        exact ⟨_, _, ⟨_, rfl, fun_mk (st := topS 2) l0 c0 k0⟩, PySem.W.mg_of X G a0, _, rfl, by decide, fun us hl => match us, hl with | [_, _], _ => rfl⟩
      | 1, hf =>
        have hf : some (("plus" : Str), 2) = some (x, n) := hf
        cases hf
        exact ⟨_, _, ⟨_, rfl, fun_mk (st := topS 3) l1 c1 k1⟩, PySem.W.mg_of X G a1, _, rfl, by decide, fun us hl => match us, hl with | [_, _], _ => rfl⟩
      | 2, hf =>
        have hf : some (("times" : Str), 2) = some (x, n) := hf
        cases hf
        exact ⟨_, _, ⟨_, rfl, fun_mk (st := topS 4) l2 c2 k2⟩, PySem.W.mg_of X G a2, _, rfl, by decide, fun us hl => match us, hl with | [_, _], _ => rfl⟩
      | 3, hf =>
        have hf : some (("minus" : Str), 2) = some (x, n) := hf
        cases hf
        exact ⟨_, _, ⟨_, rfl, fun_mk (st := topS 5) l3 c3 k3⟩, PySem.W.mg_of X G a3, _, rfl, by decide, fun us hl => match us, hl with | [_, _], _ => rfl⟩
      | 4, hf =>
        have hf : some (("image" : Str), 2) = some (x, n) := hf
        cases hf
        exact ⟨_, _, ⟨_, rfl, fun_mk (st := topS 6) l4 c4 k4⟩, PySem.W.mg_of X G a4, _, rfl, by decide, fun us hl => match us, hl with | [_, _], _ => rfl⟩
      | 5, hf =>
        have hf : some (("value" : Str), 2) = some (x, n) := hf
        cases hf
        exact ⟨_, _, ⟨_, rfl, fun_mk (st := topS 7) l5 c5 k5⟩, PySem.W.mg_of X G a5, _, rfl, by decide, fun us hl => match us, hl with | [_, _], _ => rfl⟩
      | 6, hf =>
        have hf : some (("_law_start" : Str), 1) = some (x, n) := hf
        cases hf
        exact ⟨_, _, ⟨_, rfl, fun_mk (st := topS 9) l6 c6 k6⟩, PySem.W.mg_of X G a6, _, rfl, by decide, fun us hl => match us, hl with | [_], _ => rfl⟩
      | 7, hf =>
        have hf : some (("_law_draw" : Str), 2) = some (x, n) := hf
        cases hf
        exact ⟨_, _, ⟨_, rfl, fun_mk (st := topS 10) l7 c7 k7⟩, PySem.W.mg_of X G a7, _, rfl, by decide, fun us hl => match us, hl with | [_, _], _ => rfl⟩
      | 8, hf =>
        have hf : some (("_law_shuffled" : Str), 2) = some (x, n) := hf
        cases hf
        exact ⟨_, _, ⟨_, rfl, fun_mk (st := topS 11) l8 c8 k8⟩, PySem.W.mg_of X G a8, _, rfl, by decide, fun us hl => match us, hl with | [_, _], _ => rfl⟩
      | 9, hf =>
        have hf : some (("_law_is_int" : Str), 1) = some (x, n) := hf
        cases hf
        exact ⟨_, _, ⟨_, rfl, fun_mk (st := topS 12) l9 c9 k9⟩, PySem.W.mg_of X G a9, _, rfl, by decide, fun us hl => match us, hl with | [_], _ => rfl⟩
      | 10, hf =>
        have hf : some (("_law_same" : Str), 2) = some (x, n) := hf
        cases hf
        exact ⟨_, _, ⟨_, rfl, fun_mk (st := topS 13) l10 c10 k10⟩, PySem.W.mg_of X G a10, _, rfl, by decide, fun us hl => match us, hl with | [_, _], _ => rfl⟩
      | 11, hf =>
        have hf : some (("_law_base" : Str), 0) = some (x, n) := hf
        cases hf
        exact ⟨_, _, ⟨_, rfl, fun_mk (st := topS 14) l11 c11 k11⟩, PySem.W.mg_of X G a11, _, rfl, by decide, fun us hl => match us, hl with | [], _ => rfl⟩
      | 12, hf =>
        have hf : some (("_law_told" : Str), 2) = some (x, n) := hf
        cases hf
        exact ⟨_, _, ⟨_, rfl, fun_mk (st := topS 15) l12 c12 k12⟩, PySem.W.mg_of X G a12, _, rfl, by decide, fun us hl => match us, hl with | [_, _], _ => rfl⟩
      | 13, hf =>
        have hf : some (("_law_number" : Str), 1) = some (x, n) := hf
        cases hf
        exact ⟨_, _, ⟨_, rfl, fun_mk (st := topS 16) l13 c13 k13⟩, PySem.W.mg_of X G a13, _, rfl, by decide, fun us hl => match us, hl with | [_], _ => rfl⟩
      | 14, hf =>
        have hf : some (("_law_digits" : Str), 2) = some (x, n) := hf
        cases hf
        exact ⟨_, _, ⟨_, rfl, fun_mk (st := topS 17) l14 c14 k14⟩, PySem.W.mg_of X G a14, _, rfl, by decide, fun us hl => match us, hl with | [_, _], _ => rfl⟩
      | 15, hf =>
        have hf : some (("_law_in_parts" : Str), 3) = some (x, n) := hf
        cases hf
        exact ⟨_, _, ⟨_, rfl, fun_mk (st := topS 18) l15 c15 k15⟩, PySem.W.mg_of X G a15, _, rfl, by decide, fun us hl => match us, hl with | [_, _, _], _ => rfl⟩
      | 16, hf =>
        have hf : some (("law" : Str), 1) = some (x, n) := hf
        cases hf
        exact ⟨_, _, ⟨_, rfl, fun_mk (st := topS 19) l16 c16 k16⟩, PySem.W.mg_of X G a16, _, rfl, by decide, fun us hl => match us, hl with | [_], _ => rfl⟩
      | f + 17, hf =>
        exact absurd hf (by simp [tb])
  exact law_F pf ck_all (lf := 16) rfl rfl rfl hfa
end K45
open PySem PySem.W PyProof.Rows
set_option maxHeartbeats 0 in
theorem PySem.Challenge.cw_fewkinds_k45_forms_as_great_numbers_holds : PySem.Challenge.rw_fewkinds_k45_forms_as_great_numbers.Holds := by
  w_on; o_law; k_head; (case hw => w_witness2)
  k_fill
  refine L2.walk_of (l := PySem.Challenge.rw_fewkinds_k45_forms_as_great_numbers) (n := 63) (k := K45.fuel) (x := "script") (CX := fun _ => L2.CX0) (sp := fun w => PS.spF _ 1 (PS.runF K45.fds K45.W K45.fuel 16)) rfl (by decide) rfl ⟨rfl, by decide, by decide⟩ (fun w h Y => PySem.W.kIn_of Y) ?F (fun _ _ a ms hl ho hS => PS.sp_script ho hS (K45.law_true ms hl)) (fun _ _ _ _ _ h => h)
  case F =>
    intro w mg fa h KX G hmg
    refine' K45.all_mk KX G hmg ?a0 ?l0 ?c0 ?k0 ?a1 ?l1 ?c1 ?k1 ?a2 ?l2 ?c2 ?k2 ?a3 ?l3 ?c3 ?k3 ?a4 ?l4 ?c4 ?k4 ?a5 ?l5 ?c5 ?k5 ?a6 ?l6 ?c6 ?k6 ?a7 ?l7 ?c7 ?k7 ?a8 ?l8 ?c8 ?k8 ?a9 ?l9 ?c9 ?k9 ?a10 ?l10 ?c10 ?k10 ?a11 ?l11 ?c11 ?k11 ?a12 ?l12 ?c12 ?k12 ?a13 ?l13 ?c13 ?k13 ?a14 ?l14 ?c14 ?k14 ?a15 ?l15 ?c15 ?k15 ?a16 ?l16 ?c16 ?k16 ?z0 ?z1 ?z2 ?z3 ?z4 ?z5 ?z6 ?z7 ?z8 ?z9 ?z10 ?z11 ?z12 ?z13 ?z14 ?z15 ?z16 ?z17 ?b0 ?qy0_0 ?qy0_1 K45.W K45.fuel
    (case a0 => k_is)
    (case l0 => k_is)
    (case c0 => k_is)
    (case k0 => k_is)
    (case a1 => k_is)
    (case l1 => k_is)
    (case c1 => k_is)
    (case k1 => k_is)
    (case a2 => k_is)
    (case l2 => k_is)
    (case c2 => k_is)
    (case k2 => k_is)
    (case a3 => k_is)
    (case l3 => k_is)
    (case c3 => k_is)
    (case k3 => k_is)
    (case a4 => k_is)
    (case l4 => k_is)
    (case c4 => k_is)
    (case k4 => k_is)
    (case a5 => k_is)
    (case l5 => k_is)
    (case c5 => k_is)
    (case k5 => k_is)
    (case a6 => k_is)
    (case l6 => k_is)
    (case c6 => k_is)
    (case k6 => k_is)
    (case a7 => k_is)
    (case l7 => k_is)
    (case c7 => k_is)
    (case k7 => k_is)
    (case a8 => k_is)
    (case l8 => k_is)
    (case c8 => k_is)
    (case k8 => k_is)
    (case a9 => k_is)
    (case l9 => k_is)
    (case c9 => k_is)
    (case k9 => k_is)
    (case a10 => k_is)
    (case l10 => k_is)
    (case c10 => k_is)
    (case k10 => k_is)
    (case a11 => k_is)
    (case l11 => k_is)
    (case c11 => k_is)
    (case k11 => k_is)
    (case a12 => k_is)
    (case l12 => k_is)
    (case c12 => k_is)
    (case k12 => k_is)
    (case a13 => k_is)
    (case l13 => k_is)
    (case c13 => k_is)
    (case k13 => k_is)
    (case a14 => k_is)
    (case l14 => k_is)
    (case c14 => k_is)
    (case k14 => k_is)
    (case a15 => k_is)
    (case l15 => k_is)
    (case c15 => k_is)
    (case k15 => k_is)
    (case a16 => k_is)
    (case l16 => k_is)
    (case c16 => k_is)
    (case k16 => k_is)
    (case z0 => k_is)
    (case z1 => k_is)
    (case z2 => k_is)
    (case z3 => k_is)
    (case z4 => k_is)
    (case z5 => k_is)
    (case z6 => k_is)
    (case z7 => k_is)
    (case z8 => k_is)
    (case z9 => k_is)
    (case z10 => k_is)
    (case z11 => k_is)
    (case z12 => k_is)
    (case z13 => k_is)
    (case z14 => k_is)
    (case z15 => k_is)
    (case z16 => k_is)
    (case z17 => k_is)
    (case b0 => k_is)
    (case qy0_0 => k_is)
    (case qy0_1 => k_is)
