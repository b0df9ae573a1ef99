import PyProof.Rows.All
import Wide.All
import OpenK.AllK
import Wide.FinOn
import HandS.Base
import HandS.Call
import HandS.List
import HandS.Comp
import HandS.Dict
import HandS.Iter
import HandS.Walk
import KE.SortData
import HandS.TupAny
import HandS.Deep
import HandS.IsInst
import HandS.Zip
import HandS.Conv
import HandS.Text
import HandS.More
import HandS.Words
import KE.GoesMore
import HandS.RepeatKit
import PyProof.TupleOfSeq
import HandS.Defaults
import HandS.TupSets
import HandS.SetKeys
import KE.KeyNested
import KE.KDictKeyed
import KE.BitLaws
import PyProof.FactsAll.set_2
import KE.KStateDown
import HandS.Ends
import HandS.Head0
import HandS.Head1
import HandS.Head2
import HandS.Head3
import HandS.HeadEnd
import HandS.HeadHook1
import HandS.HeadHook2
import PySem.Challenge.RW_whomayerr_k75_whole_growth
section
set_option Elab.async false
set_option linter.all false
set_option maxRecDepth 100000
set_option maxHeartbeats 4000000
/-! MPa: values, store, the small language and its evaluator. -/
namespace MP
open PySem

/-- a value: scalars, tuples, lists that are only read, sets that are only read, instances that are only read, a thing of the store -/
inductive D where
  | non
  | bl (b : Bool)
  | int (i : Int)
  | str (s : Str)
  | tup (xs : List D)
  | lst (xs : List D)
  | scr (ns : List Int)
  | set (xs : List D)
  | ins (c : Str) (ks : List Str) (xs : List D)
  | ref (n : Nat)

mutual
def D.beq : D → D → Bool
  | .non, .non => true
  | .bl a, .bl b => a == b
  | .int a, .int b => decide (a = b)
  | .str a, .str b => decide (a = b)
  | .tup a, .tup b => D.beqs a b
  | .lst a, .lst b => D.beqs a b
  | .scr a, .scr b => decide (a = b)
  | .set a, .set b => D.beqs a b
  | .ins c k a, .ins d l b => decide (c = d) && decide (k = l) && D.beqs a b
  | .ref a, .ref b => decide (a = b)
  | _, _ => false
def D.beqs : List D → List D → Bool
  | [], [] => true
  | a :: as, b :: bs => D.beq a b && D.beqs as bs
  | _, _ => false
end
mutual
theorem D.beq_ok : ∀ a b : D, D.beq a b = true → a = b
  | .non, b, h => by cases b <;> simp [D.beq] at h ⊢
  | .bl a, b, h => by cases b <;> simp [D.beq] at h ⊢; exact h
  | .int a, b, h => by cases b <;> simp [D.beq] at h ⊢; exact h
  | .str a, b, h => by cases b <;> simp [D.beq] at h ⊢; exact h
  | .tup a, b, h => by cases b <;> simp [D.beq] at h ⊢; exact D.beqs_ok a _ h
  | .lst a, b, h => by cases b <;> simp [D.beq] at h ⊢; exact D.beqs_ok a _ h
  | .scr a, b, h => by cases b <;> simp [D.beq] at h ⊢; exact h
  | .set a, b, h => by cases b <;> simp [D.beq] at h ⊢; exact D.beqs_ok a _ h
  | .ins c k a, b, h => by
    cases b <;> simp [D.beq] at h ⊢
    exact ⟨h.1.1, h.1.2, D.beqs_ok a _ h.2⟩
  | .ref a, b, h => by cases b <;> simp [D.beq] at h ⊢; exact h
theorem D.beqs_ok : ∀ a b : List D, D.beqs a b = true → a = b
  | [], b, h => by cases b <;> simp [D.beqs] at h ⊢
  | a :: as, b, h => by
    cases b <;> simp [D.beqs] at h ⊢
    exact ⟨D.beq_ok a _ h.1, D.beqs_ok as _ h.2⟩
end
mutual
theorem D.beq_self : ∀ a : D, D.beq a a = true
  | .non | .bl a | .int a | .str a | .ref a | .scr a => by simp [D.beq]
  | .tup a | .lst a | .set a => by rw [D.beq]; exact D.beqs_self a
  | .ins c k a => by rw [D.beq, D.beqs_self a]; simp
theorem D.beqs_self : ∀ a : List D, D.beqs a a = true
  | [] => by simp [D.beqs]
  | a :: as => by rw [D.beqs, D.beq_self a, D.beqs_self as]; rfl
end
instance : DecidableEq D := fun a b => if h : D.beq a b = true then .isTrue (D.beq_ok a b h) else .isFalse fun e => h (e ▸ D.beq_self a)

/-- a thing of the store -/
inductive Ob where
  | lst (xs : List D)
  | dct (kvs : List (L2.Key × D))
  | ins (c : Str) (fs : List (Str × D))
  deriving DecidableEq

abbrev Env := List (Option D)
abbrev Sto := List Ob

/-! ### data -/
mutual
def D.py : D → Option PyData
  | .non => some .none
  | .bl b => some (.bool b)
  | .int i => some (.int i)
  | .str s => some (.str s)
  | .tup xs => (D.pys xs).map .tuple
  | .lst xs => (D.pys xs).map .list
  | _ => none
def D.pys : List D → Option (List PyData)
  | [] => some []
  | x :: xs => match D.py x, D.pys xs with
    | some d, some ds => some (d :: ds)
    | _, _ => none
end

/-! ### operations on values -/
inductive BOp where | add | sub | mul | fdiv | mod | shl | shr | and | or | pow
  deriving DecidableEq
inductive COp where | eq | ne | lt | le | gt | ge | is | isnt | in_ | notin
  deriving DecidableEq
inductive Ty where | int | bool | str | tuple | list
  deriving DecidableEq
inductive Bf where | len | abs | int | tuple | list | sorted | set | min2 | max2 | min1 | max1 | all | any | sum | str
  deriving DecidableEq
inductive Mt where | append | extend | pop | popAt | insert | get
  deriving DecidableEq

def line : Nat := sizeLine

/-- the items of a list, a tuple or a list of the store -/
def itemsOf (st : Sto) : D → Option (List D)
  | .tup xs => some xs
  | .lst xs => some xs
  | .scr ns => some (ns.map .int)
  | .ref n => match st[n]? with
    | some (.lst xs) => some xs
    | _ => none
  | _ => none
def listOf (st : Sto) : D → Option (List D)
  | .lst xs => some xs
  | .ref n => match st[n]? with
    | some (.lst xs) => some xs
    | _ => none
  | _ => none

def mulOk (i j : Int) : Bool := decide ((-(2 ^ 64) < i ∧ i < 2 ^ 64) ∨ (-(2 ^ 64) < j ∧ j < 2 ^ 64))

/-- ints and texts -/
def D.scal : D → Bool
  | .int _ => true
  | .str _ => true
  | _ => false
def binD (op : BOp) (st : Sto) : D → D → Option D
  | .int i, .int j => match op with
    | .add => some (.int (i + j))
    | .sub => some (.int (i - j))
    | .mul => if mulOk i j then some (.int (i * j)) else none
    | .fdiv => if 0 < j ∧ j < 1073741824 then some (.int (i / j)) else none
    | .mod => if 0 < j then some (.int (i % j)) else none
    | .shl => if 0 ≤ j ∧ j ≤ 1000000 ∧ i.natAbs < 2 ^ 64 then some (.int (i * 2 ^ j.toNat)) else none
    | .shr => if 0 ≤ j then some (.int (i / 2 ^ j.toNat)) else none
    | .and => some (.int (Builtin.bitAnd i j))
    | .or => some (.int (Builtin.bitOr i j))
    | .pow => if 0 ≤ j ∧ j ≤ 1000000 ∧ i.natAbs < 2 ^ 64 then some (.int (i ^ j.toNat)) else none
  | .str x, .str y => match op with
    | .add => if x.length + y.length ≤ sizeLine then some (.str (x ++ y)) else none
    | _ => none
  | .tup xs, .tup ys => match op with
    | .add => if xs.length + ys.length ≤ sizeLine then some (.tup (xs ++ ys)) else none
    | _ => none
  | .set xs, .set ys => match op with
    | .or => if (xs ++ ys).all D.scal = true ∧ xs.length ≤ 4 ∧ ys.length ≤ 4 then some (.set (xs ++ ys)) else none
    | _ => none
  | a, b => match op with
    | .add => match listOf st a, listOf st b with
      | some xs, some ys => if xs.length + ys.length ≤ sizeLine then some (.lst (xs ++ ys)) else none
      | _, _ => none
    | _ => none

def keyD : D → Option L2.Key
  | .int i => some (Sum.inl i)
  | .str s => some (Sum.inr s)
  | _ => none
def valD (kvs : List (L2.Key × D)) (k : L2.Key) : Option D := (kvs.find? fun kv => decide (kv.1 = k)).map (·.2)
/-- == of data -/
def eqD (a b : D) : Option Bool := match D.py a, D.py b with
  | some x, some y => if SeqAt.shaped x && SeqAt.shaped y then some (PyData.eqv x y) else none
  | _, _ => none
def memD (x : D) (ys : List D) : Option Bool := match D.py x, D.pys ys with
  | some d, some ds => if SeqAt.shaped d && SeqAt.shaped (.list ds) then some (ds.any fun z => PyData.eqv z d) else none
  | _, _ => none
/-- the pairs of a dict of the store -/
def dctOf (st : Sto) : D → Option (List (L2.Key × D))
  | .ref n => match st[n]? with
    | some (.dct kvs) => some kvs
    | _ => none
  | _ => none
def memO (st : Sto) (a b : D) : Option Bool := match dctOf st b with
  | some kvs => (keyD a).map fun k => (valD kvs k).isSome
  | none => (itemsOf st b).bind (memD a)
def cmpD (op : COp) (st : Sto) (a b : D) : Option Bool := match op with
  | .eq => eqD a b
  | .ne => (eqD a b).map (!·)
  | .lt => match a, b with
    | .int i, .int j => some (decide (i < j))
    | .str i, .str j => some (decide (i.cps.toList < j.cps.toList))
    | _, _ => none
  | .le => match a, b with
    | .int i, .int j => some (decide (i ≤ j))
    | .str i, .str j => some (!decide (j.cps.toList < i.cps.toList))
    | _, _ => none
  | .gt => match a, b with
    | .int i, .int j => some (decide (j < i))
    | .str i, .str j => some (decide (j.cps.toList < i.cps.toList))
    | _, _ => none
  | .ge => match a, b with
    | .int i, .int j => some (decide (j ≤ i))
    | .str i, .str j => some (!decide (i.cps.toList < j.cps.toList))
    | _, _ => none
  | .is => match b with
    | .non => some (decide (a = .non))
    | _ => none
  | .isnt => match b with
    | .non => some (!decide (a = .non))
    | _ => none
  | .in_ => memO st a b
  | .notin => (memO st a b).map (!·)

/-- truth -/
def truD (st : Sto) : D → Option Bool
  | .bl b => some b
  | .int i => some (decide (i ≠ 0))
  | .non => some false
  | _ => none

def isiD (st : Sto) (t : Ty) : D → Option Bool
  | .non => some false
  | .bl _ => some (t == .bool || t == .int)
  | .int _ => some (t == .int)
  | .str _ => some (t == .str)
  | .tup _ => some (t == .tuple)
  | .lst _ => some (t == .list)
  | .ref n => match st[n]? with
    | some (.lst _) => some (t == .list)
    | _ => none
  | _ => none

def ixD (st : Sto) (a b : D) : Option D := match a, b with
  | .str z, .int i => if z.length ≤ sizeLine then (L2.atI z.cps.toList i).map fun c => .str ⟨#[c]⟩ else none
  | .ref n, k => match dctOf st (.ref n) with
    | some kvs => (keyD k).bind (valD kvs)
    | none => match listOf st (.ref n), k with
      | some xs, .int i => L2.atI xs i
      | _, _ => none
  | .tup xs, .int i => L2.atI xs i
  | .lst xs, .int i => L2.atI xs i
  | .scr ns, .int i => (L2.atI ns i).map .int
  | _, _ => none
def cutD (xs : List D) (lo hi : Option Int) : List D := (xs.drop (HT.sIx xs.length 0 lo)).take (HT.sIx xs.length xs.length hi - HT.sIx xs.length 0 lo)
def slD (st : Sto) (a : D) (lo hi : Option Int) : Option D := match a with
  | .tup xs => some (.tup (cutD xs lo hi))
  | .scr ns => some (.lst (cutD (ns.map .int) lo hi))
  | a => (listOf st a).map fun xs => .lst (cutD xs lo hi)
/-- which attributes which class may have -/
abbrev Att := Str → Str → Bool
def fldD (att : Att) (st : Sto) (f : Str) : D → Option D
  | .ins c ks xs => if att c f then (ks.zip xs).lookup f else none
  | .ref n => match st[n]? with
    | some (.ins c fs) => if att c f then fs.lookup f else none
    | _ => none
  | _ => none

/-- sorted -/
def alikeP (ds : List PyData) : Bool := ds.all fun d => ds.all fun e => W.alike d e
def sortableP (ds : List PyData) : Bool := (ds.all fun d => match d with | .tuple (_ :: _) => true | _ => false) || (ds.all fun d => match d with | .none => false | .tuple _ => false | .dict _ => false | _ => true)
def D.pyD (d : D) : PyData := (D.py d).getD .none
def sortD (xs : List D) : Option (List D) := match D.pys xs with
  | some ds => if alikeP ds && sortableP ds && (ds.all fun d => SeqAt.shaped d && decide (d.depth ≤ 20)) && decide (xs.length ≤ sizeLine) then some (xs.mergeSort (W.dataLe false D.pyD)) else none
  | none => none
/-- the members of a set, once each, by the place of the last -/
def dedup : List D → List D
  | [] => []
  | x :: r => if x ∈ r then dedup r else x :: dedup r
mutual
def D.hash : D → Bool
  | .int _ => true
  | .str _ => true
  | .tup xs => D.hashes xs
  | _ => false
def D.hashes : List D → Bool
  | [] => true
  | x :: xs => D.hash x && D.hashes xs
end
mutual
def D.dep : D → Nat
  | .tup xs => D.deps xs + 1
  | _ => 0
def D.deps : List D → Nat
  | [] => 0
  | x :: xs => max (D.dep x) (D.deps xs)
end
def D.tupH : D → Bool
  | .tup xs => D.hashes xs && decide (D.deps xs + 1 ≤ 8)
  | _ => false
def setD (xs : List D) : Option D := if (xs.all D.scal || xs.all D.tupH) && decide (xs.length < 64) then some (.set xs) else none

def allBl : List D → Option (List Bool)
  | [] => some []
  | .bl b :: r => (allBl r).map (b :: ·)
  | _ => none
def allInt : List D → Option (List Int)
  | [] => some []
  | .int b :: r => (allInt r).map (b :: ·)
  | _ => none
def bfD (f : Bf) (st : Sto) (as : List D) : Option D := match f, as with
  | .len, [.set xs] => some (.int (dedup xs).length)
  | .len, [.str s] => if s.length ≤ sizeLine then some (.int s.length) else none
  | .len, [a] => (itemsOf st a).map fun xs => .int xs.length
  | .abs, [.int i] => some (.int (if i < 0 then -i else i))
  | .int, [.int i] => some (.int i)
  | .int, [.bl b] => some (.int (if b then 1 else 0))
  | .tuple, [a] => (itemsOf st a).map .tup
  | .list, [a] => (itemsOf st a).map .lst
  | .sorted, [.set xs] => if D.hashes xs then (sortD (dedup xs)).map .lst else none
  | .sorted, [a] => ((itemsOf st a).bind sortD).map .lst
  | .set, [a] => (itemsOf st a).bind setD
  | .min2, [.int i, .int j] => some (.int (if j < i then j else i))
  | .max2, [.int i, .int j] => some (.int (if j > i then j else i))
  | .min1, [a] => match (listOf st a).bind allInt with
    | some (x :: r) => some (.int (r.foldl min x))
    | _ => none
  | .max1, [a] => match (listOf st a).bind allInt with
    | some (x :: r) => some (.int (r.foldl max x))
    | _ => none
  | .all, [a] => ((listOf st a).bind allBl).map fun bs => .bl (bs.all id)
  | .any, [a] => ((listOf st a).bind allBl).map fun bs => .bl (bs.any id)
  | .sum, [a] => ((listOf st a).bind allInt).map fun ns => .int ns.sum
  | .str, [.int i] => if i.natAbs.log2 < 1920 then some (.str (toString i)) else none
  | _, _ => none
def putKD (kvs : List (L2.Key × D)) (k : L2.Key) (v : D) : List (L2.Key × D) := if kvs.any fun kv => decide (kv.1 = k) then kvs.map fun kv => if kv.1 = k then (kv.1, v) else kv else kvs ++ [(k, v)]
/-- a method of a list or dict of the store -/
def mtD (m : Mt) (st : Sto) (o : D) (as : List D) : Option (D × Sto) := match o with
  | .ref n => match m, st[n]?, as with
    | .append, some (.lst xs), [a] => if xs.length < sizeLine then some (.non, st.set n (.lst (xs ++ [a]))) else none
    | .extend, some (.lst xs), [a] => match listOf st a with
      | some ys => if xs.length + ys.length ≤ sizeLine then some (.non, st.set n (.lst (xs ++ ys))) else none
      | none => none
    | .pop, some (.lst xs), [] => match xs[xs.length - 1]? with
      | some y => some (y, st.set n (.lst xs.dropLast))
      | none => none
    | .popAt, some (.lst xs), [.int i] => if 0 ≤ i ∧ i < xs.length ∧ xs.length ≤ sizeLine then match xs[i.toNat]? with
      | some y => some (y, st.set n (.lst (xs.eraseIdx i.toNat)))
      | none => none else none
    | .insert, some (.lst xs), [.int 0, a] => if xs.length < sizeLine then some (.non, st.set n (.lst (a :: xs))) else none
    | .get, some (.dct kvs), [k, d] => match keyD k with
      | some k => some ((valD kvs k).getD d, st)
      | none => none
    | _, _, _ => none
  | _ => none
/-- o[k] = v -/
def putD (st : Sto) (o k v : D) : Option Sto := match o with
  | .ref n => match st[n]?, k with
    | some (.lst xs), .int i => match L2.ixN xs.length i with
      | some j => some (st.set n (.lst (xs.set j v)))
      | none => none
    | some (.dct kvs), k => match keyD k with
      | some k => if kvs.length < sizeLine then some (st.set n (.dct (putKD kvs k v))) else none
      | none => none
    | _, _ => none
  | _ => none
/-- o.f = v -/
def putA (f : Str) (v : D) : List (Str × D) → List (Str × D)
  | [] => [(f, v)]
  | (g, x) :: r => if g = f then (g, v) :: r else (g, x) :: putA f v r
def setFld (att : Att) (st : Sto) (o : D) (f : Str) (v : D) : Option Sto := match o with
  | .ref n => match st[n]? with
    | some (.ins c fs) => if att c f = true ∧ fs.length < 1000 then some (st.set n (.ins c (putA f v fs))) else none
    | _ => none
  | _ => none

/-! ### the language -/
inductive Tg where
  | nm (i : Nat)
  | tp (ts : List Tg)
inductive Ex where
  | var (i : Nat)
  | lit (d : D)
  | tup (es : List Ex)
  | lst (bx : Bool) (es : List Ex)
  | dct (ks vs : List Ex)
  | bin (op : BOp) (a b : Ex)
  | neg (a : Ex)
  | cmp (op : COp) (a b : Ex)
  | cmp2 (op op2 : COp) (a b c : Ex)
  | and (a b : Ex)
  | or (a b : Ex)
  | not (a : Ex)
  | ite (c a b : Ex)
  | idx (a b : Ex)
  | sl (a : Ex) (lo hi : Option Ex)
  | isi (a : Ex) (t : Ty)
  | bf (f : Bf) (es : List Ex)
  | mt (m : Mt) (o : Ex) (es : List Ex)
  | fld (o : Ex) (f : Str)
  | call (f : Str) (es : List Ex)
  | callk (f : Str) (es zs : List Ex) (pm : List Nat)
  | meth (c m q : Str) (o : Ex) (es : List Ex)
  | mk (c : Str) (es : List Ex)
  | comp (bx : Bool) (elt : Ex) (tg : Tg) (src : Nat) (it : List Ex) (ifs : List Ex) (own : List Nat)
  | rg (tl : Bool) (es : List Ex)
inductive St where
  | set (t : Tg) (e : Ex)
  | setI (o k e : Ex)
  | setF (o : Ex) (f : Str) (e : Ex)
  | ex (e : Ex)
  | ret (e : Ex)
  | retN
  | ite (c : Ex) (a b : List St)
  | for_ (t : Tg) (src : Nat) (it : List Ex) (b : List St)
  | whl (c : Ex) (b : List St)
  | brk
  | cont
  | pass
inductive Fl where
  | nx
  | brk
  | cont
  | ret (d : D)

/-- a def: its parameters, how many slots, whether what it makes stays in the store, its body -/
structure FD where
  ps : List Str
  n : Nat
  keep : Bool
  body : List St

/-- how calls go: a def's or a method's name, the values, the store -/
structure Cl where
  call : Str → List D → Sto → Option (D × Sto)
  make : Str → List D → Sto → Option (D × Sto)
  lap : Nat
  att : Att

/-! ### targets and sources -/
mutual
def bindT : Tg → D → Env → Option Env
  | .nm i, d, env => some (env.set i (some d))
  | .tp ts, .tup xs, env => bindTs ts xs env
  | .tp _, _, _ => none
def bindTs : List Tg → List D → Env → Option Env
  | [], [], env => some env
  | t :: ts, x :: xs, env => match bindT t x env with
    | some env => bindTs ts xs env
    | none => none
  | _, _, _ => none
end
/-- the r-subsets in their places' sequence -/
def combosD : Nat → List D → List (List D)
  | 0, _ => [[]]
  | _ + 1, [] => []
  | r + 1, x :: xs => (combosD r xs).map (x :: ·) ++ combosD (r + 1) xs
def rangeD (lo : Int) (n : Nat) : List D := (List.range n).map fun i => .int (lo + (i : Nat))
def zipD : List D → List D → List D
  | x :: xs, y :: ys => .tup [x, y] :: zipD xs ys
  | _, _ => []
def small62 (i : Int) : Bool := decide (-(2 ^ 62) ≤ i ∧ i < 2 ^ 62)
/-- src: 0 the value itself, 1 range(b), 2 range(a, b), 3 enumerate, 4 zip, 5 combinations -/
def srcD (st : Sto) : Nat → List D → Option (List D)
  | 0, [a] => itemsOf st a
  | 1, [.int j] => if small62 j then some (rangeD 0 j.toNat) else none
  | 2, [.int i, .int j] => if small62 i && small62 j then some (rangeD i (j - i).toNat) else none
  | 3, [a] => (itemsOf st a).map fun xs => zipD (rangeD 0 xs.length) xs
  | 4, [.tup a, .tup b] => some (zipD a b)
  | 4, [a, b] => match listOf st a, listOf st b with
    | some xs, some ys => some (zipD xs ys)
    | _, _ => none
  | 5, [a, .int r] => match itemsOf st a with
    | some xs => if 0 ≤ r ∧ r ≤ 64 ∧ xs.length ≤ 64 then some ((combosD r.toNat xs).map .tup) else none
    | none => none
  | _, _ => none
/-- a range that is made a list or a tuple -/
def rgD : List D → Option (Int × Int)
  | [.int j] => if small62 j && decide (j.toNat ≤ 2 ^ 24) then some (0, j) else none
  | [.int i, .int j] => if small62 i && small62 j && decide ((j - i).toNat ≤ 2 ^ 24) then some (i, j) else none
  | _ => none
/-- the things of the store that are walked -/
def srcRefs : List D → List Nat
  | [] => []
  | .ref n :: r => n :: srcRefs r
  | _ :: r => srcRefs r
def sameAt (ns : List Nat) (st st' : Sto) : Bool := ns.all fun n => decide (st[n]? = st'[n]?)
def boxD (bx : Bool) (xs : List D) (st : Sto) : D × Sto := if bx then (.ref st.length, st ++ [.lst xs]) else (.lst xs, st)
def wipeD (env : Env) : List Nat → Env
  | [] => env
  | v :: vs => (wipeD env vs).set v none

/-- the turns of a comprehension -/
def compD (ns : List Nat) (st0 : Sto) (f : D → Sto → Option (Option D × Sto)) : List D → Sto → Option (List D × Sto)
  | [], st => if sameAt ns st0 st then some ([], st) else none
  | x :: r, st => if sameAt ns st0 st then match f x st with
      | some (o, st1) => match compD ns st0 f r st1 with
        | some (ys, st2) => some (match o with | some y => y :: ys | none => ys, st2)
        | none => none
      | none => none
    else none
/-- the turns of a for -/
def forD (ns : List Nat) (st0 : Sto) (f : D → Env → Sto → Option (Fl × Env × Sto)) : List D → Env → Sto → Option (Fl × Env × Sto)
  | [], env, st => if sameAt ns st0 st then some (.nx, env, st) else none
  | x :: r, env, st => if sameAt ns st0 st then match f x env st with
      | some (.nx, env, st) => forD ns st0 f r env st
      | some (.cont, env, st) => forD ns st0 f r env st
      | some (.brk, env, st) => some (.nx, env, st)
      | some (.ret d, env, st) => some (.ret d, env, st)
      | none => none
    else none
/-- the turns of a while -/
def whlD (c : Env → Sto → Option (Bool × Sto)) (f : Env → Sto → Option (Fl × Env × Sto)) : Nat → Env → Sto → Option (Fl × Env × Sto)
  | 0, _, _ => none
  | n + 1, env, st => match c env st with
    | some (true, st) => match f env st with
      | some (.nx, env, st) => whlD c f n env st
      | some (.cont, env, st) => whlD c f n env st
      | some (.brk, env, st) => some (.nx, env, st)
      | some (.ret d, env, st) => some (.ret d, env, st)
      | none => none
    | some (false, st) => some (.nx, env, st)
    | none => none
/-- values and keywords in the parameters' sequence -/
def pick {α : Type} (pm : List Nat) (xs : List α) : List α := pm.filterMap fun i => xs[i]?

/-- the receiver is of the method's type: asked ahead of the arguments -/
def mtOk (m : Mt) (st : Sto) (o : D) : Bool := match m with
  | .get => (dctOf st o).isSome
  | _ => match o with
    | .ref _ => (listOf st o).isSome
    | _ => false
/-- an instance of the class without an attribute of that name -/
def recvOk (st : Sto) (k m : Str) : D → Bool
  | .ins c ks _ => decide (c = k) && !(ks.contains m)
  | .ref n => match st[n]? with
    | some (.ins c fs) => decide (c = k) && !((fs.map (·.1)).contains m)
    | _ => false
  | _ => false
/-! ### the evaluator -/
mutual
def evE (c : Cl) : Ex → Env → Sto → Option (D × Sto)
  | .var i, env, st => match env[i]? with
    | some (some d) => some (d, st)
    | _ => none
  | .lit d, _, st => some (d, st)
  | .tup es, env, st => match evEs c es env st with
    | some (vs, st) => some (.tup vs, st)
    | none => none
  | .lst bx es, env, st => match evEs c es env st with
    | some (vs, st) => some (boxD bx vs st)
    | none => none
  | .dct ks vs, env, st => match ks, vs with
    | [], [] => some (.ref st.length, st ++ [.dct []])
    | _, _ => none
  | .bin op a b, env, st => match evE c a env st with
    | some (x, st) => match evE c b env st with
      | some (y, st) => (binD op st x y).map (·, st)
      | none => none
    | none => none
  | .neg a, env, st => match evE c a env st with
    | some (.int i, st) => some (.int (-i), st)
    | _ => none
  | .cmp op a b, env, st => match evE c a env st with
    | some (x, st) => match evE c b env st with
      | some (y, st) => (cmpD op st x y).map (.bl ·, st)
      | none => none
    | none => none
  | .cmp2 op op2 a b d, env, st => match evE c a env st with
    | some (x, st) => match evE c b env st with
      | some (y, st) => match cmpD op st x y with
        | some true => match evE c d env st with
          | some (z, st) => (cmpD op2 st y z).map (.bl ·, st)
          | none => none
        | some false => some (.bl false, st)
        | none => none
      | none => none
    | none => none
  | .and a b, env, st => match evE c a env st with
    | some (.bl true, st) => match evE c b env st with
      | some (.bl r, st) => some (.bl r, st)
      | _ => none
    | some (.bl false, st) => some (.bl false, st)
    | _ => none
  | .or a b, env, st => match evE c a env st with
    | some (.bl false, st) => match evE c b env st with
      | some (.bl r, st) => some (.bl r, st)
      | _ => none
    | some (.bl true, st) => some (.bl true, st)
    | _ => none
  | .not a, env, st => match evE c a env st with
    | some (.bl b, st) => some (.bl (!b), st)
    | _ => none
  | .ite t a b, env, st => match evE c t env st with
    | some (v, st) => match truD st v with
      | some true => evE c a env st
      | some false => evE c b env st
      | none => none
    | none => none
  | .idx a b, env, st => match evE c a env st with
    | some (x, st) => match evE c b env st with
      | some (y, st) => (ixD st x y).map (·, st)
      | none => none
    | none => none
  | .sl a lo hi, env, st => match evE c a env st with
    | some (x, st) => match evO c lo env st with
      | some (l, st) => match evO c hi env st with
        | some (h, st) => (slD st x l h).map (·, st)
        | none => none
      | none => none
    | none => none
  | .isi a t, env, st => match evE c a env st with
    | some (x, st) => (isiD st t x).map (.bl ·, st)
    | none => none
  | .bf f es, env, st => match evEs c es env st with
    | some (vs, st) => (bfD f st vs).map (·, st)
    | none => none
  | .mt m o es, env, st => match evE c o env st with
    | some (x, st) => if mtOk m st x then match evEs c es env st with
      | some (vs, st) => mtD m st x vs
      | none => none
      else none
    | none => none
  | .fld o f, env, st => match evE c o env st with
    | some (x, st) => (fldD c.att st f x).map (·, st)
    | none => none
  | .call f es, env, st => match evEs c es env st with
    | some (vs, st) => c.call f vs st
    | none => none
  | .callk f es zs pm, env, st => match evEs c es env st with
    | some (vs, st) => match evEs c zs env st with
      | some (ws, st) => c.call f (pick pm (vs ++ ws)) st
      | none => none
    | none => none
  | .meth k m q o es, env, st => match evE c o env st with
    | some (x, st) => if recvOk st k m x then match evEs c es env st with
      | some (vs, st) => c.call q (x :: vs) st
      | none => none
      else none
    | none => none
  | .mk k es, env, st => match evEs c es env st with
    | some (vs, st) => c.make k vs st
    | none => none
  | .comp bx elt tg src it ifs own, env, st => match evEs c it env st with
    | some (vs, st) => match srcD st src vs with
      | some xs => if xs.length ≤ sizeLine then match compD (srcRefs vs) st (fun x st => match bindT tg x (wipeD env own) with
          | some env => match evT c ifs env st with
            | some (true, st) => match evE c elt env st with
              | some (y, st) => some (some y, st)
              | none => none
            | some (false, st) => some (none, st)
            | none => none
          | none => none) xs st with
        | some (ys, st) => some (boxD bx ys st)
        | none => none
        else none
      | none => none
    | none => none
  | .rg tl es, env, st => match evEs c es env st with
    | some (vs, st) => match rgD vs with
      | some (i, j) => some (if tl then .tup (rangeD i (j - i).toNat) else .lst (rangeD i (j - i).toNat), st)
      | none => none
    | none => none
def evEs (c : Cl) : List Ex → Env → Sto → Option (List D × Sto)
  | [], _, st => some ([], st)
  | e :: es, env, st => match evE c e env st with
    | some (x, st) => match evEs c es env st with
      | some (xs, st) => some (x :: xs, st)
      | none => none
    | none => none
def evO (c : Cl) : Option Ex → Env → Sto → Option (Option Int × Sto)
  | none, _, st => some (none, st)
  | some e, env, st => match evE c e env st with
    | some (.int i, st) => some (some i, st)
    | _ => none
def evT (c : Cl) : List Ex → Env → Sto → Option (Bool × Sto)
  | [], _, st => some (true, st)
  | e :: es, env, st => match evE c e env st with
    | some (v, st) => match truD st v with
      | some true => evT c es env st
      | some false => some (false, st)
      | none => none
    | none => none
end

mutual
def evS (c : Cl) : St → Env → Sto → Option (Fl × Env × Sto)
  | .set t e, env, st => match evE c e env st with
    | some (v, st) => match bindT t v env with
      | some env => some (.nx, env, st)
      | none => none
    | none => none
  | .setI o k e, env, st => match evE c e env st with
    | some (v, st) => match evE c o env st with
      | some (x, st) => match evE c k env st with
        | some (y, st) => match putD st x y v with
          | some st => some (.nx, env, st)
          | none => none
        | none => none
      | none => none
    | none => none
  | .setF o f e, env, st => match evE c e env st with
    | some (v, st) => match evE c o env st with
      | some (x, st) => match setFld c.att st x f v with
        | some st => some (.nx, env, st)
        | none => none
      | none => none
    | none => none
  | .ex e, env, st => match evE c e env st with
    | some (_, st) => some (.nx, env, st)
    | none => none
  | .ret e, env, st => match evE c e env st with
    | some (v, st) => some (.ret v, env, st)
    | none => none
  | .retN, env, st => some (.ret .non, env, st)
  | .ite t a b, env, st => match evE c t env st with
    | some (v, st) => match truD st v with
      | some true => evSs c a env st
      | some false => evSs c b env st
      | none => none
    | none => none
  | .for_ t src it b, env, st => match evEs c it env st with
    | some (vs, st) => match srcD st src vs with
      | some xs => forD (srcRefs vs) st (fun x env st => match bindT t x env with
          | some env => evSs c b env st
          | none => none) xs env st
      | none => none
    | none => none
  | .whl t b, env, st => whlD (fun env st => match evE c t env st with
      | some (v, st) => match truD st v with
        | some b => some (b, st)
        | none => none
      | none => none) (evSs c b) c.lap env st
  | .brk, env, st => some (.brk, env, st)
  | .cont, env, st => some (.cont, env, st)
  | .pass, env, st => some (.nx, env, st)
def evSs (c : Cl) : List St → Env → Sto → Option (Fl × Env × Sto)
  | [], env, st => some (.nx, env, st)
  | s :: r, env, st => match evS c s env st with
    | some (.nx, env, st) => evSs c r env st
    | some (f, env, st) => some (f, env, st)
    | none => none
end

/-! ### what a def leaves -/
mutual
/-- no thing of the store from n on -/
def D.low (n : Nat) : D → Bool
  | .tup xs | .lst xs | .set xs | .ins _ _ xs => D.lows n xs
  | .ref m => decide (m < n)
  | _ => true
def D.lows (n : Nat) : List D → Bool
  | [] => true
  | x :: xs => D.low n x && D.lows n xs
end
def Ob.low (n : Nat) : Ob → Bool
  | .lst xs => D.lows n xs
  | .dct kvs => D.lows n (kvs.map (·.2))
  | .ins _ fs => D.lows n (fs.map (·.2))
/-- things of the store from n on are told by value -/
def frz (st : Sto) (n : Nat) : Nat → D → Option D
  | 0, _ => none
  | k + 1, d => match d with
    | .ref m => if m < n then some (.ref m) else match st[m]? with
      | some (.lst xs) => (xs.mapM (frz st n k)).map .lst
      | some (.ins c fs) => ((fs.map (·.2)).mapM (frz st n k)).map (.ins c (fs.map (·.1)))
      | _ => none
    | .tup xs => if D.lows n xs then some (.tup xs) else (xs.mapM (frz st n k)).map .tup
    | .lst xs => if D.lows n xs then some (.lst xs) else (xs.mapM (frz st n k)).map .lst
    | d => if D.low n d then some d else none
def lowSt (n : Nat) (st st' : Sto) : Bool := (List.range n).all fun i => decide (st'[i]? = st[i]?) || (match st'[i]? with | some ob => Ob.low n ob | none => false)
/-- a def is run -/
def runF (c : Cl) (f : FD) (vs : List D) (st : Sto) : Option (D × Sto) :=
  if vs.length = f.ps.length then
    match evSs c f.body (vs.map some ++ List.replicate (f.n - vs.length) none) st with
    | some (fl, _, st') =>
      let r := match fl with | .ret d => some d | .nx => some .non | _ => none
      match r with
      | some d => if f.keep then some (d, st') else match frz st' st.length 6 d with
        | some d => if lowSt st.length st st' then some (d, st'.take st.length) else none
        | none => none
      | none => none
    | none => none
  else none
/-- a class: its __init__'s name -/
def runMk (call : Str → List D → Sto → Option (D × Sto)) (c i : Str) (vs : List D) (st : Sto) : Option (D × Sto) :=
  match call i (.ref st.length :: vs) (st ++ [.ins c []]) with
  | some (.non, st') => some (.ref st.length, st')
  | _ => none
/-- the defs of a text, the classes with their __init__ -/
structure Tx where
  fn : Str → Option FD
  cl : Str → Option Str
  lap : Nat
  att : Att
def Tx.ps (T : Tx) (f : Str) : List Str := match T.fn f with | some fd => fd.ps | none => []
def callD (T : Tx) : Nat → Str → List D → Sto → Option (D × Sto)
  | 0, _, _, _ => none
  | n + 1, f, vs, st => match T.fn f with
    | some fd => runF ⟨callD T n, fun k ws st => match T.cl k with
        | some i => runMk (match n with | 0 => fun _ _ _ => none | m + 1 => callD T m) k i ws st
        | none => none, T.lap, T.att⟩ fd vs st
    | none => none
end MP
end
section
set_option Elab.async false
set_option linter.all false
set_option maxRecDepth 100000
set_option maxHeartbeats 4000000
/-! MPb: the evaluator's values and store, told of the layer's values and heap. -/
namespace MP
open PySem PySem.Spec PyProof.Rows L2

/-- what is fixed through a run: the program, the world, the written part, the module's names, the base, where the classes stand, how a set looks -/
structure GC where
  P : Program
  w : World
  K : PySem.W.Frag
  mg : Str → Option Value
  base : Heap
  cl : Str → Addr
  so : List (D × V) → Addr → HO

/-- what never changes -/
def Fix : HO → Bool
  | .tup _ => true
  | .frz _ _ => true
  | _ => false
/-- what is owned: the things of the store, and the lists that comprehensions still fill -/
structure Rw where
  l : List Addr
  k : List Addr
instance : Membership Addr Rw := ⟨fun ρ a => a ∈ ρ.l ∨ a ∈ ρ.k⟩
def Rw.add (ρ : Rw) (p : Addr) : Rw := ⟨ρ.l ++ [p], ρ.k⟩
def Rw.hide (ρ : Rw) (p : Addr) : Rw := ⟨ρ.l, p :: ρ.k⟩
def Rw.show (ρ : Rw) (p : Addr) : Rw := ⟨ρ.l, ρ.k.filter (· ≠ p)⟩
theorem Rw.mem_iff {ρ : Rw} {a : Addr} : a ∈ ρ ↔ a ∈ ρ.l ∨ a ∈ ρ.k := Iff.rfl
theorem Rw.mem_add {ρ : Rw} {p a : Addr} : a ∈ ρ.add p ↔ a ∈ ρ ∨ a = p := by
  rw [Rw.mem_iff, Rw.mem_iff]
  show (a ∈ ρ.l ++ [p] ∨ a ∈ ρ.k) ↔ _
  rw [List.mem_append, List.mem_singleton]
  constructor
  · rintro ((h | h) | h)
    · exact .inl (.inl h)
    · exact .inr h
    · exact .inl (.inr h)
  · rintro ((h | h) | h)
    · exact .inl (.inl h)
    · exact .inr h
    · exact .inl (.inr h)
/-- the heap grows: what is not owned is kept -/
structure Ex0 (ρ : Rw) (H : Hp) (ρ' : Rw) (H' : Hp) : Prop where
  pre : ρ.l <+: ρ'.l
  kept : ∀ a o, H a = some o → (a ∉ ρ ∨ Fix o = true) → H' a = some o
  fresh : ∀ a, a ∈ ρ' → a ∈ ρ ∨ H a = none
/-- the same, and what is being filled is left as it is -/
structure Ext (ρ : Rw) (H : Hp) (ρ' : Rw) (H' : Hp) : Prop where
  pre : ρ.l <+: ρ'.l
  hid : ∀ a ∈ ρ.k, a ∈ ρ'.k
  kept : ∀ a o, H a = some o → (a ∉ ρ.l ∨ Fix o = true) → H' a = some o
  fresh : ∀ a, a ∈ ρ' → a ∈ ρ ∨ H a = none
  lfresh : ∀ a, a ∈ ρ'.l → a ∈ ρ.l ∨ H a = none

mutual
def RD (g : GC) (ρ : Rw) (H : Hp) : D → V → Prop
  | .non, v => v = .non
  | .bl b, v => v = .bl b
  | .int i, v => v = .int i
  | .str s, v => v = .str s
  | .tup xs, v => ∃ a vs, v = .ref a ∧ SqT g.K H a vs ∧ RDs g ρ H xs vs
  | .lst xs, v => ∃ a vs, v = .ref a ∧ a ∉ ρ ∧ H a = some (.lst vs) ∧ RDs g ρ H xs vs
  | .scr ns, v => ∃ a, v = .ref a ∧ ((a ∉ ρ ∧ Rd H a (.lst (ns.map V.int))) ∨ ∀ H' : Hp, SqL g.K H' a (ns.map V.int))
  | .set xs, v => ∃ a vs ps, v = .ref a ∧ a ∉ ρ ∧ H a = some (g.so ps a) ∧ RDs g ρ H xs vs ∧ (∀ p ∈ ps, p ∈ xs.zip vs) ∧ (ps.map (·.1)).Perm (dedup xs)
  | .ins c ks xs, v => ∃ a dx fs, v = .ref a ∧ a ∉ ρ ∧ H a = some (.ins (g.cl c) dx fs) ∧ fs.map (·.1) = ks ∧ RDs g ρ H xs (fs.map (·.2))
  | .ref n, v => ∃ a, v = .ref a ∧ ρ.l[n]? = some a
def RDs (g : GC) (ρ : Rw) (H : Hp) : List D → List V → Prop
  | [], vs => vs = []
  | x :: xs, vs => ∃ v r, vs = v :: r ∧ RD g ρ H x v ∧ RDs g ρ H xs r
end

section
variable {g : GC} {ρ ρ' ρ2 : Rw} {H H' H2 : Hp}
theorem Ext.weak (x : Ext ρ H ρ' H') : Ex0 ρ H ρ' H' := ⟨x.pre, fun a o h c => x.kept a o h (c.imp_left fun c z => c (.inl z)), x.fresh⟩
theorem Ext.refl : Ext ρ H ρ H := ⟨List.prefix_refl _, fun _ h => h, fun _ _ h _ => h, fun _ h => .inl h, fun _ h => .inl h⟩
theorem Ext.trans (a : Ext ρ H ρ' H') (b : Ext ρ' H' ρ2 H2) : Ext ρ H ρ2 H2 := by
  refine ⟨a.pre.trans b.pre, fun x h => b.hid x (a.hid x h), fun x o h c => ?_, fun x hx => ?_, fun x hx => ?_⟩
  · have h1 := a.kept x o h c
    refine b.kept x o h1 ?_
    rcases c with c | c
    · refine .inl fun hx => ?_
      rcases a.lfresh x hx with z | z
      · exact c z
      · rw [h] at z; cases z
    · exact .inr c
  · rcases b.fresh x hx with z | z
    · exact a.fresh x z
    · cases q : H x with
      | none => exact .inr rfl
      | some o =>
        by_cases hr : x ∈ ρ
        · exact .inl hr
        · have := a.kept x o q (.inl fun z => hr (.inl z))
          rw [z] at this; cases this
  · rcases b.lfresh x hx with z | z
    · exact a.lfresh x z
    · cases q : H x with
      | none => exact .inr rfl
      | some o =>
        by_cases hr : x ∈ ρ.l
        · exact .inl hr
        · have := a.kept x o q (.inl hr)
          rw [z] at this; cases this
theorem Ext.lay {p : Addr} {o : HO} (h : H p = none) : Ext ρ H ρ (upd H p o) := by
  refine ⟨List.prefix_refl _, fun _ z => z, fun a u q _ => ?_, fun _ z => .inl z, fun _ z => .inl z⟩
  rw [upd_ne (ne_of_none q h)]
  exact q
theorem Ext.push {p : Addr} {o : HO} (h : H p = none) : Ext ρ H (ρ.add p) (upd H p o) := by
  refine ⟨List.prefix_append _ _, fun _ z => z, fun a u q _ => ?_, fun a z => ?_, fun a z => ?_⟩
  · rw [upd_ne (ne_of_none q h)]
    exact q
  · rcases Rw.mem_add.mp z with z | z
    · exact .inl z
    · subst z
      exact .inr h
  · rcases List.mem_append.mp z with z | z
    · exact .inl z
    · rw [List.mem_singleton.mp z]
      exact .inr h
theorem Ext.write {p : Addr} {o u : HO} (hp : p ∈ ρ.l) (h : H p = some o) (hf : Fix o = false) : Ext ρ H ρ (upd H p u) := by
  refine ⟨List.prefix_refl _, fun _ z => z, fun a v q c => ?_, fun _ z => .inl z, fun _ z => .inl z⟩
  by_cases e : a = p
  · subst e
    rw [h] at q
    cases q
    rcases c with c | c
    · exact absurd hp c
    · rw [hf] at c; cases c
  · rw [upd_ne e]
    exact q
theorem Ex0.sqT {K : PySem.W.Frag} (x : Ex0 ρ H ρ' H') {a : Addr} {vs : List V} (h : SqT K H a vs) : SqT K H' a vs := by
  rcases h with (h | ⟨o, h⟩) | h
  · exact .inl (.inl (x.kept _ _ h (.inr rfl)))
  · exact .inl (.inr ⟨o, x.kept _ _ h (.inr rfl)⟩)
  · exact .inr h
theorem Ext.sqT {K : PySem.W.Frag} (x : Ext ρ H ρ' H') {a : Addr} {vs : List V} (h : SqT K H a vs) : SqT K H' a vs := x.weak.sqT h
theorem Ex0.notIn (x : Ex0 ρ H ρ' H') {a : Addr} {o : HO} (h : a ∉ ρ) (q : H a = some o) : a ∉ ρ' := fun z => by
  rcases x.fresh a z with y | y
  · exact h y
  · rw [q] at y; cases y
theorem Ex0.rd (x : Ex0 ρ H ρ' H') {a : Addr} {u : HO} (h : a ∉ ρ) (q : Rd H a u) : a ∉ ρ' ∧ Rd H' a u := by
  rcases q with q | ⟨o, q⟩
  · exact ⟨x.notIn h q, .inl (x.kept _ _ q (.inl h))⟩
  · exact ⟨x.notIn h q, .inr ⟨o, x.kept _ _ q (.inl h)⟩⟩
theorem Ex0.get (x : Ex0 ρ H ρ' H') {n : Nat} {a : Addr} (h : ρ.l[n]? = some a) : ρ'.l[n]? = some a := by
  obtain ⟨t, e⟩ := x.pre
  have hl : n < ρ.l.length := (List.getElem?_eq_some_iff.mp h).1
  rw [← e, List.getElem?_append_left hl]
  exact h
mutual
theorem RD.mono0 (x : Ex0 ρ H ρ' H') : ∀ (d : D) (v : V), RD g ρ H d v → RD g ρ' H' d v
  | .non, _, h => by rw [RD] at h ⊢; exact h
  | .bl _, _, h => by rw [RD] at h ⊢; exact h
  | .int _, _, h => by rw [RD] at h ⊢; exact h
  | .str _, _, h => by rw [RD] at h ⊢; exact h
  | .tup xs, _, h => by
    rw [RD] at h ⊢
    obtain ⟨a, vs, e, s, r⟩ := h
    exact ⟨a, vs, e, x.sqT s, RDs.mono0 x xs vs r⟩
  | .lst xs, _, h => by
    rw [RD] at h ⊢
    obtain ⟨a, vs, e, n, s, r⟩ := h
    exact ⟨a, vs, e, x.notIn n s, x.kept _ _ s (.inl n), RDs.mono0 x xs vs r⟩
  | .scr ns, _, h => by
    rw [RD] at h ⊢
    obtain ⟨a, e, s | s⟩ := h
    · exact ⟨a, e, .inl (x.rd s.1 s.2)⟩
    · exact ⟨a, e, .inr s⟩
  | .set xs, _, h => by
    rw [RD] at h ⊢
    obtain ⟨a, vs, ps, e, n, s, r, m, p⟩ := h
    exact ⟨a, vs, ps, e, x.notIn n s, x.kept _ _ s (.inl n), RDs.mono0 x xs vs r, m, p⟩
  | .ins c ks xs, _, h => by
    rw [RD] at h ⊢
    obtain ⟨a, dx, fs, e, n, s, m, r⟩ := h
    exact ⟨a, dx, fs, e, x.notIn n s, x.kept _ _ s (.inl n), m, RDs.mono0 x xs _ r⟩
  | .ref n, _, h => by
    rw [RD] at h ⊢
    obtain ⟨a, e, q⟩ := h
    exact ⟨a, e, x.get q⟩
theorem RDs.mono0 (x : Ex0 ρ H ρ' H') : ∀ (ds : List D) (vs : List V), RDs g ρ H ds vs → RDs g ρ' H' ds vs
  | [], _, h => by rw [RDs] at h ⊢; exact h
  | d :: ds, _, h => by
    rw [RDs] at h ⊢
    obtain ⟨v, r, e, h1, h2⟩ := h
    exact ⟨v, r, e, RD.mono0 x d v h1, RDs.mono0 x ds r h2⟩
end
theorem RD.mono (x : Ext ρ H ρ' H') (d : D) (v : V) (h : RD g ρ H d v) : RD g ρ' H' d v := RD.mono0 x.weak d v h
theorem RDs.mono (x : Ext ρ H ρ' H') (ds : List D) (vs : List V) (h : RDs g ρ H ds vs) : RDs g ρ' H' ds vs := RDs.mono0 x.weak ds vs h
theorem RDs.len : ∀ {ds : List D} {vs : List V}, RDs g ρ H ds vs → vs.length = ds.length
  | [], _, h => by rw [RDs] at h; rw [h]; rfl
  | d :: ds, _, h => by
    rw [RDs] at h
    obtain ⟨v, r, e, h1, h2⟩ := h
    rw [e, List.length_cons, List.length_cons, RDs.len h2]
theorem RDs.nil : RDs g ρ H [] [] := by rw [RDs]
theorem RDs.cons {d : D} {ds : List D} {v : V} {vs : List V} (h1 : RD g ρ H d v) (h2 : RDs g ρ H ds vs) : RDs g ρ H (d :: ds) (v :: vs) := by rw [RDs]; exact ⟨v, vs, rfl, h1, h2⟩
theorem RDs.inv {d : D} {ds : List D} {vs : List V} (h : RDs g ρ H (d :: ds) vs) : ∃ v r, vs = v :: r ∧ RD g ρ H d v ∧ RDs g ρ H ds r := by rw [RDs] at h; exact h
theorem RDs.inv0 {vs : List V} (h : RDs g ρ H [] vs) : vs = [] := by rw [RDs] at h; exact h
theorem RDs.get : ∀ {ds : List D} {vs : List V} {i : Nat} {d : D}, RDs g ρ H ds vs → ds[i]? = some d → ∃ v, vs[i]? = some v ∧ RD g ρ H d v
  | [], _, i, _, _, e => by simp at e
  | x :: ds, _, 0, d, h, e => by
    obtain ⟨v, r, rfl, h1, h2⟩ := h.inv
    simp at e; subst e
    exact ⟨v, rfl, h1⟩
  | x :: ds, _, i + 1, d, h, e => by
    obtain ⟨v, r, rfl, h1, h2⟩ := h.inv
    obtain ⟨u, q1, q2⟩ := RDs.get (i := i) h2 (by simpa using e)
    exact ⟨u, by simpa using q1, q2⟩
theorem RDs.get' : ∀ {ds : List D} {vs : List V} {i : Nat} {v : V}, RDs g ρ H ds vs → vs[i]? = some v → ∃ d, ds[i]? = some d ∧ RD g ρ H d v
  | [], _, i, _, h, e => by rw [h.inv0] at e; simp at e
  | x :: ds, _, 0, d, h, e => by
    obtain ⟨v, r, rfl, h1, h2⟩ := h.inv
    simp at e; subst e
    exact ⟨x, rfl, h1⟩
  | x :: ds, _, i + 1, d, h, e => by
    obtain ⟨v, r, rfl, h1, h2⟩ := h.inv
    obtain ⟨u, q1, q2⟩ := RDs.get' (i := i) h2 (by simpa using e)
    exact ⟨u, by simpa using q1, q2⟩
theorem RDs.append : ∀ {ds es : List D} {vs ws : List V}, RDs g ρ H ds vs → RDs g ρ H es ws → RDs g ρ H (ds ++ es) (vs ++ ws)
  | [], _, _, _, h, k => by rw [h.inv0]; exact k
  | x :: ds, _, _, _, h, k => by
    obtain ⟨v, r, rfl, h1, h2⟩ := h.inv
    exact RDs.cons h1 (RDs.append h2 k)
theorem RDs.drop : ∀ (n : Nat) {ds : List D} {vs : List V}, RDs g ρ H ds vs → RDs g ρ H (ds.drop n) (vs.drop n)
  | 0, _, _, h => h
  | n + 1, [], _, h => by rw [h.inv0]; exact RDs.nil
  | n + 1, x :: ds, _, h => by
    obtain ⟨v, r, rfl, h1, h2⟩ := h.inv
    exact RDs.drop n h2
theorem RDs.take : ∀ (n : Nat) {ds : List D} {vs : List V}, RDs g ρ H ds vs → RDs g ρ H (ds.take n) (vs.take n)
  | 0, _, _, h => RDs.nil
  | n + 1, [], _, h => by rw [h.inv0]; exact RDs.nil
  | n + 1, x :: ds, _, h => by
    obtain ⟨v, r, rfl, h1, h2⟩ := h.inv
    exact RDs.cons h1 (RDs.take n h2)
theorem RDs.set : ∀ (n : Nat) {ds : List D} {vs : List V} {d : D} {v : V}, RDs g ρ H ds vs → RD g ρ H d v → RDs g ρ H (ds.set n d) (vs.set n v)
  | n, [], _, _, _, h, _ => by rw [h.inv0]; exact RDs.nil
  | 0, x :: ds, _, _, _, h, k => by
    obtain ⟨v, r, rfl, h1, h2⟩ := h.inv
    exact RDs.cons k h2
  | n + 1, x :: ds, _, _, _, h, k => by
    obtain ⟨v, r, rfl, h1, h2⟩ := h.inv
    exact RDs.cons h1 (RDs.set n h2 k)
theorem RDs.erase : ∀ (n : Nat) {ds : List D} {vs : List V}, RDs g ρ H ds vs → RDs g ρ H (ds.eraseIdx n) (vs.eraseIdx n)
  | n, [], _, h => by rw [h.inv0]; exact RDs.nil
  | 0, x :: ds, _, h => by
    obtain ⟨v, r, rfl, h1, h2⟩ := h.inv
    exact h2
  | n + 1, x :: ds, _, h => by
    obtain ⟨v, r, rfl, h1, h2⟩ := h.inv
    exact RDs.cons h1 (RDs.erase n h2)
theorem RDs.dropLast {ds : List D} {vs : List V} (h : RDs g ρ H ds vs) : RDs g ρ H ds.dropLast vs.dropLast := by
  rw [List.dropLast_eq_take, List.dropLast_eq_take, h.len]
  exact h.take _
theorem RDs.mem {ds : List D} {vs : List V} {d : D} {v : V} (h : RDs g ρ H ds vs) (m : (d, v) ∈ ds.zip vs) : RD g ρ H d v := by
  induction ds generalizing vs with
  | nil => simp at m
  | cons x ds ih =>
    obtain ⟨u, r, rfl, h1, h2⟩ := h.inv
    rcases List.mem_cons.mp m with e | m
    · cases e; exact h1
    · exact ih h2 m

/-! ### the store -/
/-- a thing of the store stands at its address -/
def RO (g : GC) (ρ : Rw) (H : Hp) : Ob → HO → Prop
  | .lst xs, o => ∃ vs, o = .lst vs ∧ RDs g ρ H xs vs
  | .dct kvs, o => ∃ ws : List (L2.Key × V), o = .dK ws ∧ ws.map (·.1) = kvs.map (·.1) ∧ RDs g ρ H (kvs.map (·.2)) (ws.map (·.2))
  | .ins c ks, o => ∃ dx fs, o = .ins (g.cl c) dx fs ∧ fs.map (·.1) = ks.map (·.1) ∧ RDs g ρ H (ks.map (·.2)) (fs.map (·.2))
theorem RO.fix {ob : Ob} {o : HO} (h : RO g ρ H ob o) : Fix o = false := by
  cases ob with
  | lst xs => obtain ⟨vs, rfl, _⟩ := h; rfl
  | dct xs => obtain ⟨vs, rfl, _⟩ := h; rfl
  | ins c ks => obtain ⟨dx, fs, rfl, _⟩ := h; rfl
theorem RO.mono0 (x : Ex0 ρ H ρ' H') {ob : Ob} {o : HO} (h : RO g ρ H ob o) : RO g ρ' H' ob o := by
  cases ob with
  | lst xs => obtain ⟨vs, e, r⟩ := h; exact ⟨vs, e, r.mono0 x⟩
  | dct xs => obtain ⟨vs, e, k, r⟩ := h; exact ⟨vs, e, k, r.mono0 x⟩
  | ins c ks => obtain ⟨dx, fs, e, k, r⟩ := h; exact ⟨dx, fs, e, k, r.mono0 x⟩
theorem RO.mono (x : Ext ρ H ρ' H') {ob : Ob} {o : HO} (h : RO g ρ H ob o) : RO g ρ' H' ob o := h.mono0 x.weak
structure RS (g : GC) (ρ : Rw) (st : Sto) (H : Hp) : Prop where
  len : ρ.l.length = st.length
  nd : ρ.l.Nodup
  hd : ∀ a ∈ ρ.k, a ∉ ρ.l ∧ ∃ o, H a = some o
  at_ : ∀ (n : Nat) (a : Addr) (ob : Ob), ρ.l[n]? = some a → st[n]? = some ob → ∃ o, H a = some o ∧ RO g ρ H ob o
theorem RS.mem {st : Sto} (h : RS g ρ st H) {a : Addr} (ha : a ∈ ρ.l) : ∃ (n : Nat) (ob : Ob) (o : HO), ρ.l[n]? = some a ∧ st[n]? = some ob ∧ H a = some o ∧ RO g ρ H ob o := by
  obtain ⟨n, hn, e⟩ := List.getElem_of_mem ha
  have h1 : ρ.l[n]? = some a := by rw [List.getElem?_eq_getElem hn, e]
  have h2 : n < st.length := by rw [← h.len]; exact hn
  obtain ⟨o, h3, h4⟩ := h.at_ n a st[n] h1 (List.getElem?_eq_getElem h2)
  exact ⟨n, st[n], o, h1, List.getElem?_eq_getElem h2, h3, h4⟩
theorem RS.notIn {st : Sto} (h : RS g ρ st H) {p : Addr} (hp : H p = none) : p ∉ ρ := fun z => by
  rcases z with z | z
  · obtain ⟨n, ob, o, _, _, e, _⟩ := h.mem z
    rw [hp] at e; cases e
  · obtain ⟨_, o, e⟩ := h.hd p z
    rw [hp] at e; cases e
theorem RS.lay {st : Sto} (h : RS g ρ st H) {p : Addr} {o : HO} (hp : H p = none) : RS g ρ st (upd H p o) := by
  refine ⟨h.len, h.nd, fun a ha => ?_, fun n a ob h1 h2 => ?_⟩
  · obtain ⟨k1, u, k2⟩ := h.hd a ha
    exact ⟨k1, u, by rw [upd_ne (ne_of_none k2 hp)]; exact k2⟩
  · obtain ⟨u, h3, h4⟩ := h.at_ n a ob h1 h2
    refine ⟨u, ?_, h4.mono (Ext.lay hp)⟩
    rw [upd_ne (ne_of_none h3 hp)]
    exact h3
theorem RS.push {st : Sto} (h : RS g ρ st H) {p : Addr} {o : HO} {ob : Ob} (hp : H p = none) (r : RO g (ρ.add p) (L2.upd H p o) ob o) : RS g (ρ.add p) (st ++ [ob]) (L2.upd H p o) := by
  refine ⟨by simp [Rw.add, h.len], ?_, fun a ha => ?_, fun n a ob' h1 h2 => ?_⟩
  · show (ρ.l ++ [p]).Nodup
    rw [List.nodup_append]
    refine ⟨h.nd, by simp, fun a ha b hb e => ?_⟩
    have : b = p := by simpa using hb
    subst this; subst e
    exact h.notIn hp (.inl ha)
  · obtain ⟨k1, u, k2⟩ := h.hd a ha
    have ne : a ≠ p := fun z => by rw [z, hp] at k2; cases k2
    refine ⟨fun z => ?_, u, by rw [upd_ne (ne_of_none k2 hp)]; exact k2⟩
    rcases List.mem_append.mp z with z | z
    · exact k1 z
    · exact ne (by simpa using z)
  · have h1 : (ρ.l ++ [p])[n]? = some a := h1
    by_cases hn : n < ρ.l.length
    · rw [List.getElem?_append_left hn] at h1
      rw [List.getElem?_append_left (by rw [← h.len]; exact hn)] at h2
      obtain ⟨u, h3, h4⟩ := h.at_ n a ob' h1 h2
      refine ⟨u, ?_, h4.mono (Ext.push hp)⟩
      rw [upd_ne (ne_of_none h3 hp)]
      exact h3
    · have hl : n < (ρ.l ++ [p]).length := (List.getElem?_eq_some_iff.mp h1).1
      have e : n = ρ.l.length := by simp at hl; omega
      subst e
      rw [List.getElem?_append_right (Nat.le_refl _)] at h1
      rw [List.getElem?_append_right (by rw [h.len]; exact Nat.le_refl _), h.len] at h2
      simp at h1 h2
      subst h1; subst h2
      exact ⟨o, upd_same, r⟩
theorem RS.write {st : Sto} (h : RS g ρ st H) {n : Nat} {p : Addr} {o : HO} {ob ob' : Ob} (hn : ρ.l[n]? = some p) (ho : st[n]? = some ob) (r : ∀ H', Ext ρ H ρ H' → RO g ρ H' ob' o) : Ext ρ H ρ (L2.upd H p o) ∧ RS g ρ (st.set n ob') (L2.upd H p o) := by
  obtain ⟨u, h3, h4⟩ := h.at_ n p ob hn ho
  have hm : p ∈ ρ.l := List.mem_of_getElem? hn
  have x : Ext ρ H ρ (L2.upd H p o) := Ext.write hm h3 h4.fix
  refine ⟨x, by simp [h.len], h.nd, fun a ha => ?_, fun m a ob2 h1 h2 => ?_⟩
  · obtain ⟨k1, v, k2⟩ := h.hd a ha
    exact ⟨k1, v, by rw [upd_ne (show a ≠ p from fun z => k1 (by rw [z]; exact hm))]; exact k2⟩
  · by_cases e : m = n
    · subst e
      rw [hn] at h1; cases h1
      have hl : m < st.length := (List.getElem?_eq_some_iff.mp ho).1
      rw [List.getElem?_set_self hl] at h2
      cases h2
      exact ⟨o, upd_same, r _ x⟩
    · rw [List.getElem?_set_ne (Ne.symm e)] at h2
      obtain ⟨v, h5, h6⟩ := h.at_ m a ob2 h1 h2
      refine ⟨v, ?_, h6.mono x⟩
      have ne : a ≠ p := fun z => by
        subst z
        exact e ((List.getElem?_inj (List.getElem?_eq_some_iff.mp h1).1 h.nd).mp (h1.trans hn.symm))
      rw [upd_ne ne]
      exact h5
/-! #### a list that a comprehension fills -/
theorem Ext.hide {p : Addr} {o : HO} (h : H p = none) : Ext ρ H (ρ.hide p) (upd H p o) := by
  refine ⟨List.prefix_refl _, fun _ z => List.mem_cons_of_mem _ z, fun a u q _ => ?_, fun a z => ?_, fun _ z => .inl z⟩
  · rw [upd_ne (ne_of_none q h)]
    exact q
  · rcases z with z | z
    · exact .inl (.inl z)
    · rcases List.mem_cons.mp z with z | z
      · subst z; exact .inr h
      · exact .inl (.inr z)
theorem RS.hide {st : Sto} (h : RS g ρ st H) {p : Addr} {o : HO} (hp : H p = none) : RS g (ρ.hide p) st (upd H p o) := by
  refine ⟨h.len, h.nd, fun a ha => ?_, fun n a ob h1 h2 => ?_⟩
  · rcases List.mem_cons.mp ha with e | ha
    · subst e
      exact ⟨fun z => h.notIn hp (.inl z), o, upd_same⟩
    · obtain ⟨k1, u, k2⟩ := h.hd a ha
      exact ⟨k1, u, by rw [upd_ne (ne_of_none k2 hp)]; exact k2⟩
  · obtain ⟨u, h3, h4⟩ := h.at_ n a ob h1 h2
    refine ⟨u, ?_, h4.mono (Ext.hide hp)⟩
    rw [upd_ne (ne_of_none h3 hp)]
    exact h3
theorem RS.fill {st : Sto} (h : RS g ρ st H) {p : Addr} {o u : HO} (hp : p ∈ ρ.k) (ho : H p = some u) (hf : Fix u = false) : Ex0 ρ H ρ (upd H p o) ∧ RS g ρ st (upd H p o) := by
  have x : Ex0 ρ H ρ (upd H p o) := by
    refine ⟨List.prefix_refl _, fun a v q c => ?_, fun _ z => .inl z⟩
    by_cases e : a = p
    · subst e
      rw [ho] at q
      cases q
      rcases c with c | c
      · exact absurd (.inr hp) c
      · rw [hf] at c; cases c
    · rw [upd_ne e]
      exact q
  have np := (h.hd p hp).1
  refine ⟨x, h.len, h.nd, fun a ha => ?_, fun n a ob h1 h2 => ?_⟩
  · by_cases e : a = p
    · subst e; exact ⟨np, o, upd_same⟩
    · obtain ⟨k1, v, k2⟩ := h.hd a ha
      exact ⟨k1, v, by rw [upd_ne e]; exact k2⟩
  · obtain ⟨v, h3, h4⟩ := h.at_ n a ob h1 h2
    refine ⟨v, ?_, h4.mono0 x⟩
    rw [upd_ne (show a ≠ p from fun z => np (by rw [← z]; exact List.mem_of_getElem? h1))]
    exact h3
theorem Ext.over {p : Addr} {o : HO} (x : Ext ρ H ρ' H') (h : H p = none) : Ext ρ H ρ' (upd H' p o) :=
  ⟨x.pre, x.hid, fun a u q c => by rw [upd_ne (ne_of_none q h)]; exact x.kept a u q c, x.fresh, x.lfresh⟩
theorem Rw.mem_show {ρ : Rw} {p a : Addr} (h : a ∈ ρ.show p) : a ∈ ρ := by
  rcases h with h | h
  · exact .inl h
  · exact .inr (List.mem_filter.mp h).1
theorem Ex0.show (p : Addr) : Ex0 ρ H (ρ.show p) H := ⟨List.prefix_refl _, fun _ _ h _ => h, fun _ h => .inl (Rw.mem_show h)⟩
theorem RS.show {st : Sto} (h : RS g ρ st H) (p : Addr) : RS g (ρ.show p) st H :=
  ⟨h.len, h.nd, fun a ha => h.hd a (List.mem_filter.mp ha).1, fun n a ob h1 h2 => by
    obtain ⟨u, h3, h4⟩ := h.at_ n a ob h1 h2
    exact ⟨u, h3, h4.mono0 (Ex0.show p)⟩⟩
theorem Ext.show {p : Addr} (x : Ext ρ H ρ' H') (hp : ∀ a ∈ ρ.k, ∃ o, H a = some o) (h : H p = none) : Ext ρ H (ρ'.show p) H' := by
  refine ⟨x.pre, fun a ha => List.mem_filter.mpr ⟨x.hid a ha, ?_⟩, x.kept, fun a ha => x.fresh a (Rw.mem_show ha), x.lfresh⟩
  obtain ⟨o, e⟩ := hp a ha
  rw [decide_eq_true_eq]
  intro z
  rw [z, h] at e; cases e
/-- the filled list becomes a thing of the store -/
def Rw.adopt (ρ : Rw) (p : Addr) : Rw := ⟨ρ.l ++ [p], ρ.k.filter (· ≠ p)⟩
theorem Rw.mem_adopt {ρ : Rw} {p a : Addr} (hp : p ∈ ρ.k) (h : a ∈ ρ.adopt p) : a ∈ ρ := by
  rcases h with h | h
  · rcases List.mem_append.mp h with h | h
    · exact .inl h
    · rw [List.mem_singleton.mp h]; exact .inr hp
  · exact .inr (List.mem_filter.mp h).1
theorem Ex0.adopt {p : Addr} (hp : p ∈ ρ.k) : Ex0 ρ H (ρ.adopt p) H := ⟨List.prefix_append _ _, fun _ _ h _ => h, fun _ h => .inl (Rw.mem_adopt hp h)⟩
theorem RS.adopt {st : Sto} (h : RS g ρ st H) {p : Addr} {o : HO} {ob : Ob} (hp : p ∈ ρ.k) (ho : H p = some o) (r : RO g (ρ.adopt p) H ob o) : RS g (ρ.adopt p) (st ++ [ob]) H := by
  have np := (h.hd p hp).1
  refine ⟨by simp [Rw.adopt, h.len], ?_, fun a ha => ?_, fun n a ob' h1 h2 => ?_⟩
  · show (ρ.l ++ [p]).Nodup
    rw [List.nodup_append]
    refine ⟨h.nd, by simp, fun a ha b hb e => ?_⟩
    have : b = p := by simpa using hb
    subst this; subst e
    exact np ha
  · obtain ⟨h1, h2⟩ := List.mem_filter.mp ha
    obtain ⟨k1, k2⟩ := h.hd a h1
    refine ⟨fun z => ?_, k2⟩
    rcases List.mem_append.mp z with z | z
    · exact k1 z
    · rw [decide_eq_true_eq] at h2
      exact h2 (List.mem_singleton.mp z)
  · have h1 : (ρ.l ++ [p])[n]? = some a := h1
    by_cases hn : n < ρ.l.length
    · rw [List.getElem?_append_left hn] at h1
      rw [List.getElem?_append_left (by rw [← h.len]; exact hn)] at h2
      obtain ⟨u, h3, h4⟩ := h.at_ n a ob' h1 h2
      exact ⟨u, h3, h4.mono0 (Ex0.adopt hp)⟩
    · have hl : n < (ρ.l ++ [p]).length := (List.getElem?_eq_some_iff.mp h1).1
      have e : n = ρ.l.length := by simp at hl; omega
      subst e
      rw [List.getElem?_append_right (Nat.le_refl _)] at h1
      rw [List.getElem?_append_right (by rw [h.len]; exact Nat.le_refl _), h.len] at h2
      simp at h1 h2
      subst h1; subst h2
      exact ⟨o, ho, r⟩
theorem Ext.adopt {p : Addr} (x : Ext ρ H ρ' H') (hp : ∀ a ∈ ρ.k, ∃ o, H a = some o) (hk : p ∈ ρ'.k) (h : H p = none) : Ext ρ H (ρ'.adopt p) H' := by
  refine ⟨x.pre.trans (List.prefix_append _ _), fun a ha => List.mem_filter.mpr ⟨x.hid a ha, ?_⟩, x.kept, fun a ha => x.fresh a (Rw.mem_adopt hk ha), fun a ha => ?_⟩
  · obtain ⟨o, e⟩ := hp a ha
    rw [decide_eq_true_eq]
    intro z
    rw [z, h] at e; cases e
  · rcases List.mem_append.mp ha with ha | ha
    · exact x.lfresh a ha
    · rw [List.mem_singleton.mp ha]; exact .inr h

/-! ### the frame -/
def RE (g : GC) (ρ : Rw) (H : Hp) (env : Env) (σ : L2.St) : Prop := env.length = σ.length ∧ ∀ (i : Nat) (d : D), env[i]? = some (some d) → ∃ x, σ[i]? = some (some x) ∧ RD g ρ H d x
theorem RE.mono {env : Env} {σ : L2.St} (x : Ext ρ H ρ' H') (h : RE g ρ H env σ) : RE g ρ' H' env σ := ⟨h.1, fun i d e => by
  obtain ⟨v, h1, h2⟩ := h.2 i d e
  exact ⟨v, h1, RD.mono x d v h2⟩⟩
theorem RE.set {env : Env} {σ : L2.St} (h : RE g ρ H env σ) {i : Nat} {d : D} {v : V} (r : RD g ρ H d v) : RE g ρ H (env.set i (some d)) (σ.set i (some v)) := by
  refine ⟨by simp [h.1], fun j e q => ?_⟩
  by_cases hj : j = i
  · subst hj
    have hl : j < env.length := by
      have := (List.getElem?_eq_some_iff.mp q).1
      simpa using this
    rw [List.getElem?_set_self hl] at q
    cases q
    exact ⟨v, by rw [List.getElem?_set_self (by rw [← h.1]; exact hl)], r⟩
  · rw [List.getElem?_set_ne (Ne.symm hj)] at q ⊢
    exact h.2 j e q
theorem wipeD_len (env : Env) : ∀ vs, (wipeD env vs).length = env.length
  | [] => rfl
  | v :: vs => by unfold wipeD; rw [List.length_set, wipeD_len env vs]
theorem wipe_at {σ : L2.St} : ∀ {vs : List Nat} {i : Nat}, i ∉ vs → (wipe σ vs)[i]? = σ[i]?
  | [], i, h => rfl
  | v :: vs, i, h => by
    unfold wipe
    simp only [List.mem_cons, not_or] at h
    rw [List.getElem?_set_ne (Ne.symm h.1), wipe_at h.2]
theorem wipeD_some {env : Env} {i : Nat} {d : D} : ∀ {vs : List Nat}, (wipeD env vs)[i]? = some (some d) → env[i]? = some (some d) ∧ i ∉ vs
  | [], h => ⟨h, by simp⟩
  | v :: vs, h => by
    unfold wipeD at h
    by_cases e : i = v
    · subst e
      by_cases hl : i < (wipeD env vs).length
      · rw [List.getElem?_set_self hl] at h; cases h
      · rw [List.getElem?_eq_none (by simpa using hl)] at h; cases h
    · rw [List.getElem?_set_ne (Ne.symm e)] at h
      obtain ⟨h1, h2⟩ := wipeD_some h
      exact ⟨h1, by simp [e, h2]⟩
theorem RE.wipe {env : Env} {σ : L2.St} (h : RE g ρ H env σ) (vs : List Nat) : RE g ρ H (wipeD env vs) (L2.wipe σ vs) := by
  refine ⟨by rw [wipeD_len, wipe_length, h.1], fun i d e => ?_⟩
  obtain ⟨h1, h2⟩ := wipeD_some e
  rw [wipe_at h2]
  exact h.2 i d h1
/-- a frame that knows less -/
theorem RE.weak {env : Env} {σ : L2.St} (h : RE g ρ H env σ) {σ' : L2.St} (hl : σ'.length = σ.length) (k : ∀ (i : Nat) (d : D) (v : V), env[i]? = some (some d) → σ[i]? = some (some v) → σ'[i]? = some (some v)) : RE g ρ H env σ' :=
  ⟨by rw [hl]; exact h.1, fun i d e => by
    obtain ⟨v, h1, h2⟩ := h.2 i d e
    exact ⟨v, k i d v e h1, h2⟩⟩
end

/-! ### readings -/
def Pst (g : GC) (ρ : Rw) (H : Hp) (st : Sto) (d : D) (Q : VK) : Prop := ∀ ρ' H' x, Ext ρ H ρ' H' → RS g ρ' st H' → RD g ρ' H' d x → Q x H'
def tE (g : GC) (c : Cl) (e : Ex) : TE := fun σ H Q => ∃ ρ env st d st', RS g ρ st H ∧ RE g ρ H env σ ∧ evE c e env st = some (d, st') ∧ Pst g ρ H st' d Q
def tB (g : GC) (c : Cl) (e : Ex) : TT := fun σ H Q => ∃ ρ env st d st' b, RS g ρ st H ∧ RE g ρ H env σ ∧ evE c e env st = some (d, st') ∧ truD st' d = some b ∧ ∀ ρ' H', Ext ρ H ρ' H' → RS g ρ' st' H' → Q b H'
def tEs (g : GC) (c : Cl) (es : List Ex) : TA := fun σ H Q => ∃ ρ env st ds st', RS g ρ st H ∧ RE g ρ H env σ ∧ evEs c es env st = some (ds, st') ∧ ∀ ρ' H' xs, Ext ρ H ρ' H' → RS g ρ' st' H' → RDs g ρ' H' ds xs → Q xs H'
theorem _root_.L2.PE.imp {X : Cx} {e : Expr} {t t' : TE} (h : PE X e t) (k : ∀ σ H Q, t' σ H Q → t σ H Q) : PE X e t' := ⟨fun pins s σ H Q I q => h.run pins s σ H Q I (k σ H Q q)⟩
theorem _root_.L2.PT.imp {X : Cx} {e : Expr} {t t' : TT} (h : PT X e t) (k : ∀ σ H Q, t' σ H Q → t σ H Q) : PT X e t' := ⟨fun pins s σ H Q I q => h.run pins s σ H Q I (k σ H Q q)⟩
theorem _root_.L2.PW.imp {X : Cx} {e : Expr} {t t' : TT} (h : PW X e t) (k : ∀ σ H Q, t' σ H Q → t σ H Q) : PW X e t' := ⟨fun w pins s σ H Q I q => h.run w pins s σ H Q I (k σ H Q q)⟩
theorem _root_.L2.PA.imp {X : Cx} {e : List Expr} {t t' : TA} (h : PA X e t) (k : ∀ σ H Q, t' σ H Q → t σ H Q) : PA X e t' := ⟨fun pos pins s σ H Q I q => h.run pos pins s σ H Q I (k σ H Q q)⟩
theorem _root_.L2.PS.imp {X : Cx} {e : Stmt} {t t' : TS} (h : PS X e t) (k : ∀ D σ H, t' D σ H → t D σ H) : PS X e t' := ⟨fun pins s σ H D I q => h.run pins s σ H D I (k D σ H q)⟩
theorem _root_.L2.PSs.imp {X : Cx} {e : List Stmt} {t t' : TS} (h : PSs X e t) (k : ∀ D σ H, t' D σ H → t D σ H) : PSs X e t' := ⟨fun pins s σ H D I q => h.run pins s σ H D I (k D σ H q)⟩
theorem Pst.here {g : GC} {ρ : Rw} {H : Hp} {st : Sto} {d : D} {Q : VK} {x : V} (h : Pst g ρ H st d Q) (s : RS g ρ st H) (r : RD g ρ H d x) : Q x H := h ρ H x Ext.refl s r
theorem Pst.from {g : GC} {ρ ρ1 : Rw} {H H1 : Hp} {st : Sto} {d : D} {Q : VK} (h : Pst g ρ H st d Q) (x : Ext ρ H ρ1 H1) : Pst g ρ1 H1 st d Q := fun ρ' H' v y s r => h ρ' H' v (x.trans y) s r
end MP
end
section
set_option Elab.async false
set_option linter.all false
set_option maxRecDepth 100000
set_option maxHeartbeats 4000000
/-! MPc: the operations on values. -/
namespace MP
open PySem PySem.Spec PyProof.Rows L2

/-- a context in which the evaluator is followed -/
structure XOk (g : GC) (k : Nat) (X : Cx) : Prop where
  hP : X.prog = g.P
  hw : X.w = g.w
  hK : X.K = g.K
  hm : X.mg = g.mg
  hb : X.base = g.base
  calm : X.calm = true
  room : Room k X.A
  nd : X.N.Nodup

section
variable {g : GC} {ρ : Rw} {H : Hp} {st : Sto}
theorem RD.non_ {v : V} : RD g ρ H .non v ↔ v = .non := by rw [RD]
theorem RD.bl_ {b : Bool} {v : V} : RD g ρ H (.bl b) v ↔ v = .bl b := by rw [RD]
theorem RD.int_ {b : Int} {v : V} : RD g ρ H (.int b) v ↔ v = .int b := by rw [RD]
theorem RD.str_ {b : Str} {v : V} : RD g ρ H (.str b) v ↔ v = .str b := by rw [RD]
theorem RD.tup_ {xs : List D} {v : V} : RD g ρ H (.tup xs) v ↔ ∃ a vs, v = .ref a ∧ SqT g.K H a vs ∧ RDs g ρ H xs vs := by rw [RD]
theorem RD.lst_ {xs : List D} {v : V} : RD g ρ H (.lst xs) v ↔ ∃ a vs, v = .ref a ∧ a ∉ ρ ∧ H a = some (.lst vs) ∧ RDs g ρ H xs vs := by rw [RD]
theorem RD.ref_ {n : Nat} {v : V} : RD g ρ H (.ref n) v ↔ ∃ a, v = .ref a ∧ ρ.l[n]? = some a := by rw [RD]
mutual
theorem RD.dp : ∀ (d : D) (v : V) (p : PyData), RD g ρ H d v → D.py d = some p → Dp g.K H v p
  | .non, v, p, h, e => by rw [RD.non_] at h; subst h; simp only [D.py, Option.some.injEq] at e; subst e; exact .non
  | .bl b, v, p, h, e => by rw [RD.bl_] at h; subst h; simp only [D.py, Option.some.injEq] at e; subst e; exact .bl b
  | .int b, v, p, h, e => by rw [RD.int_] at h; subst h; simp only [D.py, Option.some.injEq] at e; subst e; exact .int b
  | .str b, v, p, h, e => by rw [RD.str_] at h; subst h; simp only [D.py, Option.some.injEq] at e; subst e; exact .str b
  | .tup xs, v, p, h, e => by
    rw [RD.tup_] at h
    obtain ⟨a, vs, rfl, s, r⟩ := h
    simp only [D.py, Option.map_eq_some_iff] at e
    obtain ⟨ps, e1, rfl⟩ := e
    exact .tup s (RDs.dp xs vs ps r e1)
  | .lst xs, v, p, h, e => by
    rw [RD.lst_] at h
    obtain ⟨a, vs, rfl, _, s, r⟩ := h
    simp only [D.py, Option.map_eq_some_iff] at e
    obtain ⟨ps, e1, rfl⟩ := e
    exact .lst (SqL.of s) (RDs.dp xs vs ps r e1)
  | .scr _, _, _, _, e => by simp [D.py] at e
  | .set _, _, _, _, e => by simp [D.py] at e
  | .ins _ _ _, _, _, _, e => by simp [D.py] at e
  | .ref _, _, _, _, e => by simp [D.py] at e
theorem RDs.dp : ∀ (ds : List D) (vs : List V) (ps : List PyData), RDs g ρ H ds vs → D.pys ds = some ps → DpAll g.K H vs ps
  | [], vs, ps, h, e => by rw [h.inv0]; simp only [D.pys, Option.some.injEq] at e; subst e; exact .nil
  | d :: ds, vs, ps, h, e => by
    obtain ⟨v, r, rfl, h1, h2⟩ := h.inv
    rw [D.pys] at e
    cases e1 : D.py d with
    | none => rw [e1] at e; cases e
    | some p =>
      cases e2 : D.pys ds with
      | none => rw [e1, e2] at e; cases e
      | some qs =>
        rw [e1, e2] at e
        simp only [Option.some.injEq] at e
        subst e
        exact .cons (RD.dp d v p h1 e1) (RDs.dp ds r qs h2 e2)
end
/-- a list, read -/
theorem listOf_sq (hs : RS g ρ st H) {d : D} {v : V} {xs : List D} (h : RD g ρ H d v) (e : listOf st d = some xs) : ∃ a vs, v = .ref a ∧ H a = some (.lst vs) ∧ RDs g ρ H xs vs := by
  unfold listOf at e
  split at e
  · cases e
    rw [RD.lst_] at h
    obtain ⟨a, vs, e1, _, e2, e3⟩ := h
    exact ⟨a, vs, e1, e2, e3⟩
  · rename_i n
    split at e
    · rename_i ys q
      cases e
      rw [RD.ref_] at h
      obtain ⟨a, e1, e2⟩ := h
      obtain ⟨o, e3, e4⟩ := hs.at_ _ a _ e2 q
      obtain ⟨vs, rfl, r⟩ := e4
      exact ⟨a, vs, e1, e3, r⟩
    · cases e
  · cases e
theorem RDs.ints : ∀ (ns : List Int) , RDs g ρ H (ns.map .int) (ns.map .int)
  | [] => RDs.nil
  | n :: ns => RDs.cons (by rw [RD.int_]) (RDs.ints ns)
theorem itemsOf_sq (hs : RS g ρ st H) {d : D} {v : V} {xs : List D} (h : RD g ρ H d v) (e : itemsOf st d = some xs) : ∃ a vs, v = .ref a ∧ (SqL g.K H a vs ∨ SqT g.K H a vs) ∧ RDs g ρ H xs vs := by
  unfold itemsOf at e
  split at e
  · cases e
    rw [RD.tup_] at h
    obtain ⟨a, vs, e1, e2, e3⟩ := h
    exact ⟨a, vs, e1, .inr e2, e3⟩
  · cases e
    rw [RD.lst_] at h
    obtain ⟨a, vs, e1, _, e2, e3⟩ := h
    exact ⟨a, vs, e1, .inl (SqL.of e2), e3⟩
  · rename_i ns
    cases e
    rw [RD] at h
    obtain ⟨a, e1, e2⟩ := h
    refine ⟨a, ns.map .int, e1, .inl ?_, RDs.ints ns⟩
    rcases e2 with e2 | e2
    · exact .inl e2.2
    · exact e2 H
  · rename_i n
    split at e
    · rename_i ys q
      cases e
      rw [RD.ref_] at h
      obtain ⟨a, e1, e2⟩ := h
      obtain ⟨o, e3, e4⟩ := hs.at_ _ a _ e2 q
      obtain ⟨vs, rfl, r⟩ := e4
      exact ⟨a, vs, e1, .inl (SqL.of e3), r⟩
    · cases e
  · cases e
/-- a dict, read -/
theorem dctOf_sq (hs : RS g ρ st H) {d : D} {v : V} {kvs : List (Key × D)} (h : RD g ρ H d v) (e : dctOf st d = some kvs) : ∃ (a : Addr) (ws : List (Key × V)), v = .ref a ∧ H a = some (.dK ws) ∧ ws.map (·.1) = kvs.map (·.1) ∧ RDs g ρ H (kvs.map (·.2)) (ws.map (·.2)) := by
  unfold dctOf at e
  split at e
  · rename_i n
    split at e
    · rename_i ys q
      cases e
      rw [RD.ref_] at h
      obtain ⟨a, e1, e2⟩ := h
      obtain ⟨o, e3, e4⟩ := hs.at_ _ a _ e2 q
      obtain ⟨ws, rfl, k, r⟩ := e4
      exact ⟨a, ws, e1, e3, k, r⟩
    · cases e
  · cases e
theorem keyD_rd {d : D} {v : V} {k : Key} (h : RD g ρ H d v) (e : keyD d = some k) : v = kV k := by
  unfold keyD at e
  split at e
  · cases e
    rw [RD.int_] at h
    exact h
  · cases e
    rw [RD.str_] at h
    exact h
  · cases e
theorem val_rds : ∀ {kvs : List (Key × D)} {ws : List (Key × V)} {k : Key}, ws.map (·.1) = kvs.map (·.1) → RDs g ρ H (kvs.map (·.2)) (ws.map (·.2)) → (valV ws k = none ∧ valD kvs k = none) ∨ ∃ d v, valD kvs k = some d ∧ valV ws k = some v ∧ RD g ρ H d v
  | [], ws, k, e, r => by
    have : ws = [] := List.map_eq_nil_iff.mp e
    subst this
    exact .inl ⟨rfl, rfl⟩
  | p :: kvs, ws, k, e, r => by
    cases ws with
    | nil => cases e
    | cons q ws =>
      simp only [List.map_cons, List.cons.injEq] at e
      obtain ⟨v, z, e2, h1, h2⟩ := RDs.inv (show RDs g ρ H (p.2 :: kvs.map (·.2)) (q.2 :: ws.map (·.2)) from r)
      simp only [List.cons.injEq] at e2
      obtain ⟨rfl, rfl⟩ := e2
      by_cases hk : q.1 = k
      · exact .inr ⟨p.2, q.2, by simp [valD, List.find?_cons, ← e.1, hk], valV_pos hk, h1⟩
      · rw [valV_neg hk]
        have : valD (p :: kvs) k = valD kvs k := by simp [valD, List.find?_cons, ← e.1, hk]
        rw [this]
        exact val_rds e.2 h2
theorem valV_rds {kvs : List (Key × D)} {ws : List (Key × V)} {k : Key} (e : ws.map (·.1) = kvs.map (·.1)) (r : RDs g ρ H (kvs.map (·.2)) (ws.map (·.2))) : (valV ws k).isSome = (valD kvs k).isSome := by
  rcases val_rds (k := k) e r with ⟨h1, h2⟩ | ⟨d, v, h1, h2, _⟩
  · rw [h1, h2]; rfl
  · rw [h1, h2]; rfl
/-- something new that nothing owns -/
theorem Pst.lay {d : D} {Q : VK} {p : Addr} {o : HO} (h : Pst g ρ H st d Q) (hs : RS g ρ st H) (hp : H p = none) (r : RD g ρ (upd H p o) d (.ref p)) : Q (.ref p) (upd H p o) :=
  h ρ _ _ (Ext.lay hp) (hs.lay hp) r
end

section
variable {X : Cx} {g : GC} {k : Nat}
theorem XOk.eqK (x : XOk g k X) {H : Hp} {a : Addr} {vs : List V} (h : SqT g.K H a vs) : SqT X.K H a vs := by rw [x.hK]; exact h
theorem XOk.eqL (x : XOk g k X) {H : Hp} {a : Addr} {vs : List V} (h : SqL g.K H a vs) : SqL X.K H a vs := by rw [x.hK]; exact h
theorem XOk.dp (x : XOk g k X) {H : Hp} {v : V} {p : PyData} (h : Dp g.K H v p) : Dp X.K H v p := by rw [x.hK]; exact h
theorem XOk.u64 (x : XOk g k X) : X.A.units + 64 < cLine := x.room.units

/-! ### + - * and the like -/
def opB : BOp → Operator
  | .add => .Add
  | .sub => .Sub
  | .mul => .Mult
  | .fdiv => .FloorDiv
  | .mod => .Mod
  | .shl => .LShift
  | .shr => .RShift
  | .and => .BitAnd
  | .or => .BitOr
  | .pow => .Pow
def rBin (g : GC) (op : BOp) : R2 := fun x y H Q => ∃ ρ st a b d, RS g ρ st H ∧ RD g ρ H a x ∧ RD g ρ H b y ∧ binD op st a b = some d ∧ Pst g ρ H st d Q
/-- what is asked of sets, shown apart -/
def rUni (g : GC) : R2 := fun x y H Q => ∃ ρ st as bs, RS g ρ st H ∧ RD g ρ H (.set as) x ∧ RD g ρ H (.set bs) y ∧ ((as ++ bs).all D.scal = true ∧ as.length ≤ 4 ∧ bs.length ≤ 4) ∧ Pst g ρ H st (.set (as ++ bs)) Q

theorem or_bin (x : XOk g k X) (hu : OpR X (binaryOp .BitOr) (rUni g)) (op : BOp) : OpR X (binaryOp (opB op)) (rBin g op) := by
  intro pins s σ H vx vy v u Q I rx ry h
  obtain ⟨ρ, st, a, b, d, hs, ha, hb, e, post⟩ := h
  unfold binD at e
  split at e
  · rename_i i j
    rw [RD.int_] at ha hb
    have fin : ∀ z : Int, d = .int z → Q (.int z) H := fun z ez => post.here hs (by rw [ez, RD.int_])
    cases op <;> simp only at e
    · cases e; exact op_add pins s σ H vx vy v u Q I rx ry ⟨i, j, ha, hb, fin _ rfl⟩
    · cases e; exact op_sub pins s σ H vx vy v u Q I rx ry ⟨i, j, ha, hb, fin _ rfl⟩
    · split at e
      · rename_i hc
        cases e
        have hc' : (-(2 ^ 64) < i ∧ i < 2 ^ 64) ∨ (-(2 ^ 64) < j ∧ j < 2 ^ 64) := of_decide_eq_true hc
        exact op_mul pins s σ H vx vy v u Q I rx ry ⟨i, j, ha, hb, hc', fin _ rfl⟩
      · cases e
    · split at e
      · rename_i hc
        cases e
        exact op_fdiv pins s σ H vx vy v u Q I rx ry ⟨i, j, ha, hb, hc, fin _ rfl⟩
      · cases e
    · split at e
      · rename_i hc
        cases e
        exact op_mod pins s σ H vx vy v u Q I rx ry ⟨i, j, ha, hb, hc, fin _ rfl⟩
      · cases e
    · split at e
      · rename_i hc
        cases e
        exact op_shl pins s σ H vx vy v u Q I rx ry ⟨i, j, ha, hb, hc, fin _ rfl⟩
      · cases e
    · split at e
      · rename_i hc
        cases e
        exact op_shr pins s σ H vx vy v u Q I rx ry ⟨i, j, ha, hb, hc, fin _ rfl⟩
      · cases e
    · cases e; exact op_and pins s σ H vx vy v u Q I rx ry ⟨i, j, ha, hb, fin _ rfl⟩
    · cases e; exact op_or pins s σ H vx vy v u Q I rx ry ⟨i, j, ha, hb, fin _ rfl⟩
    · split at e
      · rename_i hc
        cases e
        exact op_pow pins s σ H vx vy v u Q I rx ry ⟨i, j, ha, hb, hc, fin _ rfl⟩
      · cases e
  · rename_i y z
    rw [RD.str_] at ha hb
    split at e
    · split at e
      · rename_i hc
        cases e
        exact op_add_str pins s σ H vx vy v u Q I rx ry ⟨y, z, ha, hb, hc, post.here hs (by rw [RD.str_])⟩
      · cases e
    · cases e
  · rename_i xs ys
    split at e
    · split at e
      · rename_i hc
        cases e
        rw [RD.tup_] at ha hb
        obtain ⟨a1, vs1, e1, s1, r1⟩ := ha
        obtain ⟨a2, vs2, e2, s2, r2⟩ := hb
        have l1 := r1.len
        have l2 := r2.len
        refine op_catA pins s σ H vx vy v u Q I rx ry ⟨a1, a2, vs1, vs2, e1, e2, x.eqK s1, x.eqK s2, by rw [l1, l2]; exact hc, fun z => ?_, fun z1 z => ?_, fun z1 z2 p hp => ?_⟩
        · subst z
          refine post.here hs ?_
          have : xs = [] := List.eq_nil_of_length_eq_zero l1.symm
          subst this
          exact RD.tup_.mpr ⟨a2, vs2, rfl, s2, r2⟩
        · subst z
          refine post.here hs ?_
          have : ys = [] := List.eq_nil_of_length_eq_zero l2.symm
          subst this
          rw [List.append_nil]
          exact RD.tup_.mpr ⟨a1, vs1, rfl, s1, r1⟩
        · exact post.lay hs hp (RD.tup_.mpr ⟨p, _, rfl, SqT.of upd_same, RDs.mono (Ext.lay hp) _ _ (r1.append r2)⟩)
      · cases e
    · cases e
  · split at e
    · split at e
      · rename_i hc
        cases e
        exact hu pins s σ H vx vy v u Q I rx ry ⟨ρ, st, _, _, hs, ha, hb, hc, post⟩
      · cases e
    · cases e
  · split at e
    · split at e
      · rename_i xs ys q1 q2
        split at e
        · rename_i hc
          cases e
          obtain ⟨a1, vs1, e1, s1, r1⟩ := listOf_sq hs ha q1
          obtain ⟨a2, vs2, e2, s2, r2⟩ := listOf_sq hs hb q2
          refine op_cat pins s σ H vx vy v u Q I rx ry ⟨a1, a2, vs1, vs2, e1, e2, s1, s2, by rw [r1.len, r2.len]; exact hc, fun p hp => ?_⟩
          exact post.lay hs hp (RD.lst_.mpr ⟨p, _, rfl, hs.notIn hp, upd_same, RDs.mono (Ext.lay hp) _ _ (r1.append r2)⟩)
        · cases e
      · cases e
    · cases e

/-! ### comparisons -/
def opC : COp → CmpOp
  | .eq => .Eq
  | .ne => .NotEq
  | .lt => .Lt
  | .le => .LtE
  | .gt => .Gt
  | .ge => .GtE
  | .is => .Is
  | .isnt => .IsNot
  | .in_ => .In
  | .notin => .NotIn
def rCmp (g : GC) (op : COp) : R2 := fun x y H Q => ∃ ρ st a b r, RS g ρ st H ∧ RD g ρ H a x ∧ RD g ρ H b y ∧ cmpD op st a b = some r ∧ Q (.bl r) H
theorem eqD_inv {a b : D} {r : Bool} (e : eqD a b = some r) : ∃ p q, D.py a = some p ∧ D.py b = some q ∧ SeqAt.shaped p = true ∧ SeqAt.shaped q = true ∧ PyData.eqv p q = r := by
  unfold eqD at e
  split at e
  · rename_i p q e1 e2
    split at e
    · rename_i hc
      rw [Bool.and_eq_true] at hc
      cases e
      exact ⟨p, q, e1, e2, hc.1, hc.2, rfl⟩
    · cases e
  · cases e
theorem memD_inv {a : D} {ys : List D} {r : Bool} (e : memD a ys = some r) : ∃ p qs, D.py a = some p ∧ D.pys ys = some qs ∧ SeqAt.shaped p = true ∧ SeqAt.shaped (.list qs) = true ∧ (qs.any fun z => PyData.eqv z p) = r := by
  unfold memD at e
  split at e
  · rename_i p q e1 e2
    split at e
    · rename_i hc
      rw [Bool.and_eq_true] at hc
      cases e
      exact ⟨p, q, e1, e2, hc.1, hc.2, rfl⟩
    · cases e
  · cases e
theorem RD.isN {ρ : Rw} {H : Hp} {a : D} {v : V} (h : RD g ρ H a v) : decide (v = V.non) = decide (a = .non) := by
  cases a with
  | non => rw [RD] at h; subst h; rfl
  | bl _ => rw [RD] at h; subst h; rfl
  | int _ => rw [RD] at h; subst h; rfl
  | str _ => rw [RD] at h; subst h; rfl
  | tup _ => rw [RD] at h; obtain ⟨a, _, rfl, _⟩ := h; rfl
  | lst _ => rw [RD] at h; obtain ⟨a, _, rfl, _⟩ := h; rfl
  | scr _ => rw [RD] at h; obtain ⟨a, rfl, _⟩ := h; rfl
  | set _ => rw [RD] at h; obtain ⟨a, _, _, rfl, _⟩ := h; rfl
  | ins _ _ _ => rw [RD] at h; obtain ⟨a, _, _, rfl, _⟩ := h; rfl
  | ref _ => rw [RD] at h; obtain ⟨a, rfl, _⟩ := h; rfl
theorem or_in (x : XOk g (k + 1) X) (hx : X.A.units + 65 < cLine) (neg : Bool) {pins : List (Addr × Obj)} {s : Shared} {σ : L2.St} {H : Hp} {vx vy : V} {v u : Value} {Q : VK} (I : Inv X pins σ H s) (rx : RelV vx v) (ry : RelV vy u)
    {ρ : Rw} {st : Sto} {a b : D} {ys : List D} {r : Bool} (hs : RS g ρ st H) (ha : RD g ρ H a vx) (hb : RD g ρ H b vy) (e1 : itemsOf st b = some ys) (e2 : memD a ys = some r) (q : Q (.bl (if neg then !r else r)) H) :
    wpAny (model X.prog X.w) X.A (compareOp (if neg then .NotIn else .In) v u) (EP X pins σ Q) X.xe s := by
  obtain ⟨p, qs, f1, f2, f3, f4, f5⟩ := memD_inv e2
  obtain ⟨c, vs, rfl, sq, rs⟩ := itemsOf_sq hs hb e1
  obtain ⟨as, R1⟩ := Dp.reads I p vx v (x.dp (RD.dp a vx p ha f1)) rx
  subst f5
  have all := RDs.dp ys vs qs rs f2
  rcases sq with sq | sq
  · obtain ⟨bs, R2⟩ := Dp.reads I (.list qs) (.ref c) u (.lst (x.eqL sq) (by rw [x.hK]; exact all)) ry
    cases neg with
    | false => exact SeqAt.in_list_reads R2 R1 (SeqAt.canLay_of_shaped f4) (SeqAt.canLay_of_shaped f3) (room_in_shaped f3 hx) ⟨.bl _, H, I, rfl, q⟩
    | true => exact SeqAt.notIn_list_reads R2 R1 (SeqAt.canLay_of_shaped f4) (SeqAt.canLay_of_shaped f3) (room_in_shaped f3 hx) ⟨.bl _, H, I, rfl, q⟩
  · obtain ⟨bs, R2⟩ := Dp.reads I (.tuple qs) (.ref c) u (.tup (x.eqK sq) (by rw [x.hK]; exact all)) ry
    cases neg with
    | false => exact SeqAt.in_tuple_reads R2 R1 (SeqAt.canLay_of_shaped f4) (SeqAt.canLay_of_shaped f3) (room_in_shaped f3 hx) ⟨.bl _, H, I, rfl, q⟩
    | true => exact SeqAt.notIn_tuple_reads R2 R1 (SeqAt.canLay_of_shaped f4) (SeqAt.canLay_of_shaped f3) (room_in_shaped f3 hx) ⟨.bl _, H, I, rfl, q⟩
theorem or_cmp (x : XOk g (k + 1) X) (hu : X.A.units + 65 < cLine) (op : COp) : OpR X (compareOp (opC op)) (rCmp g op) := by
  intro pins s σ H vx vy v u Q I rx ry h
  obtain ⟨ρ, st, a, b, r, hs, ha, hb, e, q⟩ := h
  cases op <;> simp only [cmpD] at e
  · obtain ⟨p, p', e1, e2, f1, f2, rfl⟩ := eqD_inv e
    exact op_eqD x.u64 pins s σ H vx vy v u Q I rx ry ⟨p, p', x.dp (RD.dp _ _ _ ha e1), x.dp (RD.dp _ _ _ hb e2), f1, f2, q⟩
  · rw [Option.map_eq_some_iff] at e
    obtain ⟨z, e, rfl⟩ := e
    obtain ⟨p, p', e1, e2, f1, f2, rfl⟩ := eqD_inv e
    exact op_neD x.u64 pins s σ H vx vy v u Q I rx ry ⟨p, p', x.dp (RD.dp _ _ _ ha e1), x.dp (RD.dp _ _ _ hb e2), f1, f2, q⟩
  · split at e
    · cases e
      rw [RD.int_] at ha hb
      exact op_lt pins s σ H vx vy v u Q I rx ry ⟨_, _, ha, hb, q⟩
    · cases e
      rw [RD.str_] at ha hb
      exact op_lt_str pins s σ H vx vy v u Q I rx ry ⟨_, _, ha, hb, q⟩
    · cases e
  · split at e
    · cases e
      rw [RD.int_] at ha hb
      exact op_le pins s σ H vx vy v u Q I rx ry ⟨_, _, ha, hb, q⟩
    · cases e
      rw [RD.str_] at ha hb
      exact op_le_str pins s σ H vx vy v u Q I rx ry ⟨_, _, ha, hb, q⟩
    · cases e
  · split at e
    · cases e
      rw [RD.int_] at ha hb
      exact op_gt pins s σ H vx vy v u Q I rx ry ⟨_, _, ha, hb, q⟩
    · cases e
      rw [RD.str_] at ha hb
      exact op_gt_str pins s σ H vx vy v u Q I rx ry ⟨_, _, ha, hb, q⟩
    · cases e
  · split at e
    · cases e
      rw [RD.int_] at ha hb
      exact op_ge pins s σ H vx vy v u Q I rx ry ⟨_, _, ha, hb, q⟩
    · cases e
      rw [RD.str_] at ha hb
      exact op_ge_str pins s σ H vx vy v u Q I rx ry ⟨_, _, ha, hb, q⟩
    · cases e
  · split at e
    · cases e
      rw [RD.non_] at hb
      exact op_isN pins s σ H vx vy v u Q I rx ry ⟨hb, by rw [ha.isN]; exact q⟩
    · cases e
  · split at e
    · cases e
      rw [RD.non_] at hb
      exact op_notN pins s σ H vx vy v u Q I rx ry ⟨hb, by rw [ha.isN]; exact q⟩
    · cases e
  · unfold memO at e
    split at e
    · rename_i kvs q1
      rw [Option.map_eq_some_iff] at e
      obtain ⟨kk, e1, rfl⟩ := e
      obtain ⟨c, ws, rfl, h1, h2, h3⟩ := dctOf_sq hs hb q1
      have z := keyD_rd ha e1
      subst z
      cases (show u = Value.ref c from ry)
      refine d_in (by have := x.u64; omega) I (DGet.k h1) rx fun s' I' => ⟨.bl _, H, I', rfl, ?_⟩
      rw [valV_rds h2 h3]
      exact q
    · rw [Option.bind_eq_some_iff] at e
      obtain ⟨ys, e1, e2⟩ := e
      exact or_in x hu false I rx ry hs ha hb e1 e2 q
  · rw [Option.map_eq_some_iff] at e
    obtain ⟨z, e, rfl⟩ := e
    unfold memO at e
    split at e
    · rename_i kvs q1
      rw [Option.map_eq_some_iff] at e
      obtain ⟨kk, e1, rfl⟩ := e
      obtain ⟨c, ws, rfl, h1, h2, h3⟩ := dctOf_sq hs hb q1
      have z := keyD_rd ha e1
      subst z
      cases (show u = Value.ref c from ry)
      refine d_notIn (by have := x.u64; omega) I (DGet.k h1) rx fun s' I' => ⟨.bl _, H, I', rfl, ?_⟩
      rw [valV_rds h2 h3]
      exact q
    · rw [Option.bind_eq_some_iff] at e
      obtain ⟨ys, e1, e2⟩ := e
      exact or_in x hu true I rx ry hs ha hb e1 e2 q

/-! ### items and slices -/
def rIdx (g : GC) : R2 := fun x y H Q => ∃ ρ st a b d, RS g ρ st H ∧ RD g ρ H a x ∧ RD g ρ H b y ∧ ixD st a b = some d ∧ Pst g ρ H st d Q
theorem ixN_map {α β : Type} (f : α → β) (xs : List α) (i : Int) : atI (xs.map f) i = (atI xs i).map f := by
  unfold atI
  rw [List.length_map]
  cases ixN xs.length i with
  | none => rfl
  | some j => simp
theorem atI_rds {ρ : Rw} {H : Hp} {xs : List D} {vs : List V} {i : Int} {d : D} (r : RDs g ρ H xs vs) (e : atI xs i = some d) : ∃ v, atI vs i = some v ∧ RD g ρ H d v := by
  unfold atI at e ⊢
  rw [r.len]
  cases q : ixN xs.length i with
  | none => rw [q] at e; cases e
  | some j =>
    rw [q] at e
    exact r.get e
theorem ix_any (x : XOk g k X) : IxR X (rIdx g) := by
  intro value slice pins s σ H vx vy v u Q I rx ry h hsl
  obtain ⟨ρ, st, a, b, d, hs, ha, hb, e, post⟩ := h
  unfold ixD at e
  have seq : ∀ {xs : List D} {c : Addr} {vs : List V} {i : Int}, vx = .ref c → (SqL g.K H c vs ∨ SqT g.K H c vs) → RDs g ρ H xs vs → vy = .int i → atI xs i = some d → wpAny (model X.prog X.w) X.A (subscriptTail value slice v u) (EP X pins σ Q) X.xe s := by
    intro xs c vs i e1 sq r e2 e3
    obtain ⟨z, h1, h2⟩ := atI_rds r e3
    rcases sq with sq | sq
    · exact ix_list value slice pins s σ H vx vy v u Q I rx ry ⟨c, vs, i, z, e1, e2, x.eqL sq, h1, post.here hs h2⟩ hsl
    · exact ix_tup value slice pins s σ H vx vy v u Q I rx ry ⟨c, vs, i, z, e1, e2, x.eqK sq, h1, post.here hs h2⟩ hsl
  split at e
  · split at e
    · rename_i z i hz
      rw [Option.map_eq_some_iff] at e
      obtain ⟨c, e1, rfl⟩ := e
      rw [RD.str_] at ha
      rw [RD.int_] at hb
      exact ix_str value slice pins s σ H vx vy v u Q I rx ry ⟨z, i, c, ha, hb, hz, e1, post.here hs (by rw [RD.str_])⟩ hsl
    · cases e
  · rename_i n kk
    split at e
    · rename_i kvs q1
      rw [Option.bind_eq_some_iff] at e
      obtain ⟨key, e1, e2⟩ := e
      obtain ⟨c, ws, rfl, h1, h2, h3⟩ := dctOf_sq hs ha q1
      have z := keyD_rd hb e1
      subst z
      cases (show v = Value.ref c from rx)
      have dg := DGet.k (k := key) h1
      rcases val_rds (k := key) h2 h3 with ⟨_, n2⟩ | ⟨d', v', n1, n2, rd⟩
      · rw [n2] at e2; cases e2
      · rw [n1] at e2
        cases e2
        rw [n2] at dg
        have hT := dict_typeIs I dg
        unfold subscriptTail
        refine wpAny_bind ?_
        rw [getitemInPython_of_ne hT.not_modules]
        refine wpAny_bind (wpAny_specialOf hT PySem.F.slot_dict_getitem.lookup ?_)
        have fin : wpAny (model X.prog X.w) X.A (subscripted slice false (.ref c) u) (fun r s₃ => wpAny (model X.prog X.w) X.A (letTemporaryGo value (.ref c) r >>= fun _ => pure r) (EP X pins σ Q) X.xe s₃) X.xe s := by
          rw [hsl]
          exact wpAny_operating (d_getItem (by have := x.u64; omega) I dg ry fun w' s' I' rw' => wpAny_bind (wpAny_letTemporaryGo (wpAny_pure ⟨v', H, I', rw', post.here hs rd⟩)))
        first
          | exact wpAny_pure (wpAny_bind fin)
          | exact wpAny_bind (wpAny_pure (wpAny_bind fin))
          | exact wpAny_bind fin
    · split at e
      · rename_i xs i q
        obtain ⟨c, vs, e1, e2, r⟩ := listOf_sq hs ha q
        rw [RD.int_] at hb
        exact seq e1 (.inl (SqL.of e2)) r hb e
      · cases e
  · rename_i xs i
    rw [RD.tup_] at ha
    obtain ⟨c, vs, e1, e2, r⟩ := ha
    rw [RD.int_] at hb
    exact seq e1 (.inr e2) r hb e
  · rename_i xs i
    rw [RD.lst_] at ha
    obtain ⟨c, vs, e1, _, e2, r⟩ := ha
    rw [RD.int_] at hb
    exact seq e1 (.inl (SqL.of e2)) r hb e
  · rename_i ns i
    rw [Option.map_eq_some_iff] at e
    obtain ⟨j, e1, rfl⟩ := e
    obtain ⟨c, vs, h1, h2, r⟩ := itemsOf_sq (st := st) (xs := ns.map .int) hs ha rfl
    rw [RD.int_] at hb
    exact seq h1 h2 r hb (by rw [ixN_map, e1]; rfl)
  · cases e
def rSl (g : GC) : V → Option Int → Option Int → Hp → VK → Prop := fun x lo hi H Q => ∃ ρ st a d, RS g ρ st H ∧ RD g ρ H a x ∧ slD st a lo hi = some d ∧ Pst g ρ H st d Q
theorem cut_rds {ρ : Rw} {H : Hp} {xs : List D} {vs : List V} (r : RDs g ρ H xs vs) (lo hi : Option Int) : RDs g ρ H (cutD xs lo hi) (cutV vs lo hi) := by
  unfold cutD cutV
  rw [r.len]
  exact (r.drop _).take _
theorem sl_any (x : XOk g k X) : SlR X (rSl g) := by
  intro pins s σ H vx v vl vu lo hi sl Q I rx hsl pl pu h
  obtain ⟨ρ, st, a, d, hs, ha, e, post⟩ := h
  have lst : ∀ {xs : List D} {c : Addr} {vs : List V}, vx = .ref c → SqL g.K H c vs → RDs g ρ H xs vs → d = .lst (cutD xs lo hi) →
      ∃ T id, typeLookup (.type T) "__getitem__" = pure (some (.builtin id)) ∧ s.TypeIs v T ∧ wpAny (model X.prog X.w) X.A (getItem v (.ref sl)) (EP X pins σ Q) X.xe s := by
    intro xs c vs e1 e2 r e3
    subst e3
    refine sl_list pins s σ H vx v vl vu lo hi sl Q I rx hsl pl pu ⟨c, vs, e1, x.eqL e2, fun p hp => ?_⟩
    exact post.lay hs hp (RD.lst_.mpr ⟨p, _, rfl, hs.notIn hp, upd_same, RDs.mono (Ext.lay hp) _ _ (cut_rds r lo hi)⟩)
  unfold slD at e
  split at e
  · rename_i xs
    cases e
    rw [RD.tup_] at ha
    obtain ⟨c, vs, e1, e2, r⟩ := ha
    refine sl_tupA pins s σ H vx v vl vu lo hi sl Q I rx hsl pl pu ⟨c, vs, e1, x.eqK e2, fun z => ?_, fun z p hp => ?_⟩
    · have e4 : cutD xs lo hi = xs := by
        unfold cutD
        rw [← r.len, z.1, z.2, List.drop_zero, Nat.sub_zero, r.len, List.take_length]
      rw [e4] at post
      exact post.here hs (RD.tup_.mpr ⟨c, vs, rfl, e2, r⟩)
    · exact post.lay hs hp (RD.tup_.mpr ⟨p, _, rfl, SqT.of upd_same, RDs.mono (Ext.lay hp) _ _ (cut_rds r lo hi)⟩)
  · rename_i ns
    cases e
    rw [RD] at ha
    obtain ⟨c, e1, e2⟩ := ha
    refine lst e1 ?_ (RDs.ints ns) rfl
    rcases e2 with e2 | e2
    · exact .inl e2.2
    · exact e2 H
  · rw [Option.map_eq_some_iff] at e
    obtain ⟨xs, e, rfl⟩ := e
    obtain ⟨c, vs, e1, e2, r⟩ := listOf_sq hs ha e
    exact lst e1 (SqL.of e2) r rfl

/-! ### truth -/
theorem tru_any {ρ : Rw} {H : Hp} {st : Sto} {a : D} {v : V} {b : Bool} (ha : RD g ρ H a v) (e : truD st a = some b) : TruV X.K v H b := by
  unfold truD at e
  split at e
  · cases e; rw [RD.bl_] at ha; subst ha; rfl
  · cases e; rw [RD.int_] at ha; subst ha
    show decide _ = (_ != _)
    rw [bne, Bool.beq_eq_decide_eq]
    simp
  · cases e; rw [RD.non_] at ha; subst ha; rfl
  · cases e

/-! ### isinstance -/
def tyN : Ty → String
  | .int => "int"
  | .bool => "bool"
  | .str => "str"
  | .tuple => "tuple"
  | .list => "list"
theorem kit_all (t : Ty) : kitB "NoneType" (tyN t) = some false ∧ kitB "bool" (tyN t) = some (t == .bool || t == .int) ∧ kitB "int" (tyN t) = some (t == .int) ∧ kitB "str" (tyN t) = some (t == .str) ∧
    kitB "tuple" (tyN t) = some (t == .tuple) ∧ kitB "list" (tyN t) = some (t == .list) := by
  cases t <;> exact ⟨by decide +kernel, by decide +kernel, by decide +kernel, by decide +kernel, by decide +kernel, by decide +kernel⟩
def rIsiD (g : GC) (t : Ty) : List V → Hp → VK → Prop := fun xs H Q => ∃ ρ st a b v, xs = [v, .ty (tyN t)] ∧ RS g ρ st H ∧ RD g ρ H a v ∧ isiD st t a = some b ∧ Q (.bl b) H
theorem cr_isi (x : XOk g k X) (t : Ty) : CallR X (.builtin "isinstance") (rIsiD g t) := by
  intro pins s σ H xs us Q I r h
  obtain ⟨ρ, st, a, b, v, rfl, hs, ha, e, q⟩ := h
  obtain ⟨k1, k2, k3, k4, k5, k6⟩ := kit_all t
  have fin : ∀ {T : String}, TyX X.K H v (.type T) → kitB T (tyN t) = some b → wpAny (model X.prog X.w) X.A (call (.builtin "isinstance") us) (EP X pins σ Q) X.xe s := fun {T} ty kk =>
    call_isi pins s σ H _ us Q I r ⟨v, .ty (tyN t), _, _, b, rfl, .ty _, ty, kit_ty kk, q⟩
  unfold isiD at e
  split at e
  · rw [RD.non_] at ha; subst ha; exact fin (.base .non) (by rw [k1, ← e])
  · rw [RD.bl_] at ha; subst ha; exact fin (.base (.bl _)) (by rw [k2, ← e])
  · rw [RD.int_] at ha; subst ha; exact fin (.base (.int _)) (by rw [k3, ← e])
  · rw [RD.str_] at ha; subst ha; exact fin (.base (.str _)) (by rw [k4, ← e])
  · rw [RD.tup_] at ha
    obtain ⟨c, vs, rfl, sq, _⟩ := ha
    rcases x.eqK sq with (z | ⟨o, z⟩) | ⟨o, its, n, z, hc, _⟩
    · exact fin (.base (.tup z)) (by rw [k5, ← e])
    · exact fin (.fTuple z) (by rw [k5, ← e])
    · exact fin (.kTuple z hc) (by rw [k5, ← e])
  · rw [RD.lst_] at ha
    obtain ⟨c, vs, rfl, _, z, _⟩ := ha
    exact fin (.base (.lst z)) (by rw [k6, ← e])
  · rename_i n
    split at e
    · rename_i ys q1
      obtain ⟨c, vs, rfl, z, _⟩ := listOf_sq (st := st) (xs := ys) hs ha (by simp [listOf, q1])
      exact fin (.base (.lst z)) (by rw [k6, ← e])
    · cases e
  · cases e
end
end MP
end
section
set_option Elab.async false
set_option linter.all false
set_option maxRecDepth 100000
set_option maxHeartbeats 4000000
/-! MPd: built-in calls, methods of lists and dicts, stores. -/
namespace MP
open PySem PySem.Spec PyProof.Rows L2
section
variable {X : Cx} {g : GC} {k : Nat}
def rBf (g : GC) (f : Bf) : List V → Hp → VK → Prop := fun xs H Q => ∃ ρ st ds d, RS g ρ st H ∧ RDs g ρ H ds xs ∧ bfD f st ds = some d ∧ Pst g ρ H st d Q
/-- what is asked of sets and of sorting, shown apart -/
structure SetRules (g : GC) (X : Cx) : Prop where
  uni : OpR X (binaryOp .BitOr) (rUni g)
  len : CallR X (.builtin "len") (fun xs H Q => ∃ ρ st as v, xs = [v] ∧ RS g ρ st H ∧ RD g ρ H (.set as) v ∧ Q (.int (dedup as).length) H)
  make : CallR X (.type "set") (rBf g .set)
  sort : CallR X (.builtin "sorted") (rBf g .sorted)

theorem RDs.inv1 {ρ : Rw} {H : Hp} {a : D} {vs : List V} (h : RDs g ρ H [a] vs) : ∃ v, vs = [v] ∧ RD g ρ H a v := by
  obtain ⟨v, r, rfl, h1, h2⟩ := h.inv
  rw [h2.inv0]
  exact ⟨v, rfl, h1⟩
theorem RDs.inv2 {ρ : Rw} {H : Hp} {a b : D} {vs : List V} (h : RDs g ρ H [a, b] vs) : ∃ v w, vs = [v, w] ∧ RD g ρ H a v ∧ RD g ρ H b w := by
  obtain ⟨v, r, rfl, h1, h2⟩ := h.inv
  obtain ⟨w, rfl, h3⟩ := h2.inv1
  exact ⟨v, w, rfl, h1, h3⟩
theorem allBl_rds {ρ : Rw} {H : Hp} : ∀ {xs : List D} {vs : List V} {bs : List Bool}, RDs g ρ H xs vs → allBl xs = some bs → vs = bs.map V.bl
  | [], vs, bs, h, e => by rw [h.inv0]; simp only [allBl, Option.some.injEq] at e; subst e; rfl
  | x :: xs, vs, bs, h, e => by
    obtain ⟨v, r, rfl, h1, h2⟩ := h.inv
    cases x with
    | bl b =>
      rw [RD.bl_] at h1
      subst h1
      rw [allBl, Option.map_eq_some_iff] at e
      obtain ⟨cs, e, rfl⟩ := e
      rw [allBl_rds h2 e]; rfl
    | _ => simp [allBl] at e
theorem allInt_rds {ρ : Rw} {H : Hp} : ∀ {xs : List D} {vs : List V} {bs : List Int}, RDs g ρ H xs vs → allInt xs = some bs → vs = bs.map V.int
  | [], vs, bs, h, e => by rw [h.inv0]; simp only [allInt, Option.some.injEq] at e; subst e; rfl
  | x :: xs, vs, bs, h, e => by
    obtain ⟨v, r, rfl, h1, h2⟩ := h.inv
    cases x with
    | int b =>
      rw [RD.int_] at h1
      subst h1
      rw [allInt, Option.map_eq_some_iff] at e
      obtain ⟨cs, e, rfl⟩ := e
      rw [allInt_rds h2 e]; rfl
    | _ => simp [allInt] at e
theorem fold_min : ∀ (r : List Int) (x : Int), r.foldl min x ∈ x :: r ∧ ∀ y ∈ x :: r, r.foldl min x ≤ y
  | [], x => ⟨List.mem_cons_self, fun y hy => by simp at hy; rw [hy]; exact Int.le_refl _⟩
  | z :: r, x => by
    obtain ⟨h1, h2⟩ := fold_min r (min x z)
    rw [List.foldl_cons]
    have h3 := h2 (min x z) List.mem_cons_self
    refine ⟨?_, fun y hy => ?_⟩
    · rcases List.mem_cons.mp h1 with e | e
      · rw [e]
        by_cases c : x ≤ z
        · rw [Int.min_eq_left c]; exact List.mem_cons_self
        · rw [Int.min_eq_right (by omega)]; exact List.mem_cons_of_mem _ List.mem_cons_self
      · exact List.mem_cons_of_mem _ (List.mem_cons_of_mem _ e)
    · rcases List.mem_cons.mp hy with e | hy
      · subst e; exact Int.le_trans h3 (Int.min_le_left _ _)
      · rcases List.mem_cons.mp hy with e | hy
        · subst e; exact Int.le_trans h3 (Int.min_le_right _ _)
        · exact h2 y (List.mem_cons_of_mem _ hy)
theorem fold_max : ∀ (r : List Int) (x : Int), r.foldl max x ∈ x :: r ∧ ∀ y ∈ x :: r, y ≤ r.foldl max x
  | [], x => ⟨List.mem_cons_self, fun y hy => by simp at hy; rw [hy]; exact Int.le_refl _⟩
  | z :: r, x => by
    obtain ⟨h1, h2⟩ := fold_max r (max x z)
    rw [List.foldl_cons]
    have h3 := h2 (max x z) List.mem_cons_self
    refine ⟨?_, fun y hy => ?_⟩
    · rcases List.mem_cons.mp h1 with e | e
      · rw [e]
        by_cases c : z ≤ x
        · rw [Int.max_eq_left c]; exact List.mem_cons_self
        · rw [Int.max_eq_right (by omega)]; exact List.mem_cons_of_mem _ List.mem_cons_self
      · exact List.mem_cons_of_mem _ (List.mem_cons_of_mem _ e)
    · rcases List.mem_cons.mp hy with e | hy
      · subst e; exact Int.le_trans (Int.le_max_left _ _) h3
      · rcases List.mem_cons.mp hy with e | hy
        · subst e; exact Int.le_trans (Int.le_max_right _ _) h3
        · exact h2 y (List.mem_cons_of_mem _ hy)

def bfV : Bf → Value
  | .len => .builtin "len"
  | .abs => .builtin "abs"
  | .int => .type "int"
  | .tuple => .type "tuple"
  | .list => .type "list"
  | .sorted => .builtin "sorted"
  | .set => .type "set"
  | .min2 => .builtin "min"
  | .max2 => .builtin "max"
  | .min1 => .builtin "min"
  | .max1 => .builtin "max"
  | .all => .builtin "all"
  | .any => .builtin "any"
  | .sum => .builtin "sum"
  | .str => .type "str"
theorem cr_bf (x : XOk g k X) (S : SetRules g X) (f : Bf) : CallR X (bfV f) (rBf g f) := by
  intro pins s σ H xs us Q I r h
  obtain ⟨ρ, st, ds, d, hs, hd, e, post⟩ := h
  unfold bfD at e
  split at e
  · cases e
    obtain ⟨v, rfl, hv⟩ := hd.inv1
    exact S.len pins s σ H _ us Q I r ⟨ρ, st, _, v, rfl, hs, hv, post.here hs (by rw [RD.int_])⟩
  · split at e
    · rename_i z hz
      cases e
      obtain ⟨v, rfl, hv⟩ := hd.inv1
      rw [RD.str_] at hv
      subst hv
      exact call_len_str pins s σ H _ us Q I r ⟨z, rfl, hz, post.here hs (by rw [RD.int_])⟩
    · cases e
  · rw [Option.map_eq_some_iff] at e
    obtain ⟨ys, e, rfl⟩ := e
    obtain ⟨v, rfl, hv⟩ := hd.inv1
    obtain ⟨a, vs, rfl, sq, rs⟩ := itemsOf_sq hs hv e
    refine call_len_seq pins s σ H _ us Q I r ⟨a, vs, rfl, sq.imp x.eqL x.eqK, ?_⟩
    rw [rs.len]
    exact post.here hs (by rw [RD.int_])
  · cases e
    obtain ⟨v, rfl, hv⟩ := hd.inv1
    rw [RD.int_] at hv
    subst hv
    exact call_abs pins s σ H _ us Q I r ⟨_, rfl, post.here hs (by rw [RD.int_])⟩
  · cases e
    obtain ⟨v, rfl, hv⟩ := hd.inv1
    rw [RD.int_] at hv
    subst hv
    exact call_int1 pins s σ H _ us Q I r (.inl ⟨_, rfl, post.here hs (by rw [RD.int_])⟩)
  · cases e
    obtain ⟨v, rfl, hv⟩ := hd.inv1
    rw [RD.bl_] at hv
    subst hv
    exact call_int1 pins s σ H _ us Q I r (.inr ⟨_, rfl, post.here hs (by rw [RD.int_])⟩)
  · rw [Option.map_eq_some_iff] at e
    obtain ⟨ys, e, rfl⟩ := e
    obtain ⟨v, rfl, hv⟩ := hd.inv1
    obtain ⟨a, vs, rfl, sq, rs⟩ := itemsOf_sq hs hv e
    refine call_tuple_of pins s σ H _ us Q I r ⟨a, vs, rfl, ?_⟩
    rcases sq with sq | sq
    · exact .inl ⟨x.eqL sq, fun l hl => post.lay hs hl (RD.tup_.mpr ⟨l, vs, rfl, SqT.of upd_same, RDs.mono (Ext.lay hl) _ _ rs⟩)⟩
    · exact .inr ⟨x.eqK sq, post.here hs (RD.tup_.mpr ⟨a, vs, rfl, sq, rs⟩)⟩
  · rw [Option.map_eq_some_iff] at e
    obtain ⟨ys, e, rfl⟩ := e
    obtain ⟨v, rfl, hv⟩ := hd.inv1
    obtain ⟨a, vs, rfl, sq, rs⟩ := itemsOf_sq hs hv e
    refine call_list_of pins s σ H _ us Q I r ⟨a, vs, rfl, sq.imp x.eqL x.eqK, fun l hl => ?_⟩
    exact post.lay hs hl (RD.lst_.mpr ⟨l, vs, rfl, hs.notIn hl, upd_same, RDs.mono (Ext.lay hl) _ _ rs⟩)
  · exact S.sort pins s σ H _ us Q I r ⟨ρ, st, _, d, hs, hd, e, post⟩
  · exact S.sort pins s σ H _ us Q I r ⟨ρ, st, _, d, hs, hd, by unfold bfD; simpa using e, post⟩
  · exact S.make pins s σ H _ us Q I r ⟨ρ, st, _, d, hs, hd, e, post⟩
  · cases e
    obtain ⟨v, w, rfl, hv, hw⟩ := hd.inv2
    rw [RD.int_] at hv hw
    subst hv hw
    exact call_min2 x.calm pins s σ H _ us Q I r ⟨_, _, rfl, post.here hs (by rw [RD.int_])⟩
  · cases e
    obtain ⟨v, w, rfl, hv, hw⟩ := hd.inv2
    rw [RD.int_] at hv hw
    subst hv hw
    exact call_max2 x.calm pins s σ H _ us Q I r ⟨_, _, rfl, post.here hs (by rw [RD.int_])⟩
  · split at e
    · rename_i y ys q
      cases e
      rw [Option.bind_eq_some_iff] at q
      obtain ⟨zs, q1, q2⟩ := q
      obtain ⟨v, rfl, hv⟩ := hd.inv1
      obtain ⟨a, vs, rfl, sq, rs⟩ := listOf_sq hs hv q1
      have ev := allInt_rds rs q2
      subst ev
      refine cr_min x.calm pins s σ H _ us Q I r ⟨a, y :: ys, rfl, SqL.of sq, by simp, fun m hm hle => ?_⟩
      obtain ⟨f1, f2⟩ := fold_min ys y
      have : m = ys.foldl min y := Int.le_antisymm (hle _ f1) (f2 m hm)
      rw [this]
      exact post.here hs (by rw [RD.int_])
    · cases e
  · split at e
    · rename_i y ys q
      cases e
      rw [Option.bind_eq_some_iff] at q
      obtain ⟨zs, q1, q2⟩ := q
      obtain ⟨v, rfl, hv⟩ := hd.inv1
      obtain ⟨a, vs, rfl, sq, rs⟩ := listOf_sq hs hv q1
      have ev := allInt_rds rs q2
      subst ev
      refine cr_max x.calm pins s σ H _ us Q I r ⟨a, y :: ys, rfl, SqL.of sq, by simp, fun m hm hle => ?_⟩
      obtain ⟨f1, f2⟩ := fold_max ys y
      have : m = ys.foldl max y := Int.le_antisymm (f2 m hm) (hle _ f1)
      rw [this]
      exact post.here hs (by rw [RD.int_])
    · cases e
  · rw [Option.map_eq_some_iff] at e
    obtain ⟨bs, e, rfl⟩ := e
    rw [Option.bind_eq_some_iff] at e
    obtain ⟨zs, q1, q2⟩ := e
    obtain ⟨v, rfl, hv⟩ := hd.inv1
    obtain ⟨a, vs, rfl, sq, rs⟩ := listOf_sq hs hv q1
    have ev := allBl_rds rs q2
    subst ev
    exact cr_all x.calm pins s σ H _ us Q I r ⟨a, bs, rfl, SqL.of sq, post.here hs (by rw [RD.bl_])⟩
  · rw [Option.map_eq_some_iff] at e
    obtain ⟨bs, e, rfl⟩ := e
    rw [Option.bind_eq_some_iff] at e
    obtain ⟨zs, q1, q2⟩ := e
    obtain ⟨v, rfl, hv⟩ := hd.inv1
    obtain ⟨a, vs, rfl, sq, rs⟩ := listOf_sq hs hv q1
    have ev := allBl_rds rs q2
    subst ev
    exact cr_any x.calm pins s σ H _ us Q I r ⟨a, bs, rfl, SqL.of sq, post.here hs (by rw [RD.bl_])⟩
  · rw [Option.map_eq_some_iff] at e
    obtain ⟨bs, e, rfl⟩ := e
    rw [Option.bind_eq_some_iff] at e
    obtain ⟨zs, q1, q2⟩ := e
    obtain ⟨v, rfl, hv⟩ := hd.inv1
    obtain ⟨a, vs, rfl, sq, rs⟩ := listOf_sq hs hv q1
    have ev := allInt_rds rs q2
    subst ev
    exact cr_sum x.calm pins s σ H _ us Q I r ⟨a, bs, rfl, SqL.of sq, post.here hs (by rw [RD.int_])⟩
  · split at e
    · rename_i i hi
      cases e
      obtain ⟨v, rfl, hv⟩ := hd.inv1
      rw [RD.int_] at hv
      subst hv
      exact call_str_int pins s σ H _ us Q I r ⟨i, rfl, hi, post.here hs (by rw [RD.str_])⟩
    · cases e
  · cases e

/-! ### methods -/
def rMt (g : GC) (m : Mt) : V → List V → Hp → VK → Prop := fun x xs H Q => ∃ ρ st o ds d st', RS g ρ st H ∧ RD g ρ H o x ∧ RDs g ρ H ds xs ∧ mtD m st o ds = some (d, st') ∧ Pst g ρ H st' d Q
def mtT : Mt → String
  | .get => "dict"
  | _ => "list"
def mtI : Mt → String
  | .append => "list.append"
  | .extend => "list.extend"
  | .pop => "list.pop"
  | .popAt => "list.pop"
  | .insert => "list.insert"
  | .get => "dict.get"
/-- a list of the store is written -/
theorem lst_write {ρ : Rw} {st : Sto} {H : Hp} {n : Nat} {xs ys : List D} {ws : List V} {a : Addr} {d : D} {Q : VK} {v : V} (hs : RS g ρ st H) (hn : ρ.l[n]? = some a) (ho : st[n]? = some (.lst xs))
    (r : RDs g ρ H ys ws) (post : Pst g ρ H (st.set n (.lst ys)) d Q) (rd : RD g ρ H d v) : Q v (upd H a (.lst ws)) := by
  obtain ⟨x1, x2⟩ := hs.write (o := .lst ws) (ob' := .lst ys) hn ho fun H' x => ⟨ws, rfl, r.mono x⟩
  exact post ρ _ v x1 x2 (RD.mono x1 _ _ rd)
theorem mt_any (x : XOk g k X) (m : Mt) : MtM X (mtI m) (rMt g m) := by
  intro pins s σ H vx xs v us Q I rx rxs h
  obtain ⟨ρ, st, o, ds, d, st', hs, ho, hd, e, post⟩ := h
  unfold mtD at e
  split at e
  · rename_i n
    rw [RD.ref_] at ho
    obtain ⟨a, rfl, hn⟩ := ho
    split at e
    · rename_i ys z q
      split at e
      · rename_i hz
        cases e
        obtain ⟨w, rfl, hw⟩ := hd.inv1
        obtain ⟨o, h1, vs, rfl, r⟩ := hs.at_ n a _ hn q
        exact mt_append pins s σ H _ _ v us Q I rx rxs ⟨a, vs, w, rfl, rfl, h1, by rw [r.len]; exact hz, lst_write hs hn q (r.append (RDs.cons hw RDs.nil)) post (by rw [RD.non_])⟩
      · cases e
    · rename_i ys z q
      split at e
      · rename_i zs q2
        split at e
        · rename_i hz
          cases e
          obtain ⟨w, rfl, hw⟩ := hd.inv1
          obtain ⟨o, h1, vs, rfl, r⟩ := hs.at_ n a _ hn q
          obtain ⟨b, ws, rfl, h2, r2⟩ := listOf_sq hs hw q2
          exact mt_extend pins s σ H _ _ v us Q I rx rxs ⟨a, b, vs, ws, rfl, rfl, h1, h2, by rw [r.len, r2.len]; exact hz, lst_write hs hn q (r.append r2) post (by rw [RD.non_])⟩
        · cases e
      · cases e
    · rename_i ys q
      split at e
      · rename_i y q2
        cases e
        cases hd.inv0
        obtain ⟨o, h1, vs, rfl, r⟩ := hs.at_ n a _ hn q
        obtain ⟨w, e1, hw⟩ := r.get q2
        rw [← r.len] at e1
        exact mt_pop pins s σ H _ _ v us Q I rx rxs ⟨a, vs, w, rfl, rfl, h1, e1, lst_write hs hn q r.dropLast post hw⟩
      · cases e
    · rename_i ys i q
      split at e
      · rename_i hi
        split at e
        · rename_i y q2
          cases e
          obtain ⟨w, rfl, hw⟩ := hd.inv1
          rw [RD.int_] at hw
          subst hw
          obtain ⟨o, h1, vs, rfl, r⟩ := hs.at_ n a _ hn q
          obtain ⟨w, e1, hw⟩ := r.get q2
          have hl := r.len
          have h63 := line63
          have hle : ys.length ≤ sizeLine := hi.2.2
          exact mt_popAt pins s σ H _ _ v us Q I rx rxs ⟨a, vs, i, i.toNat, w, rfl, rfl, h1, by omega, by omega, seqIndex_of hi.1 (by rw [hl]; exact hi.2.1), e1, lst_write hs hn q (r.erase _) post hw⟩
        · cases e
      · cases e
    · rename_i ys z q
      split at e
      · rename_i hz
        cases e
        obtain ⟨w0, w, rfl, hw0, hw⟩ := hd.inv2
        rw [RD.int_] at hw0
        subst hw0
        obtain ⟨o, h1, vs, rfl, r⟩ := hs.at_ n a _ hn q
        exact mt_insert pins s σ H _ _ v us Q I rx rxs ⟨a, vs, 0, w, rfl, rfl, h1, by rw [r.len]; exact hz, by omega, by omega, lst_write hs hn q (RDs.cons hw r) post (by rw [RD.non_])⟩
      · cases e
    · rename_i kvs kk dd q
      split at e
      · rename_i key q2
        cases e
        obtain ⟨w0, w, rfl, hw0, hw⟩ := hd.inv2
        have z := keyD_rd hw0 q2
        subst z
        obtain ⟨a', ws, e1, h1, h2, h3⟩ := dctOf_sq (st := st) (kvs := kvs) hs (RD.ref_.mpr ⟨a, rfl, hn⟩) (by simp [dctOf, q])
        cases e1
        cases (show v = Value.ref a from rx)
        obtain ⟨u1, u2, rfl, r1, r2⟩ := rxs.two
        refine d_get2 (by have := x.u64; omega) I (DGet.k (k := key) h1) r1 r2 fun w' s' I' rw' => ⟨_, H, I', rw', ?_⟩
        rcases val_rds (k := key) h2 h3 with ⟨n2, n1⟩ | ⟨d', v', n1, n2, rd⟩
        · rw [n2]
          rw [n1] at post
          exact post.here hs hw
        · rw [n2]
          rw [n1] at post
          exact post.here hs rd
      · cases e
    · cases e
  · cases e

/-! ### stores -/
def rPut (g : GC) : V → V → V → Hp → (Hp → Prop) → Prop := fun o i v H Q => ∃ ρ st a b d st', RS g ρ st H ∧ RD g ρ H a o ∧ RD g ρ H b i ∧ RD g ρ H d v ∧ putD st a b d = some st' ∧ ∀ H', Ext ρ H ρ H' → RS g ρ st' H' → Q H'
theorem put_rds {ρ : Rw} {H : Hp} {kk : Key} {d : D} {v : V} (hd : RD g ρ H d v) : ∀ {kvs : List (Key × D)} {ws : List (Key × V)}, ws.map (·.1) = kvs.map (·.1) → RDs g ρ H (kvs.map (·.2)) (ws.map (·.2)) →
    (ws.any fun kv => decide (kv.1 = kk)) = (kvs.any fun kv => decide (kv.1 = kk)) ∧
    (ws.map fun kv => if kv.1 = kk then (kv.1, v) else kv).map (·.1) = (kvs.map fun kv => if kv.1 = kk then (kv.1, d) else kv).map (·.1) ∧
    RDs g ρ H ((kvs.map fun kv => if kv.1 = kk then (kv.1, d) else kv).map (·.2)) ((ws.map fun kv => if kv.1 = kk then (kv.1, v) else kv).map (·.2))
  | [], ws, e, r => by
    have : ws = [] := List.map_eq_nil_iff.mp e
    subst this
    exact ⟨rfl, rfl, RDs.nil⟩
  | p :: kvs, ws, e, r => by
    cases ws with
    | nil => cases e
    | cons q ws =>
      simp only [List.map_cons, List.cons.injEq] at e
      obtain ⟨v', z, e2, h1, h2⟩ := RDs.inv (show RDs g ρ H (p.2 :: kvs.map (·.2)) (q.2 :: ws.map (·.2)) from r)
      simp only [List.cons.injEq] at e2
      obtain ⟨rfl, rfl⟩ := e2
      obtain ⟨i1, i2, i3⟩ := put_rds hd e.2 h2
      refine ⟨by rw [List.any_cons, List.any_cons, i1, e.1], ?_, ?_⟩
      · simp only [List.map_cons]
        rw [i2, e.1]
        by_cases c : p.1 = kk
        · rw [if_pos c, if_pos c]
        · rw [if_neg c, if_neg c]
          show q.1 :: _ = p.1 :: _
          rw [e.1]
      · simp only [List.map_cons]
        rw [e.1]
        by_cases c : p.1 = kk
        · rw [if_pos c, if_pos c]
          exact RDs.cons hd i3
        · rw [if_neg c, if_neg c]
          exact RDs.cons h1 i3
theorem putK_rds {ρ : Rw} {H : Hp} {kk : Key} {d : D} {v : V} (hd : RD g ρ H d v) {kvs : List (Key × D)} {ws : List (Key × V)} (e : ws.map (·.1) = kvs.map (·.1)) (r : RDs g ρ H (kvs.map (·.2)) (ws.map (·.2))) :
    (putK ws kk v).map (·.1) = (putKD kvs kk d).map (·.1) ∧ RDs g ρ H ((putKD kvs kk d).map (·.2)) ((putK ws kk v).map (·.2)) := by
  obtain ⟨i1, i2, i3⟩ := put_rds (kk := kk) hd e r
  unfold putK putKD
  rw [i1]
  by_cases c : (kvs.any fun kv => decide (kv.1 = kk)) = true
  · rw [if_pos c, if_pos c]
    exact ⟨i2, i3⟩
  · rw [if_neg c, if_neg c]
    refine ⟨by simp [e], ?_⟩
    rw [List.map_append, List.map_append]
    exact r.append (RDs.cons hd RDs.nil)
theorem set_any (x : XOk g k X) : PSet X (rPut g) := by
  intro pins s σ H vo vi v ov iv u Q I ro ri rv h
  obtain ⟨ρ, st, a, b, d, st', hs, ha, hb, hd, e, post⟩ := h
  unfold putD at e
  split at e
  · rename_i n
    rw [RD.ref_] at ha
    obtain ⟨c, rfl, hn⟩ := ha
    split at e
    · rename_i ys i q
      split at e
      · rename_i j hj
        cases e
        rw [RD.int_] at hb
        subst hb
        obtain ⟨o, h1, vs, rfl, r⟩ := hs.at_ n c _ hn q
        obtain ⟨x1, x2⟩ := hs.write (o := .lst (vs.set j v)) (ob' := .lst (ys.set j d)) hn q fun H' x => ⟨_, rfl, (r.set j hd).mono x⟩
        exact set_list pins s σ H _ _ v ov iv u Q I ro ri rv ⟨c, vs, i, j, rfl, rfl, h1, by rw [r.len]; exact hj, post _ x1 x2⟩
      · cases e
    · rename_i kk kvs q
      split at e
      · rename_i key q2
        split at e
        · rename_i hz
          cases e
          have z := keyD_rd hb q2
          subst z
          obtain ⟨o, h1, ws, rfl, h2, h3⟩ := hs.at_ n c _ hn q
          cases (show ov = Value.ref c from ro)
          obtain ⟨p1, p2⟩ := putK_rds (kk := key) hd h2 h3
          obtain ⟨x1, x2⟩ := hs.write (o := .dK (putK ws key v)) (ob' := .dct (putKD kvs key d)) hn q fun H' x => ⟨_, rfl, p1, p2.mono x⟩
          have hl : ws.length = kvs.length := by have := congrArg List.length h2; simpa using this
          exact d_setItem (by have := x.u64; omega) I (DPut.k h1 (by rw [hl]; exact hz)) ri rv fun s' I' => ⟨_, I', post _ x1 x2⟩
        · cases e
      · cases e
    · cases e
  · cases e
theorem putF_rds {ρ : Rw} {H : Hp} {f : Str} {d : D} {v : V} (hd : RD g ρ H d v) : ∀ {fs : List (Str × D)} {ws : List (Str × V)}, ws.map (·.1) = fs.map (·.1) → RDs g ρ H (fs.map (·.2)) (ws.map (·.2)) →
    (putF f v ws).map (·.1) = (putA f d fs).map (·.1) ∧ RDs g ρ H ((putA f d fs).map (·.2)) ((putF f v ws).map (·.2))
  | [], ws, e, r => by
    have : ws = [] := List.map_eq_nil_iff.mp e
    subst this
    exact ⟨rfl, RDs.cons hd RDs.nil⟩
  | p :: fs, ws, e, r => by
    cases ws with
    | nil => cases e
    | cons q ws =>
      obtain ⟨f1, d1⟩ := p
      obtain ⟨f2, v2⟩ := q
      simp only [List.map_cons, List.cons.injEq] at e
      obtain ⟨v', z, e2, h1, h2⟩ := RDs.inv (show RDs g ρ H (d1 :: fs.map (·.2)) (v2 :: ws.map (·.2)) from r)
      simp only [List.cons.injEq] at e2
      obtain ⟨rfl, rfl⟩ := e2
      obtain ⟨e1, e2⟩ := e
      subst e1
      unfold putF putA
      by_cases c : f2 = f
      · rw [if_pos c, if_pos c]
        refine ⟨?_, RDs.cons hd h2⟩
        show f2 :: ws.map (·.1) = f2 :: fs.map (·.1)
        rw [e2]
      · rw [if_neg c, if_neg c]
        obtain ⟨i1, i2⟩ := putF_rds hd e2 h2
        refine ⟨?_, RDs.cons h1 i2⟩
        show f2 :: (putF f v ws).map (·.1) = f2 :: (putA f d fs).map (·.1)
        rw [i1]
theorem look_rds {ρ : Rw} {H : Hp} {f : Str} : ∀ {fs : List (Str × D)} {ws : List (Str × V)} {d : D}, ws.map (·.1) = fs.map (·.1) → RDs g ρ H (fs.map (·.2)) (ws.map (·.2)) → fs.lookup f = some d → ∃ v, ws.lookup f = some v ∧ RD g ρ H d v
  | [], ws, d, e, r, l => by cases l
  | p :: fs, ws, d, e, r, l => by
    cases ws with
    | nil => cases e
    | cons q ws =>
      obtain ⟨f1, d1⟩ := p
      obtain ⟨f2, v2⟩ := q
      simp only [List.map_cons, List.cons.injEq] at e
      obtain ⟨v', z, e2, h1, h2⟩ := RDs.inv (show RDs g ρ H (d1 :: fs.map (·.2)) (v2 :: ws.map (·.2)) from r)
      simp only [List.cons.injEq] at e2
      obtain ⟨rfl, rfl⟩ := e2
      obtain ⟨e1, e2⟩ := e
      subst e1
      rw [List.lookup_cons] at l ⊢
      cases c : f == f2 with
      | true => rw [c] at l; cases l; exact ⟨v2, rfl, h1⟩
      | false => rw [c] at l; exact look_rds e2 h2 l
end
end MP
end
section
set_option Elab.async false
set_option linter.all false
set_option maxRecDepth 100000
set_option maxHeartbeats 4000000
/-! MPe: expressions. -/
namespace MP
open PySem PySem.Spec PyProof.Rows L2
theorem XOk.u65 {g : GC} {k : Nat} {X : Cx} (x : XOk g k X) : X.A.units + 65 < cLine := by have := x.room.un; omega

/-- the expressions that are told -/
def plainE : Expr → Bool
  | .BoolOp _ _ _ => true
  | .BinOp _ _ _ _ => true
  | .UnaryOp _ _ _ => true
  | .IfExp _ _ _ _ => true
  | .Dict _ _ _ => true
  | .ListComp _ _ _ _ => true
  | .Compare _ _ _ _ => true
  | .Call _ _ _ _ => true
  | .Constant _ _ _ => true
  | .Attribute _ _ _ => true
  | .Subscript _ _ _ => true
  | .Name _ _ => true
  | .List _ _ => true
  | .Tuple _ _ _ => true
  | _ => false
theorem star_cons {e : Expr} (h : plainE e = true) (es : List Expr) (env : PySem.Env) : starEach (e :: es) env = (false, eval e env) :: starEach es env := by
  cases e <;> first | rfl | cases h
theorem star_none : ∀ {es : List Expr}, (∀ e ∈ es, plainE e = true) → ∀ (pos : Pos) (env : PySem.Env), (backTo pos (starEach es env)).any (·.1) = false
  | [], _, _, _ => rfl
  | e :: es, h, pos, env => by
    rw [star_cons (h e List.mem_cons_self)]
    show (false || (backTo pos (starEach es env)).any (·.1)) = false
    rw [Bool.false_or]
    exact star_none (fun e he => h e (List.mem_cons_of_mem _ he)) pos env
theorem star_all : ∀ {es : List Expr}, (∀ e ∈ es, plainE e = true) → ∀ (pos : Pos) (env : PySem.Env), (backTo pos (starEach es env)).all (fun x => !x.1) = true
  | [], _, _, _ => rfl
  | e :: es, h, pos, env => by
    rw [star_cons (h e List.mem_cons_self)]
    show (!false && (backTo pos (starEach es env)).all (fun x => !x.1)) = true
    rw [star_all (fun e he => h e (List.mem_cons_of_mem _ he)) pos env]
    rfl
theorem mark_none {e : Expr} (h : plainE e = true) (op : CmpOp) : behindInMarks op e = false := by
  cases e <;> first | rfl | cases h
theorem fold_none {e : Expr} (h : plainE e = true) (env : PySem.Env) : ∀ x, foldedSetIterable e env x = pure x := by
  intro x
  cases e <;> first | rfl | cases h
theorem ix_plain {e : Expr} (h : plainE e = true) : PlainIx e := by
  intro o i
  cases e <;> first | rfl | cases h
/-- what stands ahead of a point -/
def baseE : Expr → Bool
  | .Call (.Name _ _) [] [] _ => false
  | e => plainE e
theorem att_base {e : Expr} (h : baseE e = true) (f : Str) (env : PySem.Env) : attributeBase e f env (eval e env) = eval e env := by
  cases e <;> first
    | rfl
    | (rename_i fn args kws pos
       cases fn <;> first
        | rfl
        | (cases args <;> first
            | rfl
            | (cases kws <;> first | rfl | cases h)))

section
variable {X : Cx} {g : GC} {k : Nat} {c : Cl}
/-! ### small ones -/
theorem s_var (i : Nat) {x : Str} {pos : Pos} (hN : X.N[i]? = some x) (hv : Vis X.env.scope x) (hd : (x == ("__debug__" : Str)) = false) (hcd : (x == ("__classdict__" : Str)) = false) : PE X (.Name x pos) (tE g c (.var i)) :=
  (pe_var hN hv hd hcd).imp fun σ H Q ⟨ρ, env, st, d, st', hs, he, e, post⟩ => by
    rw [evE] at e
    split at e
    · rename_i d' q
      cases e
      obtain ⟨v, h1, h2⟩ := he.2 i d q
      exact ⟨v, h1, post.here hs h2⟩
    · cases e
theorem s_int {i : Int} {j : Nat} {pos : Pos} : PE X (.Constant (.int i) j pos) (tE g c (.lit (.int i))) :=
  pe_int.imp fun σ H Q ⟨ρ, env, st, d, st', hs, he, e, post⟩ => by
    rw [evE] at e; cases e; exact post.here hs (by rw [RD.int_])
theorem s_bl {b : Bool} {j : Nat} {pos : Pos} : PE X (.Constant (.bool b) j pos) (tE g c (.lit (.bl b))) :=
  pe_bl.imp fun σ H Q ⟨ρ, env, st, d, st', hs, he, e, post⟩ => by
    rw [evE] at e; cases e; exact post.here hs (by rw [RD.bl_])
theorem s_non {j : Nat} {pos : Pos} : PE X (.Constant .none j pos) (tE g c (.lit .non)) :=
  pe_non.imp fun σ H Q ⟨ρ, env, st, d, st', hs, he, e, post⟩ => by
    rw [evE] at e; cases e; exact post.here hs (by rw [RD.non_])
theorem s_str {x : Str} {j : Nat} {pos : Pos} : PE X (.Constant (.str x) j pos) (tE g c (.lit (.str x))) :=
  pe_str.imp fun σ H Q ⟨ρ, env, st, d, st', hs, he, e, post⟩ => by
    rw [evE] at e; cases e; exact post.here hs (by rw [RD.str_])
/-- a constant of the module -/
theorem s_con {x : Str} {pos : Pos} {d : D} {v : V} {u : Value} (hg : Gl X x) (hm : X.mg x = some u) (r : RelV v u) (rd : ∀ ρ H, RD g ρ H d v) (hd : (x == ("__debug__" : Str)) = false) : PE X (.Name x pos) (tE g c (.lit d)) :=
  (pe_glob hg hm r hd).imp fun σ H Q ⟨ρ, env, st, d', st', hs, he, e, post⟩ => by
    rw [evE] at e; cases e; exact post.here hs (rd ρ H)

/-! ### argument lists -/
theorem sa_nil : PA X [] (tEs g c []) := pa_nil.imp fun σ H Q ⟨ρ, env, st, ds, st', hs, he, e, post⟩ => by
  rw [evEs] at e; cases e; exact post ρ H [] Ext.refl hs RDs.nil
theorem sa_cons {e : Expr} {es : List Expr} {a : Ex} {as : List Ex} (hp : plainE e = true) (h1 : PE X e (tE g c a)) (h2 : PA X es (tEs g c as)) : PA X (e :: es) (tEs g c (a :: as)) :=
  (pa_cons h1 h2 (star_cons hp es X.env)).imp fun σ H Q ⟨ρ, env, st, ds, st', hs, he, ev, post⟩ => by
    rw [evEs] at ev
    split at ev
    · rename_i d st1 e1
      split at ev
      · rename_i ds2 st2 e2
        cases ev
        exact ⟨ρ, env, st, d, st1, hs, he, e1, fun ρ1 H1 x1 y1 s1 r1 => ⟨ρ1, env, st1, ds2, st', s1, he.mono y1, e2, fun ρ2 H2 xs y2 s2 r2 => post ρ2 H2 _ (y1.trans y2) s2 (RDs.cons (RD.mono y2 _ _ r1) r2)⟩⟩
      · cases ev
    · cases ev
theorem evEs_len : ∀ {es : List Ex} {env : Env} {st st' : Sto} {ds : List D}, evEs c es env st = some (ds, st') → ds.length = es.length
  | [], _, _, _, _, e => by rw [evEs] at e; cases e; rfl
  | a :: as, _, _, _, _, e => by
    rw [evEs] at e
    split at e
    · split at e
      · rename_i e2
        cases e
        rw [List.length_cons, List.length_cons, evEs_len e2]
      · cases e
    · cases e
theorem s_tup {es : List Expr} {as : List Ex} {kk : Nat} {pos : Pos} (hl : as.length ≤ 1000) (h : PA X es (tEs g c as)) : PE X (.Tuple es kk pos) (tE g c (.tup as)) :=
  (pe_tup h).imp fun σ H Q ⟨ρ, env, st, d, st', hs, he, ev, post⟩ => by
    rw [evE] at ev
    split at ev
    · rename_i ds st1 e1
      cases ev
      refine ⟨ρ, env, st, ds, st', hs, he, e1, fun ρ1 H1 xs y1 s1 r1 => ⟨?_, fun p hp => ?_⟩⟩
      · rw [r1.len, evEs_len e1, sizeLine_eq]; omega
      · exact post ρ1 _ _ (y1.trans (Ext.lay hp)) (s1.lay hp) (RD.tup_.mpr ⟨p, xs, rfl, SqT.of upd_same, RDs.mono (Ext.lay hp) _ _ r1⟩)
    · cases ev
/-- a new list: told by value, or a thing of the store -/
theorem box_new {ρ : Rw} {H : Hp} {st : Sto} {bx : Bool} {ds : List D} {Q : VK} {p : Addr} {xs : List V} (s : RS g ρ st H) (hp : H p = none) (r : RDs g ρ H ds xs) (post : Pst g ρ H (boxD bx ds st).2 (boxD bx ds st).1 Q) : Q (.ref p) (upd H p (.lst xs)) := by
  cases bx with
  | false => exact post ρ _ _ (Ext.lay hp) (s.lay hp) (RD.lst_.mpr ⟨p, xs, rfl, s.notIn hp, upd_same, RDs.mono (Ext.lay hp) _ _ r⟩)
  | true =>
    refine post (ρ.add p) _ _ (Ext.push hp) (s.push hp ⟨xs, rfl, RDs.mono (Ext.push hp) _ _ r⟩) ?_
    show RD g (ρ.add p) _ (.ref st.length) _
    rw [RD.ref_]
    exact ⟨p, rfl, by rw [← s.len]; simp [Rw.add]⟩
theorem s_lst {es : List Expr} {as : List Ex} {bx : Bool} {pos : Pos} (hl : as.length ≤ 1000) (h : PA X es (tEs g c as)) : PE X (.List es pos) (tE g c (.lst bx as)) :=
  (pe_lst h).imp fun σ H Q ⟨ρ, env, st, d, st', hs, he, ev, post⟩ => by
    rw [evE] at ev
    split at ev
    · rename_i ds st1 e1
      rw [Option.some.injEq] at ev
      have e2 : d = (boxD bx ds st1).1 := by rw [ev]
      have e3 : st' = (boxD bx ds st1).2 := by rw [ev]
      subst e2 e3
      refine ⟨ρ, env, st, ds, st1, hs, he, e1, fun ρ1 H1 xs y1 s1 r1 => ⟨?_, fun p hp => ?_⟩⟩
      · rw [r1.len, evEs_len e1, sizeLine_eq]; omega
      · exact box_new s1 hp r1 (post.from y1)
    · cases ev
theorem s_dct {pos : Pos} : PE X (.Dict [] [] pos) (tE g c (.dct [] [])) :=
  pe_dnewK.imp fun σ H Q ⟨ρ, env, st, d, st', hs, he, ev, post⟩ => by
    rw [evE] at ev
    cases ev
    intro p hp
    refine post (ρ.add p) _ _ (Ext.push hp) (hs.push hp ⟨[], rfl, rfl, RDs.nil⟩) ?_
    rw [RD.ref_]
    exact ⟨p, rfl, by rw [← hs.len]; simp [Rw.add]⟩

/-! ### operators -/
theorem s_bin (x : XOk g k X) (S : SetRules g X) {a b : Expr} {ia ib : Ex} {op : BOp} {pos : Pos} (ha : PE X a (tE g c ia)) (hb : PE X b (tE g c ib)) : PE X (.BinOp a (opB op) b pos) (tE g c (.bin op ia ib)) :=
  (pe_op (or_bin x S.uni op) ha hb).imp fun σ H Q ⟨ρ, env, st, d, st', hs, he, ev, post⟩ => by
    rw [evE] at ev
    split at ev
    · rename_i d1 st1 e1
      split at ev
      · rename_i d2 st2 e2
        rw [Option.map_eq_some_iff] at ev
        obtain ⟨d3, e3, e4⟩ := ev
        cases e4
        exact ⟨ρ, env, st, d1, st1, hs, he, e1, fun ρ1 H1 x1 y1 s1 r1 => ⟨ρ1, env, st1, d2, st', s1, he.mono y1, e2, fun ρ2 H2 x2 y2 s2 r2 => ⟨ρ2, st', d1, d2, d, s2, RD.mono y2 _ _ r1, r2, e3, post.from (y1.trans y2)⟩⟩⟩
      · cases ev
    · cases ev
theorem s_neg {a : Expr} {ia : Ex} {pos : Pos} (ha : PE X a (tE g c ia)) : PE X (.UnaryOp .USub a pos) (tE g c (.neg ia)) :=
  (pe_un un_neg ha).imp fun σ H Q ⟨ρ, env, st, d, st', hs, he, ev, post⟩ => by
    rw [evE] at ev
    split at ev
    · rename_i i st1 e1
      cases ev
      exact ⟨ρ, env, st, _, _, hs, he, e1, fun ρ1 H1 x1 y1 s1 r1 => ⟨i, RD.int_.mp r1, post ρ1 H1 _ y1 s1 (by rw [RD.int_])⟩⟩
    · cases ev
theorem s_cmp (x : XOk g (k + 1) X) {a b : Expr} {ia ib : Ex} {op : COp} {pos : Pos} (hp : plainE b = true) (ha : PE X a (tE g c ia)) (hb : PE X b (tE g c ib)) : PE X (.Compare a [opC op] [b] pos) (tE g c (.cmp op ia ib)) :=
  (pe_cmpR (or_cmp x x.u65 op) ha hb (mark_none hp _)).imp fun σ H Q ⟨ρ, env, st, d, st', hs, he, ev, post⟩ => by
    rw [evE] at ev
    split at ev
    · rename_i d1 st1 e1
      split at ev
      · rename_i d2 st2 e2
        rw [Option.map_eq_some_iff] at ev
        obtain ⟨d3, e3, e4⟩ := ev
        cases e4
        exact ⟨ρ, env, st, d1, st1, hs, he, e1, fun ρ1 H1 x1 y1 s1 r1 => ⟨ρ1, env, st1, d2, st', s1, he.mono y1, e2, fun ρ2 H2 x2 y2 s2 r2 => ⟨ρ2, st', d1, d2, d3, s2, RD.mono y2 _ _ r1, r2, e3, post ρ2 H2 _ (y1.trans y2) s2 (by rw [RD.bl_])⟩⟩⟩
      · cases ev
    · cases ev
theorem st_cmp (x : XOk g (k + 1) X) {a b : Expr} {ia ib : Ex} {op : COp} {pos : Pos} (hp : plainE b = true) (ha : PE X a (tE g c ia)) (hb : PE X b (tE g c ib)) : PT X (.Compare a [opC op] [b] pos) (tB g c (.cmp op ia ib)) :=
  (pt_cmpR (or_cmp x x.u65 op) ha hb (mark_none hp _)).imp fun σ H Q ⟨ρ, env, st, d, st', r, hs, he, ev, tr, post⟩ => by
    rw [evE] at ev
    split at ev
    · rename_i d1 st1 e1
      split at ev
      · rename_i d2 st2 e2
        rw [Option.map_eq_some_iff] at ev
        obtain ⟨d3, e3, e4⟩ := ev
        cases e4
        cases tr
        exact ⟨ρ, env, st, d1, st1, hs, he, e1, fun ρ1 H1 x1 y1 s1 r1 => ⟨ρ1, env, st1, d2, st', s1, he.mono y1, e2, fun ρ2 H2 x2 y2 s2 r2 => ⟨ρ2, st', d1, d2, _, s2, RD.mono y2 _ _ r1, r2, e3, _, rfl, post ρ2 H2 (y1.trans y2) s2⟩⟩⟩
      · cases ev
    · cases ev
theorem last_marks {op op2 : CmpOp} {b e : Expr} (hp : plainE e = true) : lastMarks [op, op2] [b, e] = false := mark_none hp _
theorem s_cmp2 (x : XOk g (k + 1) X) {a b e : Expr} {ia ib ie : Ex} {op op2 : COp} {pos : Pos} (hp : plainE e = true) (ha : PE X a (tE g c ia)) (hb : PE X b (tE g c ib)) (hc : PE X e (tE g c ie)) : PE X (.Compare a [opC op, opC op2] [b, e] pos) (tE g c (.cmp2 op op2 ia ib ie)) :=
  (pe_chain (or_cmp x x.u65 op) (or_cmp x x.u65 op2) ha hb hc (last_marks hp)).imp fun σ H Q ⟨ρ, env, st, d, st', hs, he, ev, post⟩ => by
    rw [evE] at ev
    split at ev
    · rename_i d1 st1 e1
      split at ev
      · rename_i d2 st2 e2
        refine ⟨ρ, env, st, d1, st1, hs, he, e1, fun ρ1 H1 x1 y1 s1 r1 => ⟨ρ1, env, st1, d2, st2, s1, he.mono y1, e2, fun ρ2 H2 x2 y2 s2 r2 => ?_⟩⟩
        split at ev
        · rename_i e3
          refine ⟨ρ2, st2, d1, d2, true, s2, RD.mono y2 _ _ r1, r2, e3, true, rfl, ?_⟩
          rw [if_pos rfl]
          split at ev
          · rename_i d4 st4 e4
            rw [Option.map_eq_some_iff] at ev
            obtain ⟨d5, e5, e6⟩ := ev
            cases e6
            exact ⟨ρ2, env, st2, d4, st', s2, (he.mono y1).mono y2, e4, fun ρ3 H3 x3 y3 s3 r3 => ⟨ρ3, st', d2, d4, d5, s3, RD.mono y3 _ _ r2, r3, e5, post ρ3 H3 _ ((y1.trans y2).trans y3) s3 (by rw [RD.bl_])⟩⟩
          · cases ev
        · rename_i e3
          cases ev
          refine ⟨ρ2, _, d1, d2, false, s2, RD.mono y2 _ _ r1, r2, e3, false, rfl, ?_⟩
          rw [if_neg Bool.false_ne_true]
          exact post ρ2 H2 _ (y1.trans y2) s2 (by rw [RD.bl_])
        · cases ev
      · cases ev
    · cases ev
theorem st_cmp2 (x : XOk g (k + 1) X) {a b e : Expr} {ia ib ie : Ex} {op op2 : COp} {pos : Pos} (hp : plainE e = true) (ha : PE X a (tE g c ia)) (hb : PE X b (tE g c ib)) (hc : PE X e (tE g c ie)) : PT X (.Compare a [opC op, opC op2] [b, e] pos) (tB g c (.cmp2 op op2 ia ib ie)) :=
  (pt_chain (or_cmp x x.u65 op) (or_cmp x x.u65 op2) ha hb hc (last_marks hp)).imp fun σ H Q ⟨ρ, env, st, d, st', r, hs, he, ev, tr, post⟩ => by
    rw [evE] at ev
    split at ev
    · rename_i d1 st1 e1
      split at ev
      · rename_i d2 st2 e2
        refine ⟨ρ, env, st, d1, st1, hs, he, e1, fun ρ1 H1 x1 y1 s1 r1 => ⟨ρ1, env, st1, d2, st2, s1, he.mono y1, e2, fun ρ2 H2 x2 y2 s2 r2 => ?_⟩⟩
        split at ev
        · rename_i e3
          refine ⟨ρ2, st2, d1, d2, true, s2, RD.mono y2 _ _ r1, r2, e3, true, rfl, ?_⟩
          rw [if_pos rfl]
          split at ev
          · rename_i d4 st4 e4
            rw [Option.map_eq_some_iff] at ev
            obtain ⟨d5, e5, e6⟩ := ev
            cases e6
            cases tr
            exact ⟨ρ2, env, st2, d4, st', s2, (he.mono y1).mono y2, e4, fun ρ3 H3 x3 y3 s3 r3 => ⟨ρ3, st', d2, d4, _, s3, RD.mono y3 _ _ r2, r3, e5, _, rfl, post ρ3 H3 ((y1.trans y2).trans y3) s3⟩⟩
          · cases ev
        · rename_i e3
          cases ev
          cases tr
          refine ⟨ρ2, _, d1, d2, false, s2, RD.mono y2 _ _ r1, r2, e3, false, rfl, ?_⟩
          rw [if_neg Bool.false_ne_true]
          exact ⟨false, rfl, post ρ2 H2 (y1.trans y2) s2⟩
        · cases ev
      · cases ev
    · cases ev
/-- any other expression as a test -/
theorem st_val {a : Expr} {ia : Ex} (ha : PE X a (tE g c ia)) (he : ∀ whole, isTrue a X.env whole = (do let v ← whole; standAt a.pos; holding [v] (truthy v))) : PT X a (tB g c ia) :=
  (pt_truth ha he).imp fun σ H Q ⟨ρ, env, st, d, st', r, hs, he, ev, tr, post⟩ => ⟨ρ, env, st, d, st', hs, he, ev, fun ρ1 H1 x1 y1 s1 r1 => ⟨r, tru_any r1 tr, post ρ1 H1 y1 s1⟩⟩

/-! ### and, or, not, if -/
theorem tE_bl {a : Ex} {σ : L2.St} {H : Hp} {Q : VK} {ρ : Rw} {env : Env} {st st' : Sto} {b : Bool} (hs : RS g ρ st H) (he : RE g ρ H env σ) (e : evE c a env st = some (.bl b, st')) (h : ∀ ρ' H', Ext ρ H ρ' H' → RS g ρ' st' H' → Q (.bl b) H') : tE g c a σ H Q :=
  ⟨ρ, env, st, _, st', hs, he, e, fun ρ' H' x y s r => by rw [RD.bl_] at r; subst r; exact h ρ' H' y s⟩
theorem tB_bl {a : Ex} {σ : L2.St} {H : Hp} {Q : Bool → Hp → Prop} {ρ : Rw} {env : Env} {st st' : Sto} {b : Bool} (hs : RS g ρ st H) (he : RE g ρ H env σ) (e : evE c a env st = some (.bl b, st')) (h : ∀ ρ' H', Ext ρ H ρ' H' → RS g ρ' st' H' → Q b H') : tB g c a σ H Q :=
  ⟨ρ, env, st, _, st', b, hs, he, e, rfl, h⟩
theorem s_and1 {op : BoolOp} {a : Expr} {ia : Ex} {pos : Pos} (ha : PE X a (tE g c ia)) : PE X (.BoolOp op [a] pos) (tE g c ia) := pe_one ha
theorem s_and {a b : Expr} {rest : List Expr} {ia ib : Ex} {pos : Pos} (ha : PE X a (tE g c ia)) (hb : PE X (.BoolOp .And (b :: rest) pos) (tE g c ib)) : PE X (.BoolOp .And (a :: b :: rest) pos) (tE g c (.and ia ib)) :=
  (pe_and ha hb).imp fun σ H Q ⟨ρ, env, st, d, st', hs, he, ev, post⟩ => by
    rw [evE] at ev
    split at ev
    · rename_i st1 e1
      refine tE_bl hs he e1 fun ρ1 H1 y1 s1 => ⟨true, rfl, ?_⟩
      rw [if_pos rfl]
      split at ev
      · rename_i r st2 e2
        cases ev
        exact tE_bl s1 (he.mono y1) e2 fun ρ2 H2 y2 s2 => post ρ2 H2 _ (y1.trans y2) s2 (by rw [RD.bl_])
      · cases ev
    · rename_i st1 e1
      cases ev
      refine tE_bl hs he e1 fun ρ1 H1 y1 s1 => ⟨false, rfl, ?_⟩
      rw [if_neg Bool.false_ne_true]
      exact post ρ1 H1 _ y1 s1 (by rw [RD.bl_])
    · cases ev
theorem s_or {a b : Expr} {rest : List Expr} {ia ib : Ex} {pos : Pos} (ha : PE X a (tE g c ia)) (hb : PE X (.BoolOp .Or (b :: rest) pos) (tE g c ib)) : PE X (.BoolOp .Or (a :: b :: rest) pos) (tE g c (.or ia ib)) :=
  (pe_or ha hb).imp fun σ H Q ⟨ρ, env, st, d, st', hs, he, ev, post⟩ => by
    rw [evE] at ev
    split at ev
    · rename_i st1 e1
      refine tE_bl hs he e1 fun ρ1 H1 y1 s1 => ⟨false, rfl, ?_⟩
      rw [if_neg Bool.false_ne_true]
      split at ev
      · rename_i r st2 e2
        cases ev
        exact tE_bl s1 (he.mono y1) e2 fun ρ2 H2 y2 s2 => post ρ2 H2 _ (y1.trans y2) s2 (by rw [RD.bl_])
      · cases ev
    · rename_i st1 e1
      cases ev
      refine tE_bl hs he e1 fun ρ1 H1 y1 s1 => ⟨true, rfl, ?_⟩
      rw [if_pos rfl]
      exact post ρ1 H1 _ y1 s1 (by rw [RD.bl_])
    · cases ev
theorem s_not {a : Expr} {ia : Ex} {pos : Pos} (ha : PE X a (tE g c ia)) : PE X (.UnaryOp .Not a pos) (tE g c (.not ia)) :=
  (pe_not ha).imp fun σ H Q ⟨ρ, env, st, d, st', hs, he, ev, post⟩ => by
    rw [evE] at ev
    split at ev
    · rename_i b st1 e1
      cases ev
      exact tE_bl hs he e1 fun ρ1 H1 y1 s1 => ⟨b, rfl, post ρ1 H1 _ y1 s1 (by rw [RD.bl_])⟩
    · cases ev
theorem sw_and1 {a : Expr} {ia : Ex} {pos : Pos} (ha : PT X a (tB g c ia)) : PW X (.BoolOp .And [a] pos) (tB g c ia) := pw_and1 ha
theorem sw_or1 {a : Expr} {ia : Ex} {pos : Pos} (ha : PT X a (tB g c ia)) : PW X (.BoolOp .Or [a] pos) (tB g c ia) := pw_or1 ha
theorem sw_and {a b : Expr} {rest : List Expr} {ia ib : Ex} {pos : Pos} (ha : PT X a (tB g c ia)) (hb : PW X (.BoolOp .And (b :: rest) pos) (tB g c ib)) : PW X (.BoolOp .And (a :: b :: rest) pos) (tB g c (.and ia ib)) :=
  (pw_and ha hb).imp fun σ H Q ⟨ρ, env, st, d, st', r, hs, he, ev, tr, post⟩ => by
    rw [evE] at ev
    split at ev
    · rename_i st1 e1
      refine tB_bl hs he e1 fun ρ1 H1 y1 s1 => ?_
      rw [if_pos rfl]
      split at ev
      · rename_i r st2 e2
        cases ev
        cases tr
        exact tB_bl s1 (he.mono y1) e2 fun ρ2 H2 y2 s2 => post ρ2 H2 (y1.trans y2) s2
      · cases ev
    · rename_i st1 e1
      cases ev
      cases tr
      refine tB_bl hs he e1 fun ρ1 H1 y1 s1 => ?_
      rw [if_neg Bool.false_ne_true]
      exact post ρ1 H1 y1 s1
    · cases ev
theorem sw_or {a b : Expr} {rest : List Expr} {ia ib : Ex} {pos : Pos} (ha : PT X a (tB g c ia)) (hb : PW X (.BoolOp .Or (b :: rest) pos) (tB g c ib)) : PW X (.BoolOp .Or (a :: b :: rest) pos) (tB g c (.or ia ib)) :=
  (pw_or ha hb).imp fun σ H Q ⟨ρ, env, st, d, st', r, hs, he, ev, tr, post⟩ => by
    rw [evE] at ev
    split at ev
    · rename_i st1 e1
      refine tB_bl hs he e1 fun ρ1 H1 y1 s1 => ?_
      rw [if_neg Bool.false_ne_true]
      split at ev
      · rename_i r st2 e2
        cases ev
        cases tr
        exact tB_bl s1 (he.mono y1) e2 fun ρ2 H2 y2 s2 => post ρ2 H2 (y1.trans y2) s2
      · cases ev
    · rename_i st1 e1
      cases ev
      cases tr
      refine tB_bl hs he e1 fun ρ1 H1 y1 s1 => ?_
      rw [if_pos rfl]
      exact post ρ1 H1 y1 s1
    · cases ev
theorem st_not {a : Expr} {ia : Ex} {pos : Pos} (ha : PT X a (tB g c ia)) : PT X (.UnaryOp .Not a pos) (tB g c (.not ia)) :=
  (pt_not ha).imp fun σ H Q ⟨ρ, env, st, d, st', r, hs, he, ev, tr, post⟩ => by
    rw [evE] at ev
    split at ev
    · rename_i b st1 e1
      cases ev
      cases tr
      exact tB_bl hs he e1 fun ρ1 H1 y1 s1 => post ρ1 H1 y1 s1
    · cases ev
theorem s_ite {t a b : Expr} {it ia ib : Ex} {pos : Pos} (ht : PT X t (tB g c it)) (ha : PE X a (tE g c ia)) (hb : PE X b (tE g c ib)) : PE X (.IfExp t a b pos) (tE g c (.ite it ia ib)) :=
  (pe_ifExp ht ha hb).imp fun σ H Q ⟨ρ, env, st, d, st', hs, he, ev, post⟩ => by
    rw [evE] at ev
    split at ev
    · rename_i v st1 e1
      split at ev
      · rename_i e2
        refine ⟨ρ, env, st, v, st1, true, hs, he, e1, e2, fun ρ1 H1 y1 s1 => ?_⟩
        exact iteT ⟨ρ1, env, st1, d, st', s1, he.mono y1, ev, post.from y1⟩
      · rename_i e2
        refine ⟨ρ, env, st, v, st1, false, hs, he, e1, e2, fun ρ1 H1 y1 s1 => ?_⟩
        exact iteF ⟨ρ1, env, st1, d, st', s1, he.mono y1, ev, post.from y1⟩
      · cases ev
    · cases ev

/-! ### items, slices, fields -/
theorem s_idx (x : XOk g k X) {a b : Expr} {ia ib : Ex} {pos : Pos} (hp : plainE b = true) (ha : PE X a (tE g c ia)) (hb : PE X b (tE g c ib)) : PE X (.Subscript a b pos) (tE g c (.idx ia ib)) :=
  (pe_ix (ix_any x) ha hb (ix_plain hp)).imp fun σ H Q ⟨ρ, env, st, d, st', hs, he, ev, post⟩ => by
    rw [evE] at ev
    split at ev
    · rename_i d1 st1 e1
      split at ev
      · rename_i d2 st2 e2
        rw [Option.map_eq_some_iff] at ev
        obtain ⟨d3, e3, e4⟩ := ev
        cases e4
        exact ⟨ρ, env, st, d1, st1, hs, he, e1, fun ρ1 H1 x1 y1 s1 r1 => ⟨ρ1, env, st1, d2, st', s1, he.mono y1, e2, fun ρ2 H2 x2 y2 s2 r2 => ⟨ρ2, st', d1, d2, d, s2, RD.mono y2 _ _ r1, r2, e3, post.from (y1.trans y2)⟩⟩⟩
      · cases ev
    · cases ev
def tO (g : GC) (c : Cl) (e : Option Ex) : TO := fun σ H Q => ∃ ρ env st o st', RS g ρ st H ∧ RE g ρ H env σ ∧ evO c e env st = some (o, st') ∧ ∀ ρ' H', Ext ρ H ρ' H' → RS g ρ' st' H' → Q o H'
theorem _root_.L2.PO.imp {e : Option Expr} {t t' : TO} (h : PO X e t) (k : ∀ σ H Q, t' σ H Q → t σ H Q) : PO X e t' := ⟨fun pins s σ H Q I q => h.run pins s σ H Q I (k σ H Q q)⟩
theorem so_none : PO X none (tO g c none) := po_none.imp fun σ H Q ⟨ρ, env, st, o, st', hs, he, ev, post⟩ => by
  rw [evO] at ev; cases ev; exact post ρ H Ext.refl hs
theorem so_some {a : Expr} {ia : Ex} (ha : PE X a (tE g c ia)) : PO X (some a) (tO g c (some ia)) := (po_some ha).imp fun σ H Q ⟨ρ, env, st, o, st', hs, he, ev, post⟩ => by
  rw [evO] at ev
  split at ev
  · rename_i i st1 e1
    cases ev
    exact ⟨ρ, env, st, _, _, hs, he, e1, fun ρ1 H1 x1 y1 s1 r1 => ⟨i, RD.int_.mp r1, post ρ1 H1 y1 s1⟩⟩
  · cases ev
theorem s_sl (x : XOk g k X) {a : Expr} {lo hi : Option Expr} {ia : Ex} {ilo ihi : Option Ex} {p2 pos : Pos} (ha : PE X a (tE g c ia)) (hl : PO X lo (tO g c ilo)) (hh : PO X hi (tO g c ihi)) : PE X (.Subscript a (.Slice lo hi none p2) pos) (tE g c (.sl ia ilo ihi)) :=
  (pe_slice (sl_any x) ha hl hh).imp fun σ H Q ⟨ρ, env, st, d, st', hs, he, ev, post⟩ => by
    rw [evE] at ev
    split at ev
    · rename_i d1 st1 e1
      split at ev
      · rename_i l st2 e2
        split at ev
        · rename_i h st3 e3
          rw [Option.map_eq_some_iff] at ev
          obtain ⟨d4, e4, e5⟩ := ev
          cases e5
          exact ⟨ρ, env, st, d1, st1, hs, he, e1, fun ρ1 H1 x1 y1 s1 r1 => ⟨ρ1, env, st1, l, st2, s1, he.mono y1, e2, fun ρ2 H2 y2 s2 => ⟨ρ2, env, st2, h, st', s2, (he.mono y1).mono y2, e3, fun ρ3 H3 y3 s3 =>
            ⟨ρ3, st', d1, d, s3, RD.mono y3 _ _ (RD.mono y2 _ _ r1), e4, post.from ((y1.trans y2).trans y3)⟩⟩⟩⟩
        · cases ev
      · cases ev
    · cases ev
/-- what the classes must be -/
def AttOk (g : GC) (att : Att) : Prop := ∀ cls f, att cls f = true → Cls g.K (g.cl cls) ∧ NoAttr g.K (g.cl cls) f
theorem s_fld (x : XOk g k X) (hA : AttOk g c.att) {a : Expr} {ia : Ex} {f : Str} {pos : Pos} (hb : baseE a = true) (ha : PE X a (tE g c ia)) : PE X (.Attribute a f pos) (tE g c (.fld ia f)) :=
  (pe_fld ha (att_base hb f X.env)).imp fun σ H Q ⟨ρ, env, st, d, st', hs, he, ev, post⟩ => by
    rw [evE] at ev
    split at ev
    · rename_i d1 st1 e1
      rw [Option.map_eq_some_iff] at ev
      obtain ⟨d2, e2, e3⟩ := ev
      cases e3
      refine ⟨ρ, env, st, d1, st', hs, he, e1, fun ρ1 H1 x1 y1 s1 r1 => ?_⟩
      unfold fldD at e2
      split at e2
      · rename_i cls ks xs
        split at e2
        · rename_i hat
          rw [RD] at r1
          obtain ⟨p, dx, fs, rfl, _, h1, h2, h3⟩ := r1
          have hl : xs.length = ks.length := by have := h3.len; rw [← h2]; simpa using this.symm
          obtain ⟨v, l, rd⟩ := look_rds (fs := ks.zip xs) (ws := fs) (by rw [h2, List.map_fst_zip (by rw [hl]; exact Nat.le_refl _)]) (by rw [List.map_snd_zip (by rw [hl]; exact Nat.le_refl _)]; exact h3) e2
          obtain ⟨c1, c2⟩ := hA cls f hat
          exact ⟨p, g.cl cls, dx, fs, v, rfl, h1, by rw [x.hK]; exact c1, by rw [x.hK]; exact c2, l, (post.from y1).here s1 rd⟩
        · cases e2
      · rename_i n
        split at e2
        · rename_i cls fs q
          split at e2
          · rename_i hat
            rw [RD.ref_] at r1
            obtain ⟨p, rfl, hn⟩ := r1
            obtain ⟨o, h1, dx, ws, rfl, h2, h3⟩ := s1.at_ n p _ hn q
            obtain ⟨v, l, rd⟩ := look_rds h2 h3 e2
            obtain ⟨c1, c2⟩ := hA cls f hat
            exact ⟨p, g.cl cls, dx, ws, v, rfl, h1, by rw [x.hK]; exact c1, by rw [x.hK]; exact c2, l, (post.from y1).here s1 rd⟩
          · cases e2
        · cases e2
      · cases e2
    · cases ev
end
end MP
end
section
set_option Elab.async false
set_option linter.all false
set_option maxRecDepth 100000
set_option maxHeartbeats 4000000
/-! MPf: calls. -/
namespace MP
open PySem PySem.Spec PyProof.Rows L2
section
variable {X : Cx} {g : GC} {k : Nat} {c : Cl}
/-! ### built-in functions -/
theorem tCB_bf {f : Bf} {as : List Ex} {σ : L2.St} {H : Hp} {Q : VK} (h : tE g c (.bf f as) σ H Q) : tCB (rBf g f) (tEs g c as) σ H Q := by
  obtain ⟨ρ, env, st, d, st', hs, he, ev, post⟩ := h
  rw [evE] at ev
  split at ev
  · rename_i ds st1 e1
    rw [Option.map_eq_some_iff] at ev
    obtain ⟨d2, e2, e3⟩ := ev
    cases e3
    exact ⟨ρ, env, st, ds, st', hs, he, e1, fun ρ1 H1 xs y1 s1 r1 => ⟨ρ1, st', ds, d, s1, r1, e2, post.from y1⟩⟩
  · cases ev
/-- the name under which a built-in stands -/
def bfN : Bf → Str
  | .len => "len"
  | .abs => "abs"
  | .int => "int"
  | .tuple => "tuple"
  | .list => "list"
  | .sorted => "sorted"
  | .set => "set"
  | .min2 => "min"
  | .max2 => "max"
  | .min1 => "min"
  | .max1 => "max"
  | .all => "all"
  | .any => "any"
  | .sum => "sum"
  | .str => "str"
theorem bf_boot (f : Bf) : bootBuiltins (bfN f) = some (bfV f) := by
  cases f <;> decide +kernel
theorem bf_names (f : Bf) : bfN f ≠ "__name__" ∧ (bfN f == ("__debug__" : Str)) = false := by
  cases f <;> exact ⟨by decide +kernel, by decide +kernel⟩
theorem s_bf (x : XOk g k X) (S : SetRules g X) (f : Bf) {e : Expr} {es : List Expr} {as : List Ex} {p pos : Pos} (hg : Gl X (bfN f)) (hm : X.mg (bfN f) = none) (hp : ∀ a ∈ e :: es, plainE a = true) (ha : PA X (e :: es) (tEs g c as)) :
    PE X (.Call (.Name (bfN f) p) (e :: es) [] pos) (tE g c (.bf f as)) := by
  have cr := cr_bf x S f
  have hb := bf_boot f
  obtain ⟨n1, n2⟩ := bf_names f
  have h1 := star_cons (hp e List.mem_cons_self) es X.env
  have h2 := star_none (fun a ha => hp a (List.mem_cons_of_mem _ ha)) pos X.env
  cases hv : bfV f with
  | builtin id =>
    rw [hv] at cr hb
    exact (pe_callB cr hg hm hb ha n1 n2 h1 h2).imp fun σ H Q h => tCB_bf h
  | type T =>
    rw [hv] at cr hb
    exact (pe_callTy cr hg hm hb ha n1 n2 h1 h2).imp fun σ H Q h => tCB_bf h
  | _ => cases f <;> cases hv
theorem ty_boot (t : Ty) : bootBuiltins (tyN t : Str) = some (.type (tyN t)) := by
  cases t <;> decide +kernel
theorem ty_names (t : Ty) : (tyN t : Str) ≠ "__name__" ∧ ((tyN t : Str) == ("__debug__" : Str)) = false := by
  cases t <;> exact ⟨by decide +kernel, by decide +kernel⟩
theorem s_isi (x : XOk g k X) (t : Ty) {a : Expr} {ia : Ex} {p p2 pos : Pos} (hg : Gl X "isinstance") (hm : X.mg "isinstance" = none) (hg2 : Gl X (tyN t : Str)) (hm2 : X.mg (tyN t : Str) = none) (hp : plainE a = true) (ha : PE X a (tE g c ia)) :
    PE X (.Call (.Name "isinstance" p) [a, .Name (tyN t : Str) p2] [] pos) (tE g c (.isi ia t)) := by
  obtain ⟨n1, n2⟩ := ty_names t
  have pt : PE X (.Name (tyN t : Str) p2) (tC (.ty (tyN t))) := pe_bltn hg2 hm2 (ty_boot t) rfl n1 n2
  refine (pe_callB (cr_isi x t) hg hm (by decide +kernel) (pa_cons ha (pa_cons pt pa_nil rfl) (star_cons hp _ _)) (by decide +kernel) (by decide +kernel) (star_cons hp _ _) rfl).imp fun σ H Q h => ?_
  obtain ⟨ρ, env, st, d, st', hs, he, ev, post⟩ := h
  rw [evE] at ev
  split at ev
  · rename_i d1 st1 e1
    rw [Option.map_eq_some_iff] at ev
    obtain ⟨d2, e2, e3⟩ := ev
    cases e3
    exact ⟨ρ, env, st, d1, st', hs, he, e1, fun ρ1 H1 x1 y1 s1 r1 => ⟨ρ1, st', d1, d2, x1, rfl, s1, r1, e2, post ρ1 H1 _ y1 s1 (by rw [RD.bl_])⟩⟩
  · cases ev

/-! ### methods of lists and dicts -/
def mtN : Mt → Str
  | .append => "append"
  | .extend => "extend"
  | .pop => "pop"
  | .popAt => "pop"
  | .insert => "insert"
  | .get => "get"
theorem mt_facts (m : Mt) : PlainAttrs (mtT m) ∧ Slot (mtT m) (mtN m) (mtI m) ∧ typeOf (.builtin (mtI m)) = pure (.type "method_descriptor") := by
  cases m with
  | append => exact ⟨PySem.F.plainAttrs_list, PySem.F.slot_list_append, PySem.F.type_list_append⟩
  | extend => exact ⟨PySem.F.plainAttrs_list, PySem.F.slot_list_extend, PySem.F.type_list_extend⟩
  | pop => exact ⟨PySem.F.plainAttrs_list, PySem.F.slot_list_pop, PySem.F.type_list_pop⟩
  | popAt => exact ⟨PySem.F.plainAttrs_list, PySem.F.slot_list_pop, PySem.F.type_list_pop⟩
  | insert => exact ⟨PySem.F.plainAttrs_list, PySem.F.slot_list_insert, PySem.F.type_list_insert⟩
  | get => exact ⟨PySem.F.plainAttrs_dict, PySem.F.slot_dict_get, PySem.F.type_dict_get⟩
theorem mt_ty (x : XOk g k X) (m : Mt) {ρ : Rw} {st : Sto} {H : Hp} {o : D} {v : V} (hs : RS g ρ st H) (ho : RD g ρ H o v) (e : mtOk m st o = true) : tyV X.K (mtT m) v H := by
  have lst : ∀ {o : D}, RD g ρ H o v → (listOf st o).isSome = true → tyV X.K "list" v H := fun {o} ho e => by
    obtain ⟨xs, e⟩ := Option.isSome_iff_exists.mp e
    obtain ⟨a, vs, rfl, h1, _⟩ := listOf_sq hs ho e
    exact .inl ⟨rfl, vs, SqL.of h1⟩
  have dct : (dctOf st o).isSome = true → tyV X.K "dict" v H := fun e => by
    obtain ⟨xs, e⟩ := Option.isSome_iff_exists.mp e
    obtain ⟨a, vs, rfl, h1, _⟩ := dctOf_sq hs ho e
    exact .inr (.inr (.inl ⟨rfl, .inl ⟨vs, h1⟩⟩))
  cases m with
  | get => exact dct e
  | _ =>
    unfold mtOk at e
    simp only at e
    split at e
    · exact lst ho e
    · cases e
theorem s_mt0 (x : XOk g k X) (m : Mt) {o : Expr} {io : Ex} {apos cpos : Pos} (hb : baseE o = true) (hl : (apos.endLine == cpos.line) = true) (ho : PE X o (tE g c io)) : PE X (.Call (.Attribute o (mtN m) apos) [] [] cpos) (tE g c (.mt m io [])) := by
  obtain ⟨f1, f2, f3⟩ := mt_facts m
  refine (pe_bm0 f1 f2 f3 (mt_any x m) ho (att_base hb _ _) hl).imp fun σ H Q h => ?_
  obtain ⟨ρ, env, st, d, st', hs, he, ev, post⟩ := h
  rw [evE] at ev
  split at ev
  · rename_i d1 st1 e1
    split at ev
    · rename_i hok
      rw [evEs] at ev
      exact ⟨ρ, env, st, d1, st1, hs, he, e1, fun ρ1 H1 x1 y1 s1 r1 => ⟨mt_ty x m s1 r1 hok, ρ1, st1, d1, [], d, st', s1, r1, RDs.nil, ev, post.from y1⟩⟩
    · cases ev
  · cases ev
theorem s_mt (x : XOk g k X) (m : Mt) {o e : Expr} {es : List Expr} {io : Ex} {as : List Ex} {apos cpos : Pos} (hb : baseE o = true) (hl : (apos.endLine == cpos.line) = true) (hp : ∀ a ∈ e :: es, plainE a = true) (hn : (e :: es).length < 20)
    (ho : PE X o (tE g c io)) (ha : PA X (e :: es) (tEs g c as)) : PE X (.Call (.Attribute o (mtN m) apos) (e :: es) [] cpos) (tE g c (.mt m io as)) := by
  obtain ⟨f1, f2, f3⟩ := mt_facts m
  have hfew : ((backTo cpos (starEach (e :: es) X.env)).all (fun x => !x.1) && (backToKw cpos (keywordEach [] X.env)).all (fun x => x.1.isSome) && decide ((e :: es).length + ([] : List Keyword).length + (if ([] : List Keyword).isEmpty then 0 else 1) < 30)) = true := by
    rw [star_all hp cpos X.env]
    have : (e :: es).length + ([] : List Keyword).length + (if ([] : List Keyword).isEmpty then 0 else 1) < 30 := by
      show (e :: es).length + 0 + 0 < 30
      omega
    simp only [this, decide_true]
    rfl
  refine (pe_bm f1 f2 f3 (mt_any x m) ho ha (att_base hb _ _) hfew hl (star_cons (hp e List.mem_cons_self) _ _) (star_none (fun a ha => hp a (List.mem_cons_of_mem _ ha)) _ _)).imp fun σ H Q h => ?_
  obtain ⟨ρ, env, st, d, st', hs, he, ev, post⟩ := h
  rw [evE] at ev
  split at ev
  · rename_i d1 st1 e1
    split at ev
    · rename_i hok
      split at ev
      · rename_i ds st2 e2
        exact ⟨ρ, env, st, d1, st1, hs, he, e1, fun ρ1 H1 x1 y1 s1 r1 => ⟨mt_ty x m s1 r1 hok, ρ1, env, st1, ds, st2, s1, he.mono y1, e2, fun ρ2 H2 xs y2 s2 r2 => ⟨ρ2, st2, d1, ds, d, st', s2, RD.mono y2 _ _ r1, r2, ev, post.from (y1.trans y2)⟩⟩⟩
      · cases ev
    · cases ev
  · cases ev

/-! ### own defs -/
/-- what a def promises: what the evaluator reckons -/
def spF (g : GC) (call : List D → Sto → Option (D × Sto)) (n : Nat) : Sp := fun vs H Q _ => ∃ ρ st ds d st', RS g ρ st H ∧ RDs g ρ H ds vs ∧ call ds st = some (d, st') ∧ ds.length = n ∧ Pst g ρ H st' d Q
/-- a def of the module keeps it -/
structure FnAt (g : GC) (k : Nat) (call : List D → Sto → Option (D × Sto)) (ps : List Str) (a : Addr) : Prop where
  ok : ∃ fd : FuncData, Binds g.K fd ps [] ∧ FnOk g.P g.w g.K g.mg g.base CX0 k a fd ps (spF g call ps.length)
  arity : ∀ ds st r, call ds st = some r → ds.length = ps.length
theorem XOk.fn (x : XOk g k X) {fd : FuncData} {j : Nat} {a : Addr} {ps : List Str} {sp : Sp} (F : FnOk g.P g.w g.K g.mg g.base CX0 j a fd ps sp) : FnOk X.prog X.w X.K X.mg X.base CX0 j a fd ps sp := by
  rw [x.hP, x.hw, x.hK, x.hm, x.hb]; exact F
theorem s_call0 (x : XOk g k X) {f : Str} {a : Addr} {ps : List Str} {p pos : Pos} (F : FnAt g k (c.call f) ps a) (hg : Gl X f) (hm : g.mg f = some (.ref a)) (hk : PySem.W.keepIn g.K (.ref a) = true) (hd : (f == ("__debug__" : Str)) = false) :
    PE X (.Call (.Name f p) [] [] pos) (tE g c (.call f [])) := by
  obtain ⟨fd, hb, F1⟩ := F.ok
  refine (pe_call0 (E := E0) (x.fn F1) x.room hg (by rw [x.hm]; exact hm) (by rw [x.hK]; exact hk) (by rw [x.hK]; exact hb) .nil pass0 hd).imp fun σ H Q h => ?_
  obtain ⟨ρ, env, st, d, st', hs, he, ev, post⟩ := h
  rw [evE, evEs] at ev
  exact ⟨ρ, st, [], d, st', hs, RDs.nil, ev, F.arity _ _ _ ev, post⟩
theorem s_call (x : XOk g k X) {f : Str} {a : Addr} {ps : List Str} {p pos : Pos} {e : Expr} {es : List Expr} {as : List Ex} (F : FnAt g k (c.call f) ps a) (hg : Gl X f) (hm : g.mg f = some (.ref a)) (hk : PySem.W.keepIn g.K (.ref a) = true)
    (hd : (f == ("__debug__" : Str)) = false) (hp : ∀ a ∈ e :: es, plainE a = true) (ha : PA X (e :: es) (tEs g c as)) : PE X (.Call (.Name f p) (e :: es) [] pos) (tE g c (.call f as)) := by
  obtain ⟨fd, hb, F1⟩ := F.ok
  refine (pe_call (E := E0) (x.fn F1) x.room hg (by rw [x.hm]; exact hm) (by rw [x.hK]; exact hk) (by rw [x.hK]; exact hb) .nil pass0 ha hd (star_cons (hp e List.mem_cons_self) _ _) (star_none (fun a ha => hp a (List.mem_cons_of_mem _ ha)) _ _)).imp fun σ H Q h => ?_
  obtain ⟨ρ, env, st, d, st', hs, he, ev, post⟩ := h
  rw [evE] at ev
  split at ev
  · rename_i ds st1 e1
    refine ⟨ρ, env, st, ds, st1, hs, he, e1, fun ρ1 H1 xs y1 s1 r1 => ?_⟩
    show spF g (c.call f) ps.length (xs ++ []) H1 Q E0
    rw [List.append_nil]
    exact ⟨ρ1, st1, ds, d, st', s1, r1, ev, F.arity _ _ _ ev, post.from y1⟩
  · cases ev
/-- the receiver of an own method -/
theorem recv_at {ρ : Rw} {st : Sto} {H : Hp} {o : D} {v : V} {cl m : Str} (hs : RS g ρ st H) (ho : RD g ρ H o v) (e : recvOk st cl m o = true) : ∃ a dx fs, v = .ref a ∧ H a = some (.ins (g.cl cl) dx fs) ∧ fs.lookup m = none := by
  have nol : ∀ {ws : List (Str × V)} {ks : List Str}, ws.map (·.1) = ks → ks.contains m = false → ws.lookup m = none := by
    intro ws
    induction ws with
    | nil => intro ks _ _; rfl
    | cons p ws ih =>
      intro ks e h
      subst e
      rw [List.map_cons, List.contains_cons, Bool.or_eq_false_iff] at h
      rw [List.lookup_cons, h.1]
      exact ih rfl h.2
  unfold recvOk at e
  split at e
  · rename_i c1 ks xs
    rw [Bool.and_eq_true, decide_eq_true_eq] at e
    obtain ⟨rfl, e2⟩ := e
    rw [RD] at ho
    obtain ⟨a, dx, fs, rfl, _, h1, h2, _⟩ := ho
    exact ⟨a, dx, fs, rfl, h1, nol h2 (by simpa using e2)⟩
  · rename_i n
    split at e
    · rename_i c1 fs q
      rw [Bool.and_eq_true, decide_eq_true_eq] at e
      obtain ⟨rfl, e2⟩ := e
      rw [RD.ref_] at ho
      obtain ⟨a, rfl, hn⟩ := ho
      obtain ⟨o, h1, dx, ws, rfl, h2, _⟩ := hs.at_ n a _ hn q
      exact ⟨a, dx, ws, rfl, h1, nol h2 (by simpa using e2)⟩
    · cases e
  · cases e
theorem eval_meth {o : Expr} {m : Str} {apos pos : Pos} (es : List Expr) (hb : baseE o = true) (hl : (apos.endLine == pos.line) = true) (hp : ∀ a ∈ es, plainE a = true) (hn : es.length < 20) (env : PySem.Env) : ∃ pl : Sem Bool, eval (.Call (.Attribute o m apos) es [] pos) env = (do
      let ov ← eval o env
      standAt apos.atName
      let (f, first) ← holding [ov] (getMethod ov m pl)
      callWith pos f first (backTo pos (starEach es env)) (backToKw pos (keywordEach [] env))) := by
  refine ⟨do return (← importBound o env).getD true, ?_⟩
  have hform : methodCallForm (es.length + ([] : List Keyword).length) (backTo pos (starEach es env)) (backToKw pos (keywordEach [] env)) = true := by
    unfold methodCallForm
    rw [star_all hp pos env]
    have : es.length + ([] : List Keyword).length + (if (backToKw pos (keywordEach [] env)).isEmpty then 0 else 1) < 30 := by
      show es.length + 0 + 0 < 30
      omega
    simp only [this, decide_true]
    rfl
  have hpos : methodCallPos true o env apos pos = pure pos := by unfold methodCallPos; simp [hl]
  have hc : ∀ ov, methodCall o m apos pos env ov (es.length + ([] : List Keyword).length) (backTo pos (starEach es env)) (backToKw pos (keywordEach [] env)) = (do
      let (f, first) ← holding [ov] (getMethod ov m (do return (← importBound o env).getD true))
      callWith pos f first (backTo pos (starEach es env)) (backToKw pos (keywordEach [] env))) := by
    intro ov
    unfold methodCall
    rw [hform, hpos]
    rfl
  rw [arm_eval_Call, att_base hb]
  simp only [hc]
theorem s_meth0 (x : XOk g k X) {cl m q : Str} {a : Addr} {ps : List Str} {apos pos : Pos} {o : Expr} {io : Ex} (F : FnAt g k (c.call q) ps a) (hc : Cls g.K (g.cl cl)) (hm : Meth g.K (g.cl cl) m a) (hb : baseE o = true) (hl : (apos.endLine == pos.line) = true) (ho : PE X o (tE g c io)) :
    PE X (.Call (.Attribute o m apos) [] [] pos) (tE g c (.meth cl m q io [])) := by
  obtain ⟨fd, hbi, F1⟩ := F.ok
  obtain ⟨pl, hev⟩ := eval_meth (m := m) (apos := apos) (pos := pos) [] hb hl (by simp) (by simp) X.env
  refine (pe_meth0 (E := E0) (pl := pl) ho (by rw [x.hK]; exact hc) (by rw [x.hK]; exact hm) (x.fn F1) x.room (by rw [x.hK]; exact hbi) .nil pass0 hev).imp fun σ H Q h => ?_
  obtain ⟨ρ, env, st, d, st', hs, he, ev, post⟩ := h
  rw [evE] at ev
  split at ev
  · rename_i d1 st1 e1
    split at ev
    · rename_i hok
      rw [evEs] at ev
      refine ⟨ρ, env, st, d1, st1, hs, he, e1, fun ρ1 H1 x1 y1 s1 r1 => ?_⟩
      obtain ⟨p, dx, fs, rfl, h1, h2⟩ := recv_at s1 r1 hok
      exact ⟨p, dx, fs, rfl, h1, h2, ρ1, st1, [d1], d, st', s1, RDs.cons r1 RDs.nil, ev, F.arity _ _ _ ev, post.from y1⟩
    · cases ev
  · cases ev
theorem s_meth (x : XOk g k X) {cl m q : Str} {a : Addr} {ps : List Str} {apos pos : Pos} {o e : Expr} {es : List Expr} {io : Ex} {as : List Ex} (F : FnAt g k (c.call q) ps a) (hc : Cls g.K (g.cl cl)) (hm : Meth g.K (g.cl cl) m a) (hb : baseE o = true) (hl : (apos.endLine == pos.line) = true)
    (ho : PE X o (tE g c io)) (hp : ∀ a ∈ e :: es, plainE a = true) (hn : (e :: es).length < 20) (ha : PA X (e :: es) (tEs g c as)) : PE X (.Call (.Attribute o m apos) (e :: es) [] pos) (tE g c (.meth cl m q io as)) := by
  obtain ⟨fd, hbi, F1⟩ := F.ok
  obtain ⟨pl, hev⟩ := eval_meth (m := m) (apos := apos) (pos := pos) (e :: es) hb hl hp hn X.env
  refine (pe_meth (E := E0) (pl := pl) ho (by rw [x.hK]; exact hc) (by rw [x.hK]; exact hm) (x.fn F1) x.room (by rw [x.hK]; exact hbi) .nil pass0 ha (star_cons (hp e List.mem_cons_self) _ _) (star_none (fun a ha => hp a (List.mem_cons_of_mem _ ha)) _ _) hev).imp fun σ H Q h => ?_
  obtain ⟨ρ, env, st, d, st', hs, he, ev, post⟩ := h
  rw [evE] at ev
  split at ev
  · rename_i d1 st1 e1
    split at ev
    · rename_i hok
      split at ev
      · rename_i ds st2 e2
        refine ⟨ρ, env, st, d1, st1, hs, he, e1, fun ρ1 H1 x1 y1 s1 r1 => ?_⟩
        obtain ⟨p, dx, fs, rfl, h1, h2⟩ := recv_at s1 r1 hok
        refine ⟨p, dx, fs, rfl, h1, h2, ρ1, env, st1, ds, st2, s1, he.mono y1, e2, fun ρ2 H2 xs y2 s2 r2 => ?_⟩
        show spF g (c.call q) ps.length (.ref p :: (xs ++ [])) H2 Q E0
        rw [List.append_nil]
        exact ⟨ρ2, st2, d1 :: ds, d, st', s2, RDs.cons (RD.mono y2 _ _ r1) r2, ev, F.arity _ _ _ ev, post.from (y1.trans y2)⟩
      · cases ev
    · cases ev
  · cases ev

/-! ### new instances -/
theorem mk_inner {cl i : Str} {call : Str → List D → Sto → Option (D × Sto)} {ρ : Rw} {st st' : Sto} {H : Hp} {ds : List D} {xs : List V} {d : D} {Q : VK} {n : Nat} {p dx : Addr} (har : ∀ ds st r, call i ds st = some r → ds.length = n) (s1 : RS g ρ st H) (r1 : RDs g ρ H ds xs) (ev : runMk call cl i ds st = some (d, st')) (post : Pst g ρ H st' d Q)
    (hp : H p = none) (hdx : H dx = none) (ne : dx ≠ p) : spF g (call i) n (.ref p :: xs) (upd (upd H dx (.own p)) p (.ins (g.cl cl) dx [])) (fun v H2 => v = .non ∧ Q (.ref p) H2) E0 := by
  unfold runMk at ev
  split at ev
  · rename_i st2 e2
    cases ev
    have hp2 : upd H dx (.own p) p = none := by rw [upd_ne (Ne.symm ne)]; exact hp
    have y1 := Ext.lay (ρ := ρ) (o := HO.own p) hdx
    have y2 := Ext.push (ρ := ρ) (o := HO.ins (g.cl cl) dx []) hp2
    have s2 : RS g (ρ.add p) (st ++ [.ins cl []]) (upd (upd H dx (.own p)) p (.ins (g.cl cl) dx [])) := (s1.lay hdx).push hp2 ⟨dx, [], rfl, rfl, RDs.nil⟩
    have rp : RD g (ρ.add p) (upd (upd H dx (.own p)) p (.ins (g.cl cl) dx [])) (.ref st.length) (.ref p) := by
      rw [RD.ref_]
      exact ⟨p, rfl, by rw [← s1.len]; simp [Rw.add]⟩
    refine ⟨ρ.add p, _, _, _, _, s2, RDs.cons rp (RDs.mono y2 _ _ (RDs.mono y1 _ _ r1)), e2, har _ _ _ e2, fun ρ3 H3 v y3 s3 r3 => ⟨RD.non_.mp r3, ?_⟩⟩
    exact post ρ3 H3 _ ((y1.trans y2).trans y3) s3 (RD.mono y3 _ _ rp)
  · cases ev
structure MkAt (g : GC) (k : Nat) (make : List D → Sto → Option (D × Sto)) (cl : Str) : Prop where
  ok : ∃ (i : Str) (call : Str → List D → Sto → Option (D × Sto)) (a : Addr) (j : Nat) (ps : List Str), make = runMk call cl i ∧ FnAt g j (call i) ps a ∧ j + 1 ≤ k ∧ Mk g.K (g.cl cl) a
theorem s_mk0 (x : XOk g k X) {cl : Str} {p pos : Pos} (M : MkAt g k (c.make cl) cl) (hg : Gl X cl) (hm : g.mg cl = some (.ref (g.cl cl))) (hd : (cl == ("__debug__" : Str)) = false) : PE X (.Call (.Name cl p) [] [] pos) (tE g c (.mk cl [])) := by
  obtain ⟨i, call, a, j, ps, e0, F, hj, hM⟩ := M.ok
  obtain ⟨fd, hb, F1⟩ := F.ok
  refine (pe_make0 (E := E0) (by rw [x.hK]; exact hM) (x.fn F1) (x.room.mono hj) hg (by rw [x.hm]; exact hm) (by rw [x.hK]; exact hb) .nil pass0 hd).imp fun σ H Q h => ?_
  obtain ⟨ρ, env, st, d, st', hs, he, ev, post⟩ := h
  rw [evE, evEs] at ev
  simp only [e0] at ev
  exact fun q dx hq hdx ne => mk_inner F.arity hs RDs.nil ev post hq hdx ne
theorem s_mk (x : XOk g k X) {cl : Str} {p pos : Pos} {e : Expr} {es : List Expr} {as : List Ex} (M : MkAt g k (c.make cl) cl) (hg : Gl X cl) (hm : g.mg cl = some (.ref (g.cl cl))) (hd : (cl == ("__debug__" : Str)) = false) (hp : ∀ a ∈ e :: es, plainE a = true) (ha : PA X (e :: es) (tEs g c as)) :
    PE X (.Call (.Name cl p) (e :: es) [] pos) (tE g c (.mk cl as)) := by
  obtain ⟨i, call, a, j, ps, e0, F, hj, hM⟩ := M.ok
  obtain ⟨fd, hb, F1⟩ := F.ok
  refine (pe_make (E := E0) (by rw [x.hK]; exact hM) (x.fn F1) (x.room.mono hj) hg (by rw [x.hm]; exact hm) (by rw [x.hK]; exact hb) .nil pass0 ha hd (star_cons (hp e List.mem_cons_self) _ _) (star_none (fun a ha => hp a (List.mem_cons_of_mem _ ha)) _ _)).imp fun σ H Q h => ?_
  obtain ⟨ρ, env, st, d, st', hs, he, ev, post⟩ := h
  rw [evE] at ev
  split at ev
  · rename_i ds st1 e1
    simp only [e0] at ev
    refine ⟨ρ, env, st, ds, st1, hs, he, e1, fun ρ1 H1 xs y1 s1 r1 q dx hq hdx ne => ?_⟩
    show spF g (call i) ps.length (.ref q :: (xs ++ [])) _ _ E0
    rw [List.append_nil]
    exact mk_inner F.arity s1 r1 ev (post.from y1) hq hdx ne
  · cases ev
/-! ### ranges as lists and tuples -/
theorem rds_ints {ρ : Rw} {H : Hp} (f : Nat → Int) : ∀ ns : List Nat, RDs g ρ H (ns.map fun i => .int (f i)) (ns.map fun i => V.int (f i))
  | [] => RDs.nil
  | n :: ns => RDs.cons (by rw [RD.int_]) (rds_ints f ns)
theorem small62_ok {i : Int} (h : small62 i = true) : -(2 ^ 62) ≤ i ∧ i < 2 ^ 62 := by
  unfold small62 at h
  rw [decide_eq_true_eq] at h
  exact h
theorem rg_tup {ρ ρ1 : Rw} {H H1 : Hp} {st : Sto} {Q : VK} {a b : Int} (y1 : Ext ρ H ρ1 H1) (s1 : RS g ρ1 st H1) (post : Pst g ρ H st (.tup (rangeD a (b - a).toNat)) Q) (q : Addr) (hq : H1 q = none) : Q (.ref q) (upd H1 q (.tup (rgV a b))) :=
  post ρ1 _ _ (y1.trans (Ext.lay hq)) (s1.lay hq) (RD.tup_.mpr ⟨q, _, rfl, SqT.of upd_same, rds_ints _ _⟩)
theorem rg_lst {ρ ρ1 : Rw} {H H1 : Hp} {st : Sto} {Q : VK} {a b : Int} (y1 : Ext ρ H ρ1 H1) (s1 : RS g ρ1 st H1) (post : Pst g ρ H st (.lst (rangeD a (b - a).toNat)) Q) (q : Addr) (hq : H1 q = none) : Q (.ref q) (upd H1 q (.lst (rgV a b))) :=
  post ρ1 _ _ (y1.trans (Ext.lay hq)) (s1.lay hq) (RD.lst_.mpr ⟨q, _, rfl, s1.notIn hq, upd_same, rds_ints _ _⟩)
theorem rgD_ok {vs : List D} {i j : Int} (h : rgD vs = some (i, j)) : RgOk i j ∧ (vs = [.int j] ∧ i = 0 ∨ vs = [.int i, .int j]) := by
  unfold rgD at h
  split at h
  · split at h
    · rename_i b hb
      cases h
      rw [Bool.and_eq_true, decide_eq_true_eq] at hb
      have := small62_ok hb.1
      exact ⟨⟨by omega, by omega, this.1, this.2, by rw [Int.sub_zero]; exact hb.2⟩, .inl ⟨rfl, rfl⟩⟩
    · cases h
  · split at h
    · rename_i b hb
      cases h
      simp only [Bool.and_eq_true, decide_eq_true_eq] at hb
      have h1 := small62_ok hb.1.1
      have h2 := small62_ok hb.1.2
      exact ⟨⟨h1.1, h1.2, h2.1, h2.2, hb.2⟩, .inr rfl⟩
    · cases h
  · cases h
theorem s_rg1 (x : XOk g k X) (tl : Bool) {nm : Str} {a : Expr} {ia : Ex} {p p2 p3 pos : Pos} (hn : nm = if tl then "tuple" else "list") (hg : Gl X nm) (hm : X.mg nm = none) (hg2 : Gl X "range") (hm2 : X.mg "range" = none) (hp : plainE a = true) (ha : PE X a (tE g c ia)) :
    PE X (.Call (.Name nm p) [.Call (.Name "range" p2) [a] [] p3] [] pos) (tE g c (.rg tl [ia])) := by
  have key : ∀ σ H Q, tE g c (.rg tl [ia]) σ H Q → ∃ ρ env st st1 j, RS g ρ st H ∧ RE g ρ H env σ ∧ evE c ia env st = some (.int j, st1) ∧ RgOk 0 j ∧ Pst g ρ H st1 (if tl then .tup (rangeD 0 (j - 0).toNat) else .lst (rangeD 0 (j - 0).toNat)) Q := by
    intro σ H Q ⟨ρ, env, st, d, st', hs, he, ev, post⟩
    rw [evE] at ev
    split at ev
    · rename_i vs st1 e1
      split at ev
      · rename_i i j e2
        cases ev
        obtain ⟨r1, r2⟩ := rgD_ok e2
        simp only [evEs] at e1
        split at e1
        · rename_i d1 st2 e3
          cases e1
          rcases r2 with ⟨r2, r3⟩ | r2
          · cases r2
            subst r3
            exact ⟨ρ, env, st, _, j, hs, he, e3, r1, post⟩
          · cases r2
        · cases e1
      · cases ev
    · cases ev
  cases tl with
  | true =>
    subst hn
    refine (pe_tupRg x.calm hg hm (prg_1 hg2 hm2 ha (star_cons hp _ _))).imp fun σ H Q h => ?_
    obtain ⟨ρ, env, st, st1, j, hs, he, e1, ok, post⟩ := key σ H Q h
    refine ⟨ρ, env, st, _, st1, hs, he, e1, fun ρ1 H1 x1 y1 s1 r1 => ?_⟩
    rw [RD.int_] at r1
    subst r1
    exact ⟨j, rfl, ok, rg_tup y1 s1 post⟩
  | false =>
    subst hn
    refine (pe_listRg x.calm hg hm (prg_1 hg2 hm2 ha (star_cons hp _ _))).imp fun σ H Q h => ?_
    obtain ⟨ρ, env, st, st1, j, hs, he, e1, ok, post⟩ := key σ H Q h
    refine ⟨ρ, env, st, _, st1, hs, he, e1, fun ρ1 H1 x1 y1 s1 r1 => ?_⟩
    rw [RD.int_] at r1
    subst r1
    exact ⟨j, rfl, ok, rg_lst y1 s1 post⟩
theorem s_rg2 (x : XOk g k X) (tl : Bool) {nm : Str} {a b : Expr} {ia ib : Ex} {p p2 p3 pos : Pos} (hn : nm = if tl then "tuple" else "list") (hg : Gl X nm) (hm : X.mg nm = none) (hg2 : Gl X "range") (hm2 : X.mg "range" = none) (hp : plainE a = true) (hp2 : plainE b = true) (ha : PE X a (tE g c ia)) (hb : PE X b (tE g c ib)) :
    PE X (.Call (.Name nm p) [.Call (.Name "range" p2) [a, b] [] p3] [] pos) (tE g c (.rg tl [ia, ib])) := by
  have key : ∀ σ H Q, tE g c (.rg tl [ia, ib]) σ H Q → ∃ ρ env st st1 st2 i j, RS g ρ st H ∧ RE g ρ H env σ ∧ evE c ia env st = some (.int i, st1) ∧ evE c ib env st1 = some (.int j, st2) ∧ RgOk i j ∧ Pst g ρ H st2 (if tl then .tup (rangeD i (j - i).toNat) else .lst (rangeD i (j - i).toNat)) Q := by
    intro σ H Q ⟨ρ, env, st, d, st', hs, he, ev, post⟩
    rw [evE] at ev
    split at ev
    · rename_i vs st1 e1
      split at ev
      · rename_i i j e2
        cases ev
        obtain ⟨r1, r2⟩ := rgD_ok e2
        simp only [evEs] at e1
        split at e1
        · rename_i d1 st2 e3
          split at e1
          · rename_i ds st3 e4
            cases e1
            split at e4
            · rename_i d2 st4 e5
              cases e4
              rcases r2 with ⟨r2, r3⟩ | r2
              · cases r2
              · cases r2
                exact ⟨ρ, env, st, _, _, i, j, hs, he, e3, e5, r1, post⟩
            · cases e4
          · cases e1
        · cases e1
      · cases ev
    · cases ev
  cases tl with
  | true =>
    subst hn
    refine (pe_tupRg x.calm hg hm (prg_2 hg2 hm2 ha hb (star_cons hp _ _) (star_cons hp2 _ _) (star_none (es := [b]) (by simpa using hp2) _ _))).imp fun σ H Q h => ?_
    obtain ⟨ρ, env, st, st1, st2, i, j, hs, he, e1, e2, ok, post⟩ := key σ H Q h
    refine ⟨ρ, env, st, _, st1, hs, he, e1, fun ρ1 H1 x1 y1 s1 r1 => ⟨ρ1, env, st1, _, st2, s1, he.mono y1, e2, fun ρ2 H2 x2 y2 s2 r2 => ?_⟩⟩
    rw [RD.int_] at r1 r2
    subst r1 r2
    exact ⟨i, j, rfl, rfl, ok, rg_tup (y1.trans y2) s2 post⟩
  | false =>
    subst hn
    refine (pe_listRg x.calm hg hm (prg_2 hg2 hm2 ha hb (star_cons hp _ _) (star_cons hp2 _ _) (star_none (es := [b]) (by simpa using hp2) _ _))).imp fun σ H Q h => ?_
    obtain ⟨ρ, env, st, st1, st2, i, j, hs, he, e1, e2, ok, post⟩ := key σ H Q h
    refine ⟨ρ, env, st, _, st1, hs, he, e1, fun ρ1 H1 x1 y1 s1 r1 => ⟨ρ1, env, st1, _, st2, s1, he.mono y1, e2, fun ρ2 H2 x2 y2 s2 r2 => ?_⟩⟩
    rw [RD.int_] at r1 r2
    subst r1 r2
    exact ⟨i, j, rfl, rfl, ok, rg_lst (y1.trans y2) s2 post⟩
end
end MP
end
section
set_option Elab.async false
set_option linter.all false
set_option maxRecDepth 100000
set_option maxHeartbeats 4000000
/-! MPg: what loops and comprehensions walk. -/
namespace MP
open PySem PySem.Spec PyProof.Rows L2

/-! ### enumerate of a tuple -/
theorem born_enum {v : Value} {o : Obj} {B : Heap → Prop} (b : Begins v o B) : Meets (Builtin.«enumerate.__new__» ⟨[.type "enumerate", v], []⟩) (fun _ R s => B s.heap ∧
    R (.ok (.ret (.ref (s.heap.push o).objs.size))) { s with heap := (s.heap.push o).push ⟨.type "enumerate", none, .fields #[.none, .bool false, .ref s.heap.objs.size, rawInt 0, .none, .none], #[]⟩ }) := by
  refine .of_wp fun prog w A R s hb => ?_
  obtain ⟨hp, g0, d0, tk, os⟩ := s
  obtain ⟨h1, hR⟩ := hb
  have sb := sub_enumerate
  have go : ∀ {A' : Around} {E : Value → Shared → Prop} {Q : Value → Shared → Prop}, Q (.ref hp.objs.size) ⟨hp.push o, g0, d0, tk, os⟩ → wpAny (model prog w) A' (pyIter v) Q E ⟨hp, g0, d0, tk, os⟩ := fun q => b.iter prog w _ _ ⟨hp, g0, d0, tk, os⟩ _ h1 q
  wp_walk using go
  refine wpAny_stack_any fun _ => wpAny_pure ?_
  split
  · rename_i c _ _ _ _ _
    cases (c == Value.type "enumerate") <;> (wp_walk using go; exact ⟨_, rfl, hR⟩)
  · (wp_walk using go; exact ⟨_, rfl, hR⟩)
theorem enum_tup {prog : Program} {w : World} {A : Around} {E : Value → Shared → Prop} {s : Shared} {t : Addr} {items : Array Value} {Q : Value → Shared → Prop} (ht : s.heap.IsTuple t items)
    (q : ∀ h', IsEnum h' (s.heap.objs.size + 1) s.heap.objs.size 0 .none → h'.IsTupleIter s.heap.objs.size t 0 → (∀ b o, s.heap.get? b = some o → h'.get? b = some o) → Q (.ref (s.heap.objs.size + 1)) { s with heap := h' }) :
    wpAny (model prog w) A (call (.type "enumerate") [.ref t]) Q E s := by
  refine callType_new F.called_enumerate (by decide) (F.typeCall_enumerate_1 _) (F.newCall_enumerate_1 _) (fun u => F.args_object_init_2 u _) F.entry_enumerate_new (born_enum (begins_tuple t items)) ⟨ht, ?_⟩
  have sz : (s.heap.push ⟨.type "tuple_iterator", none, .fields #[.ref t, .int 0 0], #[]⟩).objs.size = s.heap.objs.size + 1 := Heap.size_push ..
  have he : ∀ z : Obj, z.isFreed = false → ((s.heap.push ⟨.type "tuple_iterator", none, .fields #[.ref t, .int 0 0], #[]⟩).push z).get? (s.heap.objs.size + 1) = some z := fun z hz => by
    have := Heap.get?_push_size (s.heap.push ⟨.type "tuple_iterator", none, .fields #[.ref t, .int 0 0], #[]⟩) (o := z) hz
    rw [sz] at this
    exact this
  refine ⟨⟨_, by rw [sz]; exact he _ rfl, rfl⟩, ?_⟩
  rw [sz]
  exact q _ (he _ rfl) ⟨_, Heap.get?_push_of_some _ (Heap.get?_push_size _ rfl), rfl, rfl⟩ fun b o x => Heap.get?_push_of_some _ (Heap.get?_push_of_some _ x)
/-- the tuple at a, each item in a new pair with its place -/
def IteT (K : PySem.W.Frag) (a : Addr) : It where
  go i H := ∃ (xs : List V) (x : V), SqT K H a xs ∧ xs[i]? = some x
  yld i H v H' := ∃ T x, v = .ref T ∧ H T = none ∧ H' = upd H T (.tup [.int (i : Nat), x]) ∧ ∀ xs, SqT K H a xs → xs[i]? = some x
  stop i H := ∃ xs : List V, SqT K H a xs ∧ xs.length ≤ i
theorem turn_enumT {P : Program} {w : World} {K : PySem.W.Frag} {es : List Expr} {kk : Nat} {tpos : Pos} (a e it : Addr) :
    Turn P w K (.Tuple es kk tpos) (IteT K a) [e, it] e (fun i h => (∃ old, IsEnum h e it ((i : Nat) : Int) old) ∧ h.IsTupleIter it a i ∧ e ≠ it) where
  mem := List.mem_cons_self
  obj := fun i h ⟨⟨old, he⟩, ⟨o, ho, hc, hd⟩, _⟩ b hb => by
    have hb' : b = e ∨ b = it := by simpa using hb
    rcases hb' with rfl | rfl
    · exact ⟨_, he, fun _ q => nomatch q⟩
    · exact ⟨o, ho, fun _ q => by rw [hd] at q; cases q⟩
  keep := fun i h h' ⟨⟨old, he⟩, hi, hne⟩ k => ⟨⟨old, k e List.mem_cons_self _ he⟩, hi.at fun o q => k it (by simp) o q, hne⟩
  item := by
    intro X hP hw hK hc i pins s σ H E I hf ⟨⟨old, he⟩, hit, hne⟩ ⟨xs, x, hq, hx⟩
    subst hP hw hK
    obtain ⟨its, rv, p, hz⟩ := I.tuple hq
    have p' : s.heap.IsTuple a its.toArray := p
    obtain ⟨u, hu, ru⟩ := rv.get hx
    have hilt : i < its.toArray.size := by simpa using (List.getElem?_eq_some_iff.mp hu).1
    have nia : a ≠ it := fun z => by
      obtain ⟨o1, e1, c1, _⟩ := id p'
      obtain ⟨o2, e2, c2, _⟩ := id hit
      rw [z, e2] at e1
      cases e1
      rw [c1] at c2
      exact absurd c2 (by decide)
    have nea : e ≠ a := fun z => by
      obtain ⟨o1, e1, c1, _⟩ := id p'
      rw [← z, show s.heap.get? e = _ from he] at e1
      cases e1
      have c1' : Value.type "enumerate" = Value.type "tuple" := c1
      exact absurd c1' (by decide)
    have De := Draws.tuple (prog := X.prog) (w := X.w) (A := X.A.in1) (I.ok.hd hc) it a nia its.toArray
    refine wpAny_pyNext_enum_itemD De he ⟨hit, p'⟩ hilt hne (by simp [hne, nea]) fun y h' tk hy ho hst hT hsz hk => ?_
    have ey : y = u := by
      have hu' : its.toArray[i]? = some u := by simpa using hu
      rw [hu'] at hy
      exact (Option.some.inj hy).symm
    subst ey
    have hel : e < s.heap.objs.size := Heap.lt_size he
    refine ⟨_, rfl, wpAny_letOwnedTupleGo_enum (s := { s with heap := h', toks := tk + 1 }) ho fun h2 he2 sb => ?_⟩
    have hT2 := (sb.2 _ (Nat.ne_of_gt hel)).trans hT
    have new : ObjOk X.prog X.w (upd H s.heap.objs.size (.tup [.int (i : Nat), x])) h2 s.heap.objs.size (.tup [.int (i : Nat), x]) :=
      ⟨by show 2 ≤ sizeLine; decide, [.int i tk, y], .cons ⟨_, rfl⟩ (.cons ru .nil), ⟨_, hT2, rfl, _, rfl⟩⟩
    have I1 : Inv X pins σ (upd H s.heap.objs.size (.tup [.int (i : Nat), x])) { s with heap := h2, toks := tk + 1 } :=
      I.turnedNew (ch := [e, it]) (fun b ob hb q => (sb.2 b fun z => hb (by simp [z])).trans (hk b ob (fun z => hb (by simp [z])) (fun z => hb (by simp [z])) q)) hf (Nat.le_refl _) new
    refine ⟨.ref s.heap.objs.size, _, I1, rfl, ⟨_, x, rfl, I.hok.fresh (Nat.le_refl _), rfl, fun ys hy => by rw [I.tuple_inj hy hq]; exact hx⟩, ⟨⟨y, ?_⟩, hst.1.at fun o q => (sb.2 it (Ne.symm hne)).trans q, hne⟩, fun b hb => ?_⟩
    · rw [show ((i + 1 : Nat) : Int) = (i : Int) + 1 by omega]
      exact he2
    · have hbl : b < s.heap.objs.size := by
        have hb' : b = e ∨ b = it := by simpa using hb
        rcases hb' with z | z
        · rw [z]; exact hel
        · obtain ⟨_, q, _⟩ := hit
          rw [z]; exact Heap.lt_size q
      rw [upd_ne (Nat.ne_of_lt hbl)]
      exact (hf b hb).1
  done := by
    intro X hP hw hK hc i pins s σ H E I hf ⟨⟨old, he⟩, hit, hne⟩ ⟨xs, hq, hx⟩
    subst hP hw hK
    obtain ⟨its, rv, p, hz⟩ := I.tuple hq
    have p' : s.heap.IsTuple a its.toArray := p
    obtain ⟨f0, f1, f2, f3, f4, f5⟩ := hf it (by simp)
    have hT : s.TypeIs (.ref e) "enumerate" := ⟨_, he, rfl⟩
    have hl := rv.length
    refine wpAny_bind (wpAny_attempt (wpAny_callSpecial?_slot (name := Str.ofString "__next__") hT F.slot_enumerate_next (wpAny_call_entry F.slot_enumerate_next hT F.entry_enumerate_next ?_ (F.args_enumerate_next_1 _))))
    refine wpAny_bind (m := field (.ref e) 2) (wpAny_field he rfl (x := .ref it) rfl ?_)
    refine wpAny_bind (wpAny_nextOf_tuple_end (I.ok.hd hc) hit p' (by simp; omega) fun h' x xe ⟨o, ho, oc⟩ => ?_)
    refine wpAny_bind (wpAny_isInstance (T := "StopIteration") (b := true) ⟨o, ho, oc⟩ isSubtype_stop ?_)
    exact wpAny_pure ⟨rfl, I.turned (t' := s.toks) (fun b o hb q => xe b o hb q) f0 f1 f3 f4 f5⟩
  self := fun A i s Q E ⟨⟨_, he⟩, _⟩ h => wpAny_pyIter_enum he h
end MP
end
section
set_option Elab.async false
set_option linter.all false
set_option maxRecDepth 100000
set_option maxHeartbeats 4000000
/-! MPr: itertools.combinations at the library's level. -/
namespace Cmb
open PySem PySem.Spec
open Sem (wp)

abbrev cn : String := "itertools.combinations"
theorem mro_c : mroOf (.type cn) = pure [.type cn, .type "object"] := by rw [mroOf_type]; kernel_rfl
theorem new_c : typeLookup (.type cn) "__new__" = pure (some (.builtin "itertools.combinations.__new__")) := by rw [typeLookup_type, builtinLookup_eq_fast]; kernel_rfl
theorem sub_c : isSubtype (.type cn) (.type cn) = pure true := by rw [isSubtype_type]; kernel_rfl
theorem init_c : Slot cn "__init__" "object.__init__" := by
  refine .of (owner := "object") (n := "__init__") ?_ (by decide +kernel) (by decide +kernel) (by decide +kernel) ?_ ?_
  · rw [typeLookup_type, builtinLookup_eq_fast]; kernel_rfl
  · first
      | exact .inl (by decide +kernel)
      | exact .inr (by decide +kernel)
  · rw [isSubtype_type]; kernel_rfl
theorem called_c : TypeCalled cn "itertools.combinations.__new__" "object.__init__" :=
  ⟨by decide +kernel, by decide +kernel, ⟨_, _, mro_c⟩, madeBy_type mro_c new_c (by decide +kernel), by decide +kernel, sub_c, init_c⟩
theorem tcall_c (a b : Value) : checkTypeCall cn ⟨[a, b], []⟩ = pure () := by kernel_rfl
theorem ncall_c (a b : Value) : checkBuiltinCall "itertools.combinations.__new__" ⟨[.type cn, a, b], []⟩ = pure () := by kernel_rfl
theorem enew_c : entryFor table "itertools.combinations.__new__" = some Builtin.«itertools.combinations.__new__» := entryFor_of_tree (by kernel_rfl)
theorem iter_c : Slot cn "__iter__" "itertools.combinations.__iter__" := by
  refine .of (owner := cn) (n := "__iter__") ?_ (by decide +kernel) (by decide +kernel) (by decide +kernel) ?_ sub_c
  · rw [typeLookup_type, builtinLookup_eq_fast]; kernel_rfl
  · first
      | exact .inl (by decide +kernel)
      | exact .inr (by decide +kernel)
theorem next_c : Slot cn "__next__" "itertools.combinations.__next__" := by
  refine .of (owner := cn) (n := "__next__") ?_ (by decide +kernel) (by decide +kernel) (by decide +kernel) ?_ sub_c
  · rw [typeLookup_type, builtinLookup_eq_fast]; kernel_rfl
  · first
      | exact .inl (by decide +kernel)
      | exact .inr (by decide +kernel)
theorem eiter_c : entryFor table "itertools.combinations.__iter__" = some Builtin.«dict_keyiterator.__iter__» :=
  entryFor_alias (id' := "dict_keyiterator.__iter__") (by kernel_rfl) (by first | rfl | decide +kernel | (unfold String.splitOn; simp +decide [String.splitOnAux])) (by decide +kernel) (by kernel_rfl)
theorem enext_c : entryFor table "itertools.combinations.__next__" = some Builtin.«itertools.combinations.__next__» := entryFor_of_tree (by kernel_rfl)
theorem owner_c : Manifest.owners.lookup (String.ofList "snoitanibmoc.slootreti".toList.reverse) = some Manifest.sig_itertools_combinations := by kernel_rfl
theorem ok_iter (a : Value) : argsOk "itertools.combinations.__iter__" ⟨[a], []⟩ := by
  unfold argsOk
  rw [signature?_of (id := "itertools.combinations.__iter__") (n := "__reti__".toList) (o := "snoitanibmoc.slootreti".toList) (by kernel_rfl) owner_c]
  kernel_rfl
theorem ok_next (a : Value) : argsOk "itertools.combinations.__next__" ⟨[a], []⟩ := by
  unfold argsOk
  rw [signature?_of (id := "itertools.combinations.__next__") (n := "__txen__".toList) (o := "snoitanibmoc.slootreti".toList) (by kernel_rfl) owner_c]
  kernel_rfl
theorem nodict_c : typeHasDict (.type cn) = false := by decide +kernel

/-- a combinations object: its pool, its stage, the last tuple, the places -/
abbrev IsC (h : Heap) (it P : Addr) (k : Int) (old : Value) (is : List Nat) : Prop := h.get? it = some ⟨.type cn, none, .fields ([.ref P, rawInt k, old] ++ is.map fun i : Nat => rawInt i).toArray, #[]⟩
end Cmb
end
section
set_option Elab.async false
set_option linter.all false
set_option maxRecDepth 100000
set_option maxHeartbeats 4000000
/-! MPq: itertools.combinations, born and drawn. -/
namespace Cmb
open PySem PySem.Spec
open Sem (wp)

theorem born {T : String} {l : Addr} {o : Obj} {items : Array Value} {n : Nat} {r : Nat} {t : Tok} (hT : T = "list" ∨ T = "tuple") (hc : o.cls = .type T) (hd : o.data = .seq items n) (hr : r ≤ 64) (hi : items.size ≤ 64) :
    Meets (Builtin.«itertools.combinations.__new__» ⟨[.type cn, .ref l, .int (r : Nat) t], []⟩) (fun _ R s => s.heap.get? l = some o ∧ ∀ h' : Heap, (∀ b o', s.heap.get? b = some o' → h'.get? b = some o') →
      R (.ok (.ret (.ref (h'.objs.size + 1)))) { s with heap := (h'.push ⟨.type "tuple", none, .seq items, #[]⟩).push ⟨.type cn, none, .fields ([.ref h'.objs.size, rawInt (if r > items.size then 2 else 0), .none] ++ (List.range r).map fun i : Nat => rawInt i).toArray, #[]⟩ }) := by
  refine .of_wp fun prog w A R s hb => ?_
  obtain ⟨hp, g0, d0, tk, os⟩ := s
  obtain ⟨ho, hR⟩ := hb
  have sb : isSubtype (.type cn) (.type ("itertools." ++ "combinations")) = pure true := sub_c
  have hn := nodict_c
  have hsz : items.size ≤ sizeLine := by rw [sizeLine_eq]; omega
  have col : ∀ {A' : Around} {E : Value → Shared → Prop} {Q : List Value → Shared → Prop}, (∀ h' : Heap, (∀ b o', hp.get? b = some o' → h'.get? b = some o') → Q items.toList ⟨h', g0, d0, tk, os⟩) → wpAny (model prog w) A' (collect (.ref l)) Q E ⟨hp, g0, d0, tk, os⟩ := fun q =>
    wpAny_collect_seq (hsz := hsz) l hT ho hc hd q
  wp_walk using col
  have k1 : ¬ ((decide ((r : Int) < -2 ^ 63) || decide ((r : Int) ≥ 2 ^ 63)) = true) := by simp; omega
  have k2 : ¬ ((r : Int) < 0) := by omega
  have k3 : ¬ (Builtin.Itertools.itTooMany (r : Int) = true) := by unfold Builtin.Itertools.itTooMany; simp; omega
  rw [if_neg k1]
  refine wpAny_pure (wpAny_bind (col fun h' hk => ?_))
  rw [if_neg k2]
  refine wpAny_ite_false (by simpa using k3) ?_
  refine wpAny_bind (wpAny_newTuple ?_ (by simpa using hsz))
  refine wpAny_pure ?_
  show wpAny _ _ (Builtin.Itertools.itNewRecord (.type cn) _ >>= _) _ _ _
  unfold Builtin.Itertools.itNewRecord
  rw [hn]
  simp only [Bool.not_false, if_true, Int.toNat_natCast, Array.length_toList, Array.toArray_toList]
  refine wpAny_bind (wpAny_newObj_type ?_ (by show Array.size _ ≤ sizeLine + 2; rw [sizeLine_eq]; simp; omega))
  refine wpAny_pure ⟨_, rfl, ?_⟩
  have e : (h'.push ⟨.type "tuple", none, .seq items, #[]⟩).objs.size = h'.objs.size + 1 := Heap.size_push ..
  have q := hR h' hk
  rw [← e] at q
  exact q
end Cmb
end
section
set_option Elab.async false
set_option linter.all false
set_option maxRecDepth 100000
set_option maxHeartbeats 4000000
/-! MPn: itertools.combinations: the next one. -/
namespace Cmb
open PySem PySem.Spec
open Sem (wp)

def nxt (n : Nat) (is : List Nat) : Option (List Nat) :=
  match (List.range is.length).reverse.find? fun i => is.getD i 0 != i + n - is.length with
  | none => none
  | some i => some (is.take i ++ (List.range (is.length - i)).map (is.getD i 0 + 1 + ·))
def picks (items : Array Value) (is : List Nat) : List Value := is.map fun i => items.getD i .none
def handF (self pool : Value) (is : List Nat) : Sem Fin := do
  let result ← (do
    let items ← Builtin.Itertools.itPoolItems pool
    newTuple (picks items is))
  let before ← field self 2
  setField self 2 result
  letGo [before] [result]
  ret result
section
variable {prog : Program} {w : World} {A : Around} {E : Value → Shared → Prop} {s : Shared}
theorem hand_ok {it P : Addr} {k : Int} {old : Value} {is0 is : List Nat} {items : Array Value} {Q : Value → Shared → Prop} (hc : IsC s.heap it P k old is0) (hp : s.heap.IsTuple P items) (hl : is.length ≤ 64)
    (q : ∀ h', IsC h' it P k (.ref s.heap.objs.size) is0 → h'.get? s.heap.objs.size = some ⟨.type "tuple", none, .seq (picks items is).toArray, #[]⟩ → h'.objs.size = s.heap.objs.size + 1 → (∀ b o, b ≠ it → s.heap.get? b = some o → h'.get? b = some o) → Q (.ref s.heap.objs.size) { s with heap := h' }) :
    wpAny (model prog w) A (handF (.ref it) (.ref P) is) (fun fin s' => ∃ v, fin = .done (.ret v) ∧ Q v s') E s := by
  obtain ⟨o, ho, oc, n, od⟩ := hp
  unfold handF Builtin.Itertools.itPoolItems
  refine wpAny_bind (wpAny_bind (wpAny_bind (wpAny_seqItems ho od (wpAny_pure ?_))))
  refine wpAny_newTuple ?_ (by rw [sizeLine_eq]; simp [picks]; omega)
  have hlt : it < s.heap.objs.size := Heap.lt_size hc
  have hc1 : IsC (s.heap.push ⟨.type "tuple", none, .seq (picks items is).toArray, #[]⟩) it P k old is0 := Heap.get?_push_of_some _ hc
  refine wpAny_bind (wpAny_field hc1 rfl (x := old) (by simp) ?_)
  refine wpAny_bind (wpAny_setField_rec hc1 (by simp) fun h' hc2 sb => ?_)
  refine wpAny_bind (wpAny_letGo (wpAny_pure ⟨_, rfl, q h' ?_ ?_ ?_ ?_⟩))
  · show h'.get? it = some _
    rw [hc2]
    simp
  · exact (sb.2 _ (Nat.ne_of_gt hlt)).trans (Heap.get?_push_size _ rfl)
  · rw [sb.1]; exact Heap.size_push ..
  · exact fun b o hb e => (sb.2 b hb).trans (Heap.get?_push_of_some _ e)
theorem stop_ok {α : Type} {Q : α → Shared → Prop} (hh : A.handled = none) (h : ∀ h' e, (∀ b o, s.heap.get? b = some o → h'.get? b = some o) → (∃ o, h'.get? e = some o ∧ o.cls = .type "StopIteration") → E (.ref e) { s with heap := h' }) :
    wpAny (model prog w) A (Builtin.Itertools.itStop : Sem α) Q E s := by
  unfold Builtin.Itertools.itStop newExc newTuple
  refine wpAny_bind (wpAny_bind (wpAny_newObj_type ?_ (by size_fits)))
  refine wpAny_bind (m := firstArgMember _ _) (wpAny_of_eq (a := Value.none) ?_ ?_)
  · first
      | rfl
      | (simp only [firstArgMember]; rfl)
  refine wpAny_newObj_type ?_ (by size_fits)
  unfold raiseNew
  refine wpAny_bind (wpAny_handled ?_)
  rw [hh]
  refine wpAny_bind (wpAny_pure (wpAny_throw (h _ _ (fun b o e => ?_) ⟨_, Heap.get?_push_size _ rfl, rfl⟩)))
  exact Heap.get?_push_of_some _ (Heap.get?_push_of_some _ e)
theorem nums {it P : Addr} {k : Int} {old : Value} {is : List Nat} {Q : List Nat → Shared → Prop} (hc : IsC s.heap it P k old is) (q : Q is s) : wpAny (model prog w) A (Builtin.Itertools.itNumbersFrom (.ref it) 3) Q E s := by
  unfold Builtin.Itertools.itNumbersFrom
  refine wpAny_bind (wpAny_load hc (wpAny_pure ?_))
  have : ((([Value.ref P, rawInt k, old] ++ is.map fun i : Nat => rawInt i).toArray.toList.drop 3).map fun | .int n _ => n.toNat | _ => 0) = is := by
    simp only [List.cons_append, List.nil_append, List.drop_succ_cons, List.drop_zero, List.map_map]
    conv => rhs; rw [← List.map_id is]
    exact List.map_congr_left fun x _ => rfl
  exact Eq.mpr (congrArg (fun z => Q z s) this) q
theorem into {it : Addr} {Q : Option Value → Shared → Prop} {P : Addr} {k : Int} {old : Value} {is : List Nat} (hc : IsC s.heap it P k old is)
    (h : wpAny (model prog w) A.in1 (Builtin.«itertools.combinations.__next__» ⟨[.ref it], []⟩) (fun fin s' => ∃ v, fin = .done (.ret v) ∧ Q (some v) s') (fun e s' => ∃ a o, e = .ref a ∧ s'.heap.get? a = some o ∧ o.cls = .type "StopIteration" ∧ Q none s') s) :
    wpAny (model prog w) A (pyNext (.ref it)) Q E s := by
  have hT : s.TypeIs (.ref it) cn := ⟨_, hc, rfl⟩
  unfold pyNext
  refine wpAny_bind (wpAny_attempt (wpAny_callSpecial?_slot (name := Str.ofString "__next__") hT next_c (wpAny_call_entry next_c hT enext_c ?_ (ok_next _))))
  refine wpAny_mono h (fun fin s' ⟨v, e, q⟩ => ⟨v, e, wpAny_pure q⟩) fun e s' ⟨a, o, e1, ho, oc, q⟩ => ?_
  subst e1
  exact wpAny_bind (wpAny_isInstance (T := "StopIteration") (b := true) ⟨o, ho, oc⟩ isSubtype_stop (wpAny_pure q))
theorem first_one {it P : Addr} {old : Value} {is : List Nat} {items : Array Value} {Q : Option Value → Shared → Prop} (hc : IsC s.heap it P 0 old is) (hp : s.heap.IsTuple P items) (hne : P ≠ it) (hl : is.length ≤ 64)
    (q : ∀ h', IsC h' it P 1 (.ref s.heap.objs.size) is → h'.get? s.heap.objs.size = some ⟨.type "tuple", none, .seq (picks items is).toArray, #[]⟩ → (∀ b o, b ≠ it → s.heap.get? b = some o → h'.get? b = some o) → Q (some (.ref s.heap.objs.size)) { s with heap := h' }) :
    wpAny (model prog w) A (pyNext (.ref it)) Q E s := by
  refine into hc ?_
  show wpAny _ _ (field (.ref it) 0 >>= _) _ _ s
  refine wpAny_bind (wpAny_field hc rfl (x := .ref P) rfl ?_)
  refine wpAny_bind (nums hc ?_)
  show wpAny _ _ ((field (.ref it) 1 >>= _) >>= _) _ _ s
  refine wpAny_bind (wpAny_bind (wpAny_field hc rfl (x := .int 0 0) rfl (wpAny_pure ?_)))
  show wpAny _ _ (setField (.ref it) 1 (rawInt 1) >>= fun _ => handF (.ref it) (.ref P) is) _ _ s
  refine wpAny_bind (wpAny_setField_rec hc (by simp) fun h1 hc1 sb => ?_)
  have hc2 : IsC h1 it P 1 old is := by
    show h1.get? it = some _
    rw [hc1]
    simp
  have hp2 : h1.IsTuple P items := let ⟨o, ho, r⟩ := hp; ⟨o, (sb.2 P hne).trans ho, r⟩
  have z : h1.objs.size = s.heap.objs.size := sb.1
  refine hand_ok (s := { s with heap := h1 }) hc2 hp2 hl fun h' a b c d => ?_
  rw [z] at a b ⊢
  exact q h' a b fun x o hx e => d x o hx ((sb.2 x hx).trans e)
theorem next_one {it P : Addr} {old : Value} {is js : List Nat} {items : Array Value} {Q : Option Value → Shared → Prop} (hc : IsC s.heap it P 1 old is) (hp : s.heap.IsTuple P items) (hne : P ≠ it) (hn : nxt items.size is = some js) (hl : js.length ≤ 64)
    (q : ∀ h', IsC h' it P 1 (.ref s.heap.objs.size) js → h'.get? s.heap.objs.size = some ⟨.type "tuple", none, .seq (picks items js).toArray, #[]⟩ → (∀ b o, b ≠ it → s.heap.get? b = some o → h'.get? b = some o) → Q (some (.ref s.heap.objs.size)) { s with heap := h' }) :
    wpAny (model prog w) A (pyNext (.ref it)) Q E s := by
  refine into hc ?_
  show wpAny _ _ (field (.ref it) 0 >>= _) _ _ s
  refine wpAny_bind (wpAny_field hc rfl (x := .ref P) rfl ?_)
  refine wpAny_bind (nums hc ?_)
  show wpAny _ _ ((field (.ref it) 1 >>= _) >>= _) _ _ s
  refine wpAny_bind (wpAny_bind (wpAny_field hc rfl (x := .int 1 0) rfl (wpAny_pure ?_)))
  obtain ⟨o, ho, oc, n, od⟩ := id hp
  show wpAny _ _ ((seqItems? (.ref P) >>= _) >>= _) _ _ s
  refine wpAny_bind (wpAny_bind (wpAny_seqItems ho od (wpAny_pure ?_)))
  show wpAny _ _ (match nxt items.size is with
    | some js => Builtin.Itertools.itSetNumbersFrom (.ref it) 3 js >>= fun _ => handF (.ref it) (.ref P) js
    | none => setField (.ref it) 1 (rawInt 2) >>= fun _ => Builtin.Itertools.itStop) _ _ s
  rw [hn]
  refine wpAny_bind ?_
  unfold Builtin.Itertools.itSetNumbersFrom
  refine wpAny_updateFields hc rfl ?_ (by rw [sizeLine_eq]; simp; omega)
  have hc2 : IsC (s.heap.update it (Obj.mapFields fun fs => fs.extract 0 3 ++ (js.map fun n : Nat => rawInt n).toArray)) it P 1 old js := by
    have := Heap.get?_update_self (Obj.mapFields fun fs => fs.extract 0 3 ++ (js.map fun n : Nat => rawInt n).toArray) hc rfl
    show Heap.get? _ _ = _
    rw [this]
    simp [Obj.mapFields]
  have sb := Heap.SameBut.update s.heap it (Obj.mapFields fun fs => fs.extract 0 3 ++ (js.map fun n : Nat => rawInt n).toArray)
  have hp2 : Heap.IsTuple (s.heap.update it (Obj.mapFields fun fs => fs.extract 0 3 ++ (js.map fun n : Nat => rawInt n).toArray)) P items := ⟨o, (sb.2 P hne).trans ho, oc, n, od⟩
  have z := sb.1
  refine hand_ok (s := { s with heap := _ }) hc2 hp2 hl fun h' a b c d => ?_
  rw [z] at a b ⊢
  exact q h' a b fun x o hx e => d x o hx ((sb.2 x hx).trans e)
theorem no_more {it P : Addr} {old : Value} {is : List Nat} {items : Array Value} {Q : Option Value → Shared → Prop} (hh : A.handled = none) (hc : IsC s.heap it P 1 old is) (hp : s.heap.IsTuple P items) (hn : nxt items.size is = none)
    (q : ∀ h', (∀ b o, b ≠ it → s.heap.get? b = some o → h'.get? b = some o) → Q none { s with heap := h' }) : wpAny (model prog w) A (pyNext (.ref it)) Q E s := by
  refine into hc ?_
  show wpAny _ _ (field (.ref it) 0 >>= _) _ _ s
  refine wpAny_bind (wpAny_field hc rfl (x := .ref P) rfl ?_)
  refine wpAny_bind (nums hc ?_)
  show wpAny _ _ ((field (.ref it) 1 >>= _) >>= _) _ _ s
  refine wpAny_bind (wpAny_bind (wpAny_field hc rfl (x := .int 1 0) rfl (wpAny_pure ?_)))
  obtain ⟨o, ho, oc, n, od⟩ := id hp
  show wpAny _ _ ((seqItems? (.ref P) >>= _) >>= _) _ _ s
  refine wpAny_bind (wpAny_bind (wpAny_seqItems ho od (wpAny_pure ?_)))
  show wpAny _ _ (match nxt items.size is with
    | some js => Builtin.Itertools.itSetNumbersFrom (.ref it) 3 js >>= fun _ => handF (.ref it) (.ref P) js
    | none => setField (.ref it) 1 (rawInt 2) >>= fun _ => Builtin.Itertools.itStop) _ _ s
  rw [hn]
  refine wpAny_bind (wpAny_setField_rec hc (by simp) fun h1 hc1 sb => ?_)
  refine stop_ok hh fun h' e k ⟨o, ho, oc⟩ => ⟨e, o, rfl, ho, oc, q h' fun b u hb x => k b u ((sb.2 b hb).trans x)⟩
theorem none_at_all {it P : Addr} {old : Value} {is : List Nat} {Q : Option Value → Shared → Prop} (hh : A.handled = none) (hc : IsC s.heap it P 2 old is)
    (q : ∀ h', (∀ b o, s.heap.get? b = some o → h'.get? b = some o) → Q none { s with heap := h' }) : wpAny (model prog w) A (pyNext (.ref it)) Q E s := by
  refine into hc ?_
  show wpAny _ _ (field (.ref it) 0 >>= _) _ _ s
  refine wpAny_bind (wpAny_field hc rfl (x := .ref P) rfl ?_)
  refine wpAny_bind (nums hc ?_)
  show wpAny _ _ ((field (.ref it) 1 >>= _) >>= _) _ _ s
  refine wpAny_bind (wpAny_bind (wpAny_field hc rfl (x := .int 2 0) rfl (wpAny_pure ?_)))
  show wpAny _ _ (rule _ >>= fun _ => Builtin.Itertools.itStop) _ _ s
  refine wpAny_bind (wpAny_rule ?_)
  refine stop_ok hh fun h' e k ⟨o, ho, oc⟩ => ⟨e, o, rfl, ho, oc, q h' k⟩
end
end Cmb
end
section
set_option Elab.async false
set_option linter.all false
set_option maxRecDepth 100000
set_option maxHeartbeats 4000000
/-! MPt: the places that itertools.combinations goes through. -/
namespace Cmb
def ixs : Nat → Nat → Nat → List (List Nat)
  | _, _, 0 => [[]]
  | 0, _, _ + 1 => []
  | m + 1, lo, r + 1 => (ixs m (lo + 1) r).map (lo :: ·) ++ ixs m (lo + 1) (r + 1)
theorem nxt_nil (n : Nat) : nxt n [] = none := rfl
theorem nxt_cons (n a : Nat) (l : List Nat) : nxt n (a :: l) = match nxt n l with
    | some k => some (a :: k)
    | none => if a ≠ n - (l.length + 1) then some ((List.range (l.length + 1)).map (a + 1 + ·)) else none := by
  unfold nxt
  rw [show (a :: l).length = l.length + 1 from rfl, List.range_succ_eq_map, List.reverse_cons, List.find?_append, ← List.map_reverse, List.find?_map]
  have e : ((fun i => (a :: l).getD i 0 != i + n - (l.length + 1)) ∘ Nat.succ) = fun i => l.getD i 0 != i + n - l.length := by
    funext i
    show ((a :: l).getD (i + 1) 0 != i + 1 + n - (l.length + 1)) = _
    rw [show i + 1 + n - (l.length + 1) = i + n - l.length by omega]
    simp
  rw [e]
  cases hf : (List.range l.length).reverse.find? fun i => l.getD i 0 != i + n - l.length with
  | some i =>
    have hi : i < l.length := by
      have := List.mem_of_find?_eq_some hf
      simpa using this
    simp only [Option.map_some, Option.some_or]
    rw [show l.length + 1 - Nat.succ i = l.length - i by omega]
    simp
  | none =>
    simp only [Option.map_none, Option.none_or]
    by_cases h : a = n - (l.length + 1)
    · simp [h]
    · simp [h, List.find?_cons]
      rw [List.range_succ_eq_map, List.map_cons, List.map_map]
theorem ixs_len : ∀ (m lo r : Nat) (x : List Nat), x ∈ ixs m lo r → x.length = r ∧ ∀ i ∈ x, i < lo + m
  | m, lo, 0, x, h => by
    unfold ixs at h
    rw [List.mem_singleton] at h
    subst h
    exact ⟨rfl, fun i hi => by cases hi⟩
  | 0, lo, r + 1, x, h => by unfold ixs at h; cases h
  | m + 1, lo, r + 1, x, h => by
    unfold ixs at h
    rcases List.mem_append.mp h with h | h
    · obtain ⟨y, hy, rfl⟩ := List.mem_map.mp h
      obtain ⟨h1, h2⟩ := ixs_len m (lo + 1) r y hy
      refine ⟨by simp [h1], fun i hi => ?_⟩
      rcases List.mem_cons.mp hi with rfl | hi
      · omega
      · have := h2 i hi; omega
    · obtain ⟨h1, h2⟩ := ixs_len m (lo + 1) (r + 1) x h
      exact ⟨h1, fun i hi => by have := h2 i hi; omega⟩
theorem ixs_head : ∀ (m lo r : Nat), (ixs m lo r)[0]? = if r ≤ m then some ((List.range r).map (lo + ·)) else none
  | m, lo, 0 => by unfold ixs; simp
  | 0, lo, r + 1 => by unfold ixs; simp
  | m + 1, lo, r + 1 => by
    unfold ixs
    by_cases h : r ≤ m
    · have ih := ixs_head m (lo + 1) r
      rw [if_pos h] at ih
      rw [List.getElem?_append_left (by rw [List.length_map]; exact (List.getElem?_eq_some_iff.mp ih).1), List.getElem?_map, ih, if_pos (by omega)]
      rw [List.range_succ_eq_map]
      simp only [Option.map_some, List.map_cons, List.map_map, Nat.add_zero, Option.some.injEq, List.cons.injEq, true_and]
      exact List.map_congr_left fun i _ => by show lo + 1 + i = lo + (i + 1); omega
    · have ih := ixs_head m (lo + 1) r
      have ih2 := ixs_head m (lo + 1) (r + 1)
      rw [if_neg h] at ih
      rw [if_neg (by omega)] at ih2
      have e1 : ixs m (lo + 1) r = [] := by
        cases q : ixs m (lo + 1) r with
        | nil => rfl
        | cons a b => rw [q] at ih; cases ih
      rw [e1, if_neg (by omega)]
      simpa using ih2
theorem ixs_next : ∀ (m lo r : Nat) (i : Nat) (x : List Nat), (ixs m lo r)[i]? = some x → nxt (lo + m) x = (ixs m lo r)[i + 1]?
  | m, lo, 0, i, x, h => by
    unfold ixs at h ⊢
    cases i with
    | zero => cases h; rfl
    | succ i => cases h
  | 0, lo, r + 1, i, x, h => by unfold ixs at h; cases h
  | m + 1, lo, r + 1, i, x, h => by
    unfold ixs at h ⊢
    have el : ((ixs m (lo + 1) r).map (lo :: ·)).length = (ixs m (lo + 1) r).length := List.length_map ..
    have en : lo + (m + 1) = lo + 1 + m := by omega
    by_cases hi : i < (ixs m (lo + 1) r).length
    · rw [List.getElem?_append_left (by rw [el]; exact hi), List.getElem?_map] at h
      rw [Option.map_eq_some_iff] at h
      obtain ⟨y, hy, rfl⟩ := h
      have ih := ixs_next m (lo + 1) r i y hy
      have ly := (ixs_len m (lo + 1) r y (List.mem_of_getElem? hy)).1
      rw [nxt_cons, en, ih]
      by_cases h2 : i + 1 < (ixs m (lo + 1) r).length
      · rw [List.getElem?_append_left (by rw [el]; exact h2), List.getElem?_map, List.getElem?_eq_getElem h2]
        rfl
      · have hr : r ≤ m := by
          have q := ixs_head m (lo + 1) r
          by_cases hr : r ≤ m
          · exact hr
          · rw [if_neg hr] at q
            rw [List.getElem?_eq_none_iff] at q
            omega
        rw [List.getElem?_eq_none (by omega), List.getElem?_append_right (by rw [el]; omega), el, show i + 1 - (ixs m (lo + 1) r).length = 0 by omega, ixs_head, ly]
        by_cases h3 : r + 1 ≤ m
        · rw [if_pos h3]
          simp only
          rw [if_pos (by omega)]
        · rw [if_neg h3]
          simp only
          rw [if_neg (by omega)]
    · rw [List.getElem?_append_right (by rw [el]; omega), el] at h
      rw [List.getElem?_append_right (by rw [el]; omega), el, en, show i + 1 - (ixs m (lo + 1) r).length = i - (ixs m (lo + 1) r).length + 1 by omega]
      exact ixs_next m (lo + 1) (r + 1) _ x h
theorem combos_ix (zs : List MP.D) : ∀ (m lo r : Nat), lo + m = zs.length → MP.combosD r (zs.drop lo) = (ixs m lo r).map fun is => is.map fun i => zs.getD i .non
  | m, lo, 0, h => by unfold MP.combosD ixs; rfl
  | 0, lo, r + 1, h => by
    rw [List.drop_eq_nil_of_le (by omega)]
    rfl
  | m + 1, lo, r + 1, h => by
    have hl : lo < zs.length := by omega
    rw [List.drop_eq_getElem_cons hl]
    unfold MP.combosD ixs
    rw [combos_ix zs m (lo + 1) r (by omega), combos_ix zs m (lo + 1) (r + 1) (by omega), List.map_append, List.map_map, List.map_map]
    congr 1
    refine List.map_congr_left fun is _ => ?_
    show zs[lo] :: _ = zs.getD lo .non :: _
    rw [List.getD_eq_getElem?_getD, List.getElem?_eq_getElem hl]
    rfl
end Cmb
end
section
set_option Elab.async false
set_option linter.all false
set_option maxRecDepth 100000
set_option maxHeartbeats 4000000
/-! MPh: sources. -/
namespace MP
open PySem PySem.Spec PyProof.Rows L2

/-! ### combinations -/
/-- the tuples of r of vs -/
def Itc (vs : List V) (r : Nat) : It where
  go i _ := i < (Cmb.ixs vs.length 0 r).length
  yld i H v H' := ∃ T is, (Cmb.ixs vs.length 0 r)[i]? = some is ∧ v = .ref T ∧ H T = none ∧ H' = upd H T (.tup (is.map fun i => vs.getD i .non))
  stop i _ := (Cmb.ixs vs.length 0 r).length ≤ i
def tnc (items : Array Value) (r : Nat) (P it : Addr) (i : Nat) (h : Heap) : Prop :=
  h.IsTuple P items ∧ P ≠ it ∧ match i with
  | 0 => ∃ old, Cmb.IsC h it P (if r > items.size then 2 else 0) old (List.range r)
  | i + 1 => ∃ old is, (Cmb.ixs items.size 0 r)[i]? = some is ∧ Cmb.IsC h it P 1 old is
theorem tnc_obj {items : Array Value} {r : Nat} {P it : Addr} {i : Nat} {h : Heap} (t : tnc items r P it i h) : ∃ vs, h.get? it = some ⟨.type Cmb.cn, none, .fields vs, #[]⟩ := by
  obtain ⟨_, _, t⟩ := t
  cases i with
  | zero => obtain ⟨old, t⟩ := t; exact ⟨_, t⟩
  | succ i => obtain ⟨old, is, _, t⟩ := t; exact ⟨_, t⟩
theorem vals_picks {vs : List V} {us : List Value} (r : Vals vs us) : ∀ (is : List Nat), Vals (is.map fun i => vs.getD i .non) (Cmb.picks us.toArray is)
  | [] => .nil
  | i :: is => by
    refine .cons ?_ (vals_picks r is)
    show RelV (vs.getD i .non) (us.toArray.getD i .none)
    by_cases h : i < vs.length
    · obtain ⟨u, hu, ru⟩ := r.get (List.getElem?_eq_getElem h)
      have e1 : vs.getD i .non = vs[i] := by rw [List.getD_eq_getElem?_getD, List.getElem?_eq_getElem h]; rfl
      have e2 : us.toArray.getD i .none = u := by rw [Array.getD_eq_getD_getElem?, List.getElem?_toArray, hu]; rfl
      rw [e1, e2]
      exact ru
    · have e1 : vs.getD i .non = .non := by rw [List.getD_eq_getElem?_getD, List.getElem?_eq_none (by omega)]; rfl
      have e2 : us.toArray.getD i .none = .none := by rw [Array.getD_eq_getD_getElem?, List.getElem?_toArray, List.getElem?_eq_none (by rw [← r.length]; omega)]; rfl
      rw [e1, e2]
      rfl
theorem turn_comb {P : Program} {w : World} {K : PySem.W.Frag} {tg : Expr} {vs : List V} {us : List Value} {r : Nat} {p it : Addr} (rv : Vals vs us) (hr : r ≤ 64) : Turn P w K tg (Itc vs r) [it, p] it (tnc us.toArray r p it) where
  mem := List.mem_cons_self
  obj := fun i h t b hb => by
    have hb' : b = it ∨ b = p := by simpa using hb
    rcases hb' with rfl | rfl
    · obtain ⟨xs, e⟩ := tnc_obj t
      exact ⟨_, e, fun _ q => nomatch q⟩
    · obtain ⟨⟨o, ho, _, n, hd⟩, _⟩ := t
      exact ⟨o, ho, fun _ q => by rw [hd] at q; cases q⟩
  keep := fun i h h' t k => by
    obtain ⟨⟨o, ho, r1⟩, hne, t⟩ := t
    refine ⟨⟨o, k p (by simp) _ ho, r1⟩, hne, ?_⟩
    cases i with
    | zero => obtain ⟨old, t⟩ := t; exact ⟨old, k it (by simp) _ t⟩
    | succ i => obtain ⟨old, is, e, t⟩ := t; exact ⟨old, is, e, k it (by simp) _ t⟩
  item := by
    intro X hP hw hK hc i pins s σ H E I hf t hg
    subst hP hw hK
    have hg' : i < (Cmb.ixs vs.length 0 r).length := hg
    have hsz : us.toArray.size = vs.length := by rw [List.size_toArray, rv.length]
    obtain ⟨ht, hne, t⟩ := t
    have hit : it < s.heap.objs.size := by
      obtain ⟨xs, e⟩ := tnc_obj ⟨ht, hne, t⟩
      exact Heap.lt_size e
    have hpl : p < s.heap.objs.size := let ⟨o, e, _⟩ := ht; Heap.lt_size e
    have fin : ∀ (is : List Nat) (h' : Heap), (Cmb.ixs vs.length 0 r)[i]? = some is → Cmb.IsC h' it p 1 (.ref s.heap.objs.size) is → h'.get? s.heap.objs.size = some ⟨.type "tuple", none, .seq (Cmb.picks us.toArray is).toArray, #[]⟩ → (∀ b o, b ≠ it → s.heap.get? b = some o → h'.get? b = some o) →
        ∃ u, some (Value.ref s.heap.objs.size) = some u ∧ wpAny (model X.prog X.w) X.A (letOwnedTupleGo tg (.ref it) u) (fun _ s2 => ∃ x H', Inv X pins σ H' s2 ∧ RelV x u ∧ (Itc vs r).yld i H x H' ∧ tnc us.toArray r p it (i + 1) s2.heap ∧ ∀ b ∈ [it, p], H' b = none) E { s with heap := h' } := by
      intro is h' e hc' hT hk
      have new : ObjOk X.prog X.w (upd H s.heap.objs.size (.tup (is.map fun i => vs.getD i .non))) h' s.heap.objs.size (.tup (is.map fun i => vs.getD i .non)) := by
        refine ⟨?_, Cmb.picks us.toArray is, vals_picks rv is, ⟨_, hT, rfl, _, rfl⟩⟩
        show (is.map _).length ≤ sizeLine
        rw [List.length_map, (Cmb.ixs_len _ _ _ is (List.mem_of_getElem? e)).1, sizeLine_eq]
        omega
      have I1 : Inv X pins σ (upd H s.heap.objs.size (.tup (is.map fun i => vs.getD i .non))) { s with heap := h' } :=
        I.turnedNew (t' := s.toks) (ch := [it, p]) (fun b ob hb q => hk b ob (fun z => hb (by simp [z])) q) hf (Nat.le_refl _) new
      refine ⟨_, rfl, go_of (s := { s with heap := h' }) hc' rfl rfl (by decide) ⟨.ref s.heap.objs.size, _, I1, rfl, ⟨_, is, e, rfl, I.hok.fresh (Nat.le_refl _), rfl⟩, ⟨?_, hne, ?_⟩, fun b hb => ?_⟩⟩
      · obtain ⟨o, ho, rr⟩ := ht
        exact ⟨o, hk p o hne ho, rr⟩
      · exact ⟨_, is, by rw [hsz]; exact e, hc'⟩
      · have hbl : b < s.heap.objs.size := by
          have hb' : b = it ∨ b = p := by simpa using hb
          rcases hb' with z | z
          · rw [z]; exact hit
          · rw [z]; exact hpl
        rw [upd_ne (Nat.ne_of_lt hbl)]
        exact (hf b hb).1
    cases i with
    | zero =>
      obtain ⟨old, t⟩ := t
      have hh := Cmb.ixs_head vs.length 0 r
      have hrn : r ≤ vs.length := by
        by_cases q : r ≤ vs.length
        · exact q
        · rw [if_neg q, List.getElem?_eq_none_iff] at hh
          omega
      rw [if_pos hrn] at hh
      rw [if_neg (by rw [hsz]; omega)] at t
      refine Cmb.first_one t ht hne (by simpa using hr) fun h' a b k => fin (List.range r) h' ?_ a b k
      rw [hh]
      simp
    | succ i =>
      obtain ⟨old, is, e, t⟩ := t
      have hn := Cmb.ixs_next us.toArray.size 0 r i is e
      rw [Nat.zero_add, hsz, List.getElem?_eq_getElem hg'] at hn
      have hm : (Cmb.ixs vs.length 0 r)[i + 1] ∈ Cmb.ixs vs.length 0 r := List.getElem_mem hg'
      exact Cmb.next_one t ht hne (by rw [hsz]; exact hn) (by rw [(Cmb.ixs_len _ _ _ _ hm).1]; exact hr) fun h' a b k => fin _ h' (List.getElem?_eq_getElem hg') a b k
  done := by
    intro X hP hw hK hc i pins s σ H E I hf t hg
    subst hP hw hK
    have hg' : (Cmb.ixs vs.length 0 r).length ≤ i := hg
    have hsz : us.toArray.size = vs.length := by rw [List.size_toArray, rv.length]
    obtain ⟨ht, hne, t⟩ := t
    obtain ⟨f0, f1, f2, f3, f4, f5⟩ := hf it (by simp)
    cases i with
    | zero =>
      obtain ⟨old, t⟩ := t
      have hh := Cmb.ixs_head vs.length 0 r
      rw [List.getElem?_eq_none hg'] at hh
      have hrn : r > us.toArray.size := by
        rw [hsz]
        by_cases q : r ≤ vs.length
        · rw [if_pos q] at hh; cases hh
        · omega
      rw [if_pos hrn] at t
      exact Cmb.none_at_all (I.ok.hd hc) t fun h' k => ⟨rfl, I.turned (t' := s.toks) (fun b o _ e => k b o e) f0 f1 f3 f4 f5⟩
    | succ i =>
      obtain ⟨old, is, e, t⟩ := t
      have hn := Cmb.ixs_next us.toArray.size 0 r i is e
      rw [Nat.zero_add, hsz, List.getElem?_eq_none hg'] at hn
      exact Cmb.no_more (I.ok.hd hc) t ht (by rw [hsz]; exact hn) fun h' k => ⟨rfl, I.turned (t' := s.toks) (fun b o hb e => k b o hb e) f0 f1 f3 f4 f5⟩
  self := fun A i s Q E t h => by
    obtain ⟨xs, e⟩ := tnc_obj t
    have hT : s.TypeIs (.ref it) Cmb.cn := ⟨_, e, rfl⟩
    refine wpAny_pyIter_slot hT Cmb.iter_c (wpAny_call_entry Cmb.iter_c hT Cmb.eiter_c ?_ (Cmb.ok_iter _))
    show wpAny _ _ (ret (.ref it)) _ _ s
    exact wpAny_pure ⟨_, rfl, Cmb.cn, _, hT, Cmb.next_c.lookup, h⟩
theorem call_comb {prog : Program} {w : World} {A : Around} {E : Value → Shared → Prop} {s : Shared} {Q : Value → Shared → Prop} {T : String} {l : Addr} {o : Obj} {items : Array Value} {n r : Nat} {t : Tok} (hT : T = "list" ∨ T = "tuple") (ho : s.heap.get? l = some o) (hc : o.cls = .type T) (hd : o.data = .seq items n) (hr : r ≤ 64) (hi : items.size ≤ 64)
    (q : ∀ h1 : Heap, (∀ b o, s.heap.get? b = some o → h1.get? b = some o) → ∀ h' : Heap, tnc items r h1.objs.size (h1.objs.size + 1) 0 h' → (∀ b o, h1.get? b = some o → h'.get? b = some o) → Q (.ref (h1.objs.size + 1)) { s with heap := h' }) :
    wpAny (model prog w) A (call (.type Cmb.cn) [.ref l, .int (r : Nat) t]) Q E s := by
  refine callType_new Cmb.called_c (by decide +kernel) (Cmb.tcall_c _ _) (Cmb.ncall_c _ _) (fun u => F.args_object_init_3 u _ _) Cmb.enew_c (Cmb.born hT hc hd hr hi) ⟨ho, fun h1 k => ?_⟩
  have sz : (h1.push ⟨.type "tuple", none, .seq items, #[]⟩).objs.size = h1.objs.size + 1 := Heap.size_push ..
  have e1 : ∀ z : Obj, z.isFreed = false → ((h1.push ⟨.type "tuple", none, .seq items, #[]⟩).push z).get? (h1.objs.size + 1) = some z := fun z hz => by
    have := Heap.get?_push_size (h1.push ⟨.type "tuple", none, .seq items, #[]⟩) (o := z) hz
    rw [sz] at this
    exact this
  have e2 : ∀ z : Obj, ((h1.push ⟨.type "tuple", none, .seq items, #[]⟩).push z).get? h1.objs.size = some ⟨.type "tuple", none, .seq items, #[]⟩ := fun z => Heap.get?_push_of_some _ (Heap.get?_push_size _ rfl)
  exact ⟨⟨_, e1 _ rfl, rfl⟩, q h1 k _ ⟨⟨_, e2 _, rfl, _, rfl⟩, Nat.ne_of_lt (Nat.lt_succ_self _), _, e1 _ rfl⟩ fun b o e => Heap.get?_push_of_some _ (Heap.get?_push_of_some _ e)⟩

/-! ### what is walked -/
/-- the walk goes over xs, as long as the walked things stand as they are -/
structure Wk (g : GC) (ρ : Rw) (H : Hp) (ns : List Nat) (st0 : Sto) (J : It) (xs : List D) : Prop where
  go : ∀ ρ' H' st', Ext ρ H ρ' H' → RS g ρ' st' H' → sameAt ns st0 st' = true → ∀ (i : Nat) (x : D), xs[i]? = some x → J.go i H' ∧ ∀ v H2, J.yld i H' v H2 → Ext ρ' H' ρ' H2 ∧ RS g ρ' st' H2 ∧ RD g ρ' H2 x v
  stop : ∀ ρ' H' st', Ext ρ H ρ' H' → RS g ρ' st' H' → sameAt ns st0 st' = true → ∀ i, xs.length ≤ i → J.stop i H'
def tI (g : GC) (c : Cl) (src : Nat) (it : List Ex) : TI := fun σ H R => ∃ ρ env st vs st' xs, RS g ρ st H ∧ RE g ρ H env σ ∧ evEs c it env st = some (vs, st') ∧ srcD st' src vs = some xs ∧
  ∀ ρ' H' J, Ext ρ H ρ' H' → RS g ρ' st' H' → Wk g ρ' H' (srcRefs vs) st' J xs → R J H'
theorem _root_.L2.PI.imp {X : Cx} {tg e : Expr} {t t' : TI} (h : PI X tg e t) (k : ∀ σ H R, t' σ H R → t σ H R) : PI X tg e t' := ⟨fun pins s σ H R I q => h.run pins s σ H R I (k σ H R q)⟩
def isTp : D → Bool
  | .tup _ => true
  | _ => false
theorem itemsOf_sq2 {g : GC} {ρ : Rw} {H : Hp} {st : Sto} (hs : RS g ρ st H) {d : D} {v : V} {xs : List D} (h : RD g ρ H d v) (e : itemsOf st d = some xs) :
    ∃ a vs, v = .ref a ∧ ((isTp d = false ∧ SqL g.K H a vs) ∨ (isTp d = true ∧ SqT g.K H a vs)) ∧ RDs g ρ H xs vs := by
  cases d with
  | tup ys =>
    simp only [itemsOf, Option.some.injEq] at e
    subst e
    rw [RD.tup_] at h
    obtain ⟨a, vs, e1, e2, e3⟩ := h
    exact ⟨a, vs, e1, .inr ⟨rfl, e2⟩, e3⟩
  | scr ns =>
    simp only [itemsOf, Option.some.injEq] at e
    subst e
    rw [RD] at h
    obtain ⟨a, e1, e2⟩ := h
    refine ⟨a, ns.map .int, e1, .inl ⟨rfl, ?_⟩, RDs.ints ns⟩
    rcases e2 with e2 | e2
    · exact .inl e2.2
    · exact e2 H
  | lst ys =>
    obtain ⟨a, vs, e1, e2, e3⟩ := listOf_sq hs h (xs := xs) e
    exact ⟨a, vs, e1, .inl ⟨rfl, SqL.of e2⟩, e3⟩
  | ref n =>
    obtain ⟨a, vs, e1, e2, e3⟩ := listOf_sq hs h (xs := xs) e
    exact ⟨a, vs, e1, .inl ⟨rfl, SqL.of e2⟩, e3⟩
  | _ => cases e
theorem same_items {ns : List Nat} {st st' : Sto} {d : D} (h : sameAt ns st st' = true) (hn : ∀ n, d = .ref n → n ∈ ns) : itemsOf st' d = itemsOf st d := by
  cases d with
  | ref n =>
    have := List.all_eq_true.mp h n (hn n rfl)
    rw [decide_eq_true_eq] at this
    simp only [itemsOf, this]
  | _ => rfl
theorem srcRefs_mem : ∀ {vs : List D} {n : Nat}, D.ref n ∈ vs → n ∈ srcRefs vs
  | .ref m :: r, n, h => by
    unfold srcRefs
    rcases List.mem_cons.mp h with e | h
    · cases e; exact List.mem_cons_self
    · exact List.mem_cons_of_mem _ (srcRefs_mem h)
  | .non :: r, n, h | .bl _ :: r, n, h | .int _ :: r, n, h | .str _ :: r, n, h | .tup _ :: r, n, h | .lst _ :: r, n, h | .scr _ :: r, n, h | .set _ :: r, n, h | .ins _ _ _ :: r, n, h => by
    unfold srcRefs
    rcases List.mem_cons.mp h with e | h
    · cases e
    · exact srcRefs_mem h
theorem rds_at {g : GC} {ρ : Rw} {H : Hp} {ds : List D} {vs : List V} (h : RDs g ρ H ds vs) {i : Nat} {d : D} {v : V} (hd : ds[i]? = some d) (hv : vs[i]? = some v) : RD g ρ H d v := by
  obtain ⟨u, q1, q2⟩ := h.get hd
  rw [hv] at q1
  cases q1
  exact q2
section
variable {X : Cx} {g : GC} {k : Nat} {c : Cl} {tg : Expr}
/-! #### a list or a tuple -/
def iSeq (K : PySem.W.Frag) (tl : TE) : TI := fun σ H R => tl σ H fun x H1 => ∃ a, x = .ref a ∧ (((∃ xs, SqL K H1 a xs) ∧ R (Itl K a) H1) ∨ ((∃ xs, SqT K H1 a xs) ∧ R (Itt K a) H1))
theorem pi_seq {l : Expr} {tl : TE} (hl : PE X l tl) : PI X tg l (iSeq X.K tl) := by
  refine ⟨fun pins s σ H R I h => thn (hl.run pins s σ H _ I h) fun v s1 ⟨x, H1, I1, r1, a, e, q⟩ => ?_⟩
  subst e
  cases r1
  have new : ∀ b, b ∈ [s1.heap.objs.size] → FpOk X pins H1 b := fun b hb => by
    rw [List.mem_singleton] at hb
    subst hb
    exact I1.fpOk (Nat.le_refl _) (I1.hok.fresh (Nat.le_refl _))
  rcases q with ⟨⟨xs, hq⟩, q⟩ | ⟨⟨xs, hq⟩, q⟩
  · obtain ⟨its, _, p, _⟩ := I1.list hq
    exact wpAny_pyIter_list p.isList ⟨_, [s1.heap.objs.size], _, _, H1, rfl, I1.kept (t' := s1.toks) fun _ _ z => Heap.get?_push_of_some _ z, turn_list a _, ⟨_, Heap.get?_push_size _ rfl, rfl, rfl⟩, new, q⟩
  · obtain ⟨its, _, p, _⟩ := I1.tuple hq
    exact wpAny_pyIter_tuple (show s1.heap.IsTuple a its.toArray from p) ⟨_, [s1.heap.objs.size], _, _, H1, rfl, I1.kept (t' := s1.toks) fun _ _ z => Heap.get?_push_of_some _ z, turn_tuple a _, ⟨_, Heap.get?_push_size _ rfl, rfl, rfl⟩, new, q⟩
theorem wk_seq {ρ : Rw} {H : Hp} {st : Sto} {d : D} {xs : List D} {a : Addr} (hd : RD g ρ H d (.ref a)) (e : itemsOf st d = some xs) (hn : ∀ n, d = .ref n → n ∈ srcRefs [d]) :
    (isTp d = false → Wk g ρ H (srcRefs [d]) st (Itl g.K a) xs) ∧ (isTp d = true → Wk g ρ H (srcRefs [d]) st (Itt g.K a) xs) := by
  have key : ∀ ρ' H' st', Ext ρ H ρ' H' → RS g ρ' st' H' → sameAt (srcRefs [d]) st st' = true → ∃ vs, ((isTp d = false ∧ SqL g.K H' a vs) ∨ (isTp d = true ∧ SqT g.K H' a vs)) ∧ RDs g ρ' H' xs vs := fun ρ' H' st' x s z => by
    obtain ⟨b, vs, e1, e2, e3⟩ := itemsOf_sq2 s (RD.mono x _ _ hd) (by rw [same_items z hn]; exact e)
    cases e1
    exact ⟨vs, e2, e3⟩
  constructor
  · intro hb
    constructor
    · intro ρ' H' st' x s z i y hy
      obtain ⟨vs, e2, e3⟩ := key ρ' H' st' x s z
      rcases e2 with ⟨_, e2⟩ | ⟨e2, _⟩
      · obtain ⟨v, hv, rv⟩ := e3.get hy
        exact ⟨⟨vs, v, e2, hv⟩, fun u H2 ⟨e4, e5⟩ => by subst e4; exact ⟨Ext.refl, s, rds_at e3 hy (e5 vs e2)⟩⟩
      · rw [hb] at e2; cases e2
    · intro ρ' H' st' x s z i hi
      obtain ⟨vs, e2, e3⟩ := key ρ' H' st' x s z
      rcases e2 with ⟨_, e2⟩ | ⟨e2, _⟩
      · exact ⟨vs, e2, by rw [e3.len]; exact hi⟩
      · rw [hb] at e2; cases e2
  · intro hb
    constructor
    · intro ρ' H' st' x s z i y hy
      obtain ⟨vs, e2, e3⟩ := key ρ' H' st' x s z
      rcases e2 with ⟨e2, _⟩ | ⟨_, e2⟩
      · rw [hb] at e2; cases e2
      · obtain ⟨v, hv, rv⟩ := e3.get hy
        exact ⟨⟨vs, v, e2, hv⟩, fun u H2 ⟨e4, e5⟩ => by subst e4; exact ⟨Ext.refl, s, rds_at e3 hy (e5 vs e2)⟩⟩
    · intro ρ' H' st' x s z i hi
      obtain ⟨vs, e2, e3⟩ := key ρ' H' st' x s z
      rcases e2 with ⟨e2, _⟩ | ⟨_, e2⟩
      · rw [hb] at e2; cases e2
      · exact ⟨vs, e2, by rw [e3.len]; exact hi⟩
theorem ref_in {d : D} : ∀ n, d = .ref n → n ∈ srcRefs [d] := fun n e => by subst e; exact srcRefs_mem List.mem_cons_self
theorem i_seq (x : XOk g k X) {e : Expr} {ie : Ex} (he : PE X e (tE g c ie)) : PI X tg e (tI g c 0 [ie]) :=
  (pi_seq he).imp fun σ H R ⟨ρ, env, st, vs, st', xs, hs, hr, ev, sr, post⟩ => by
    rw [evEs] at ev
    split at ev
    · rename_i d st1 e1
      rw [evEs] at ev
      cases ev
      simp only [srcD] at sr
      refine ⟨ρ, env, st, d, _, hs, hr, e1, fun ρ1 H1 u y1 s1 r1 => ?_⟩
      obtain ⟨a, us, rfl, e2, _⟩ := itemsOf_sq2 s1 r1 sr
      obtain ⟨w1, w2⟩ := wk_seq r1 sr ref_in
      rw [x.hK]
      rcases e2 with ⟨q, e2⟩ | ⟨q, e2⟩
      · exact ⟨a, rfl, .inl ⟨⟨us, e2⟩, post ρ1 H1 _ y1 s1 (w1 q)⟩⟩
      · exact ⟨a, rfl, .inr ⟨⟨us, e2⟩, post ρ1 H1 _ y1 s1 (w2 q)⟩⟩
    · cases ev
end
end MP
end
section
set_option Elab.async false
set_option linter.all false
set_option maxRecDepth 100000
set_option maxHeartbeats 4000000
/-! MPi: sources, more. -/
namespace MP
open PySem PySem.Spec PyProof.Rows L2
theorem zipD_len : ∀ (as bs : List D), (zipD as bs).length = min as.length bs.length
  | [], _ => by simp [zipD]
  | _ :: _, [] => by simp [zipD]
  | a :: as, b :: bs => by simp only [zipD, List.length_cons, zipD_len as bs]; omega
theorem zipD_get : ∀ (as bs : List D) (i : Nat) (x : D), (zipD as bs)[i]? = some x → ∃ a b, x = .tup [a, b] ∧ as[i]? = some a ∧ bs[i]? = some b
  | [], _, _, _, h => by simp [zipD] at h
  | _ :: _, [], _, _, h => by simp [zipD] at h
  | a :: as, b :: bs, 0, x, h => by simp [zipD] at h; subst h; exact ⟨a, b, rfl, rfl, rfl⟩
  | a :: as, b :: bs, i + 1, x, h => by simp only [zipD, List.getElem?_cons_succ] at h ⊢; exact zipD_get as bs i x h
theorem rangeD_len (lo : Int) (n : Nat) : (rangeD lo n).length = n := by simp [rangeD]
theorem rangeD_get {lo : Int} {n i : Nat} {x : D} (h : (rangeD lo n)[i]? = some x) : i < n ∧ x = .int (lo + (i : Nat)) := by
  have hl : i < n := by have := (List.getElem?_eq_some_iff.mp h).1; rw [rangeD_len] at this; exact this
  refine ⟨hl, ?_⟩
  unfold rangeD at h
  rw [List.getElem?_map, List.getElem?_range hl] at h
  exact (Option.some.inj h).symm
section
variable {X : Cx} {g : GC} {k : Nat} {c : Cl} {tg : Expr}
theorem wk_range {ρ : Rw} {H : Hp} {ns : List Nat} {st : Sto} (lo : Int) (n : Nat) : Wk g ρ H ns st (Itr lo n) (rangeD lo n) :=
  ⟨fun ρ' H' st' x s z i y hy => by
    obtain ⟨h1, rfl⟩ := rangeD_get hy
    exact ⟨h1, fun v H2 ⟨e1, e2⟩ => by subst e1 e2; exact ⟨Ext.refl, s, by rw [RD.int_]⟩⟩,
   fun ρ' H' st' x s z i hi => by rw [rangeD_len] at hi; exact hi⟩
theorem small62_iff {i : Int} (h : small62 i = true) : -(2 ^ 62) ≤ i ∧ i < 2 ^ 62 := of_decide_eq_true h
theorem i_range1 {e : Expr} {ie : Ex} {p pos : Pos} (hg : Gl X "range") (hm : X.mg "range" = none) (hp : plainE e = true) (ha : PA X [e] (tEs g c [ie])) : PI X tg (.Call (.Name "range" p) [e] [] pos) (tI g c 1 [ie]) :=
  (pi_range1 hg hm ha (star_cons hp [] _)).imp fun σ H R ⟨ρ, env, st, vs, st', xs, hs, hr, ev, sr, post⟩ => by
    refine ⟨ρ, env, st, vs, st', hs, hr, ev, fun ρ1 H1 us y1 s1 r1 => ?_⟩
    unfold srcD at sr
    split at sr <;> first
      | (cases sr; done)
      | (rename_i h; cases h; done)
      | skip
    · rename_i j _
      split at sr
      · rename_i hj
        cases sr
        obtain ⟨v, r, rfl, h1, h2⟩ := r1.inv
        rw [h2.inv0, RD.int_.mp h1]
        exact ⟨j, rfl, (small62_iff hj).1, (small62_iff hj).2, post ρ1 H1 _ y1 s1 (wk_range 0 j.toNat)⟩
      · cases sr
theorem i_range2 {e e2 : Expr} {ie ie2 : Ex} {p pos : Pos} (hg : Gl X "range") (hm : X.mg "range" = none) (hp : plainE e = true) (hp2 : plainE e2 = true) (ha : PA X [e, e2] (tEs g c [ie, ie2])) : PI X tg (.Call (.Name "range" p) [e, e2] [] pos) (tI g c 2 [ie, ie2]) :=
  (pi_range2 hg hm ha (by rw [star_cons hp, star_cons hp2]; rfl) (star_cons hp2 [] _)).imp fun σ H R ⟨ρ, env, st, vs, st', xs, hs, hr, ev, sr, post⟩ => by
    refine ⟨ρ, env, st, vs, st', hs, hr, ev, fun ρ1 H1 us y1 s1 r1 => ?_⟩
    unfold srcD at sr
    split at sr <;> first
      | (cases sr; done)
      | (rename_i h; cases h; done)
      | skip
    · rename_i i j _
      split at sr
      · rename_i hj
        cases sr
        rw [Bool.and_eq_true] at hj
        obtain ⟨v, r, rfl, h1, h2⟩ := r1.inv
        obtain ⟨v2, r2, rfl, h3, h4⟩ := h2.inv
        rw [h4.inv0, RD.int_.mp h1, RD.int_.mp h3]
        exact ⟨i, j, rfl, ⟨(small62_iff hj.1).1, (small62_iff hj.1).2, (small62_iff hj.2).1, (small62_iff hj.2).2⟩, post ρ1 H1 _ y1 s1 (wk_range i (j - i).toNat)⟩
      · cases sr

/-! #### enumerate -/
def iEnumA (K : PySem.W.Frag) (ta : TA) : TI := fun σ H R => ta σ H fun vs H1 => ∃ a xs, vs = [.ref a] ∧ ((SqL K H1 a xs ∧ R (Ite K a) H1) ∨ (SqT K H1 a xs ∧ R (IteT K a) H1))
theorem pi_enumA {e : Expr} {ta : TA} {p pos tpos : Pos} {elts : List Expr} {kk : Nat} (hg : Gl X "enumerate") (hm : X.mg "enumerate" = none) (ha : PA X [e] ta) (hs : starEach [e] X.env = [(false, eval e X.env)]) :
    PI X (.Tuple elts kk tpos) (.Call (.Name "enumerate" p) [e] [] pos) (iEnumA X.K ta) := by
  refine ⟨fun pins s σ H R I h => ?_⟩
  refine Call_ (ld_blt I hg hm boot_enumerate (PyProof.Rows.callWith_type1 (thn (ha.run pos pins s σ H _ I h) fun us s1 ⟨vs, H1, I1, r1, a, xs, e1, q⟩ => ?_) hs rfl))
  subst e1
  obtain ⟨u, rfl, ru⟩ := vals1 r1
  cases ru
  have new : ∀ b, b ∈ [s1.heap.objs.size + 1, s1.heap.objs.size] → FpOk X pins H1 b := fun b hb => by
    have hb' : b = s1.heap.objs.size + 1 ∨ b = s1.heap.objs.size := by simpa using hb
    have hle : s1.heap.objs.size ≤ b := by
      rcases hb' with z | z
      · rw [z]; exact Nat.le_add_right _ _
      · rw [z]; exact Nat.le_refl _
    exact I1.fpOk hle (I1.hok.fresh hle)
  rcases q with ⟨hq, q⟩ | ⟨hq, q⟩
  · obtain ⟨its, rv, p', hz⟩ := I1.list hq
    exact call_enumerate_list p'.isList fun h' he hit _ hk => wpAny_pyIter_enum he
      ⟨_, _, _, _, H1, rfl, I1.kept (t' := s1.toks) hk, turn_enum a (s1.heap.objs.size + 1) s1.heap.objs.size, ⟨⟨.none, he⟩, hit, Nat.succ_ne_self _⟩, new, q⟩
  · obtain ⟨its, rv, p', hz⟩ := I1.tuple hq
    exact enum_tup (show s1.heap.IsTuple a its.toArray from p') fun h' he hit hk => wpAny_pyIter_enum he
      ⟨_, _, _, _, H1, rfl, I1.kept (t' := s1.toks) hk, turn_enumT a (s1.heap.objs.size + 1) s1.heap.objs.size, ⟨⟨.none, he⟩, hit, Nat.succ_ne_self _⟩, new, q⟩
/-- a new pair -/
theorem new_pair {ρ : Rw} {H : Hp} {st : Sto} {T : Addr} {x y : V} {a b : D} (s : RS g ρ st H) (hT : H T = none) (ra : RD g ρ H a x) (rb : RD g ρ H b y) :
    Ext ρ H ρ (upd H T (.tup [x, y])) ∧ RS g ρ st (upd H T (.tup [x, y])) ∧ RD g ρ (upd H T (.tup [x, y])) (.tup [a, b]) (.ref T) :=
  ⟨Ext.lay hT, s.lay hT, RD.tup_.mpr ⟨T, _, rfl, SqT.of upd_same, RDs.cons (RD.mono (Ext.lay hT) _ _ ra) (RDs.cons (RD.mono (Ext.lay hT) _ _ rb) RDs.nil)⟩⟩
theorem i_enum (x : XOk g k X) {e : Expr} {ie : Ex} {p pos tpos : Pos} {elts : List Expr} {kk : Nat} (hg : Gl X "enumerate") (hm : X.mg "enumerate" = none) (hp : plainE e = true) (ha : PA X [e] (tEs g c [ie])) :
    PI X (.Tuple elts kk tpos) (.Call (.Name "enumerate" p) [e] [] pos) (tI g c 3 [ie]) :=
  (pi_enumA hg hm ha (star_cons hp [] _)).imp fun σ H R ⟨ρ, env, st, vs, st', xs, hs, hr, ev, sr, post⟩ => by
    refine ⟨ρ, env, st, vs, st', hs, hr, ev, fun ρ1 H1 us y1 s1 r1 => ?_⟩
    unfold srcD at sr
    split at sr <;> first
      | (cases sr; done)
      | (rename_i h; cases h; done)
      | skip
    · rename_i d _
      rw [Option.map_eq_some_iff] at sr
      obtain ⟨zs, e1, e2⟩ := sr
      subst e2
      obtain ⟨v, r, rfl, h1, h2⟩ := r1.inv
      have := h2.inv0
      subst this
      obtain ⟨a, ws, rfl, e3, rr⟩ := itemsOf_sq2 s1 h1 e1
      have key : ∀ ρ' H' st'', Ext ρ1 H1 ρ' H' → RS g ρ' st'' H' → sameAt (srcRefs [d]) st' st'' = true → ∃ vs, ((isTp d = false ∧ SqL g.K H' a vs) ∨ (isTp d = true ∧ SqT g.K H' a vs)) ∧ RDs g ρ' H' zs vs := fun ρ' H' st'' x s z => by
        obtain ⟨b, vs, e1, e2, e3⟩ := itemsOf_sq2 s (RD.mono x _ _ h1) (by rw [same_items z ref_in]; exact e1)
        cases e1
        exact ⟨vs, e2, e3⟩
      have item : ∀ {i : Nat} {y : D}, (zipD (rangeD 0 zs.length) zs)[i]? = some y → ∃ z, y = .tup [.int (i : Nat), z] ∧ zs[i]? = some z := fun {i y} hy => by
        obtain ⟨p1, p2, rfl, q1, q2⟩ := zipD_get _ _ _ _ hy
        obtain ⟨_, rfl⟩ := rangeD_get q1
        exact ⟨p2, by rw [Int.zero_add], q2⟩
      have len : (zipD (rangeD 0 zs.length) zs).length = zs.length := by rw [zipD_len, rangeD_len]; omega
      rw [x.hK]
      refine ⟨a, ws, rfl, ?_⟩
      rcases e3 with ⟨q, e3⟩ | ⟨q, e3⟩
      · refine .inl ⟨e3, post ρ1 H1 _ y1 s1 ⟨fun ρ' H' st'' x s z i y hy => ?_, fun ρ' H' st'' x s z i hi => ?_⟩⟩
        · obtain ⟨us, e4, e5⟩ := key ρ' H' st'' x s z
          obtain ⟨w, rfl, hw⟩ := item hy
          rcases e4 with ⟨_, e4⟩ | ⟨e4, _⟩
          · obtain ⟨v, hv, rv⟩ := e5.get hw
            refine ⟨⟨us, v, e4, hv⟩, fun u H2 ⟨T, x1, e6, hT, e7, e8⟩ => ?_⟩
            subst e6 e7
            exact new_pair s hT (by rw [RD.int_]) (rds_at e5 hw (e8 us e4))
          · rw [q] at e4; cases e4
        · obtain ⟨us, e4, e5⟩ := key ρ' H' st'' x s z
          rcases e4 with ⟨_, e4⟩ | ⟨e4, _⟩
          · exact ⟨us, e4, by rw [e5.len, ← len]; exact hi⟩
          · rw [q] at e4; cases e4
      · refine .inr ⟨e3, post ρ1 H1 _ y1 s1 ⟨fun ρ' H' st'' x s z i y hy => ?_, fun ρ' H' st'' x s z i hi => ?_⟩⟩
        · obtain ⟨us, e4, e5⟩ := key ρ' H' st'' x s z
          obtain ⟨w, rfl, hw⟩ := item hy
          rcases e4 with ⟨e4, _⟩ | ⟨_, e4⟩
          · rw [q] at e4; cases e4
          · obtain ⟨v, hv, rv⟩ := e5.get hw
            refine ⟨⟨us, v, e4, hv⟩, fun u H2 ⟨T, x1, e6, hT, e7, e8⟩ => ?_⟩
            subst e6 e7
            exact new_pair s hT (by rw [RD.int_]) (rds_at e5 hw (e8 us e4))
        · obtain ⟨us, e4, e5⟩ := key ρ' H' st'' x s z
          rcases e4 with ⟨e4, _⟩ | ⟨_, e4⟩
          · rw [q] at e4; cases e4
          · exact ⟨us, e4, by rw [e5.len, ← len]; exact hi⟩

/-! #### zip -/
theorem i_zip (x : XOk g k X) {e e2 : Expr} {ie ie2 : Ex} {p pos tpos : Pos} {elts : List Expr} {kk : Nat} (hg : Gl X "zip") (hm : X.mg "zip" = none) (hp : plainE e = true) (hp2 : plainE e2 = true) (ha : PA X [e, e2] (tEs g c [ie, ie2])) :
    PI X (.Tuple elts kk tpos) (.Call (.Name "zip" p) [e, e2] [] pos) (tI g c 4 [ie, ie2]) :=
  (RZ.pi_zipA hg hm ha (star_cons hp _ _) (star_none (fun a ha => by rw [List.mem_singleton] at ha; subst ha; exact hp2) _ _)).imp fun σ H R ⟨ρ, env, st, vs, st', xs, hs, hr, ev, sr, post⟩ => by
    refine ⟨ρ, env, st, vs, st', hs, hr, ev, fun ρ1 H1 us y1 s1 r1 => ?_⟩
    have step : ∀ {as bs ys zs}, RDs g ρ1 H1 as ys → RDs g ρ1 H1 bs zs → True := fun _ _ => trivial
    rw [x.hK]
    unfold srcD at sr
    split at sr <;> first
      | (cases sr; done)
      | (rename_i h; cases h; done)
      | skip
    · rename_i as bs _
      cases sr
      obtain ⟨v, r, rfl, h1, h2⟩ := r1.inv
      obtain ⟨v2, r2, rfl, h3, h4⟩ := h2.inv
      have := h4.inv0
      subst this
      rw [RD.tup_] at h1 h3
      obtain ⟨a, ys, rfl, q1, t1⟩ := h1
      obtain ⟨b, zs, rfl, q2, t2⟩ := h3
      refine ⟨a, b, ys, zs, rfl, .inr ⟨q1, q2, post ρ1 H1 _ y1 s1 ⟨fun ρ' H' st'' x s z i y hy => ?_, fun ρ' H' st'' x s z i hi => ?_⟩⟩⟩
      · obtain ⟨d1, d2, rfl, k1, k2⟩ := zipD_get _ _ _ _ hy
        obtain ⟨u1, m1, _⟩ := (t1.mono x).get k1
        obtain ⟨u2, m2, _⟩ := (t2.mono x).get k2
        refine ⟨⟨ys, zs, u1, u2, x.sqT q1, x.sqT q2, m1, m2⟩, fun u H2 ⟨T, x1, x2, e6, hT, e7, e8, e9⟩ => ?_⟩
        subst e6 e7
        exact new_pair s hT (rds_at (t1.mono x) k1 (e8 _ (x.sqT q1))) (rds_at (t2.mono x) k2 (e9 _ (x.sqT q2)))
      · rw [zipD_len] at hi
        exact ⟨ys, zs, x.sqT q1, x.sqT q2, by rw [t1.len, t2.len]; omega⟩
    · rename_i d1 d2 _ _
      split at sr
      · rename_i as bs k1 k2
        cases sr
        obtain ⟨v, r, rfl, h1, h2⟩ := r1.inv
        obtain ⟨v2, r2, rfl, h3, h4⟩ := h2.inv
        have := h4.inv0
        subst this
        have key : ∀ ρ' H' st'' (d : D) (v : V) (as : List D), d ∈ [d1, d2] → RD g ρ1 H1 d v → listOf st' d = some as → Ext ρ1 H1 ρ' H' → RS g ρ' st'' H' → sameAt (srcRefs [d1, d2]) st' st'' = true → ∃ a vs, v = .ref a ∧ SqL g.K H' a vs ∧ RDs g ρ' H' as vs := fun ρ' H' st'' d v as hd h1 hl x s z => by
          have hl2 : listOf st'' d = some as := by
            cases d with
            | ref n =>
              have := List.all_eq_true.mp z n (srcRefs_mem hd)
              rw [decide_eq_true_eq] at this
              simp only [listOf, ← this]
              exact hl
            | lst ys => exact hl
            | _ => cases hl
          obtain ⟨a, vs, e1, e2, e3⟩ := listOf_sq s (RD.mono x _ _ h1) hl2
          exact ⟨a, vs, e1, SqL.of e2, e3⟩
        have refl' : sameAt (srcRefs [d1, d2]) st' st' = true := by
          unfold sameAt
          rw [List.all_eq_true]
          intro n _
          simp
        obtain ⟨a, ys, rfl, q1, t1⟩ := key ρ1 H1 st' d1 v as (by simp) h1 k1 Ext.refl s1 refl'
        obtain ⟨b, zs, rfl, q2, t2⟩ := key ρ1 H1 st' d2 v2 bs (by simp) h3 k2 Ext.refl s1 refl'
        refine ⟨a, b, ys, zs, rfl, .inl ⟨q1, q2, post ρ1 H1 _ y1 s1 ⟨fun ρ' H' st'' x s z i y hy => ?_, fun ρ' H' st'' x s z i hi => ?_⟩⟩⟩
        · obtain ⟨a1, ys1, ea, m1, n1⟩ := key ρ' H' st'' d1 _ as (by simp) h1 k1 x s z
          obtain ⟨b1, zs1, eb, m2, n2⟩ := key ρ' H' st'' d2 _ bs (by simp) h3 k2 x s z
          cases ea
          cases eb
          obtain ⟨w1, w2, rfl, o1, o2⟩ := zipD_get _ _ _ _ hy
          obtain ⟨u1, p1, _⟩ := n1.get o1
          obtain ⟨u2, p2, _⟩ := n2.get o2
          refine ⟨⟨ys1, zs1, u1, u2, m1, m2, p1, p2⟩, fun u H2 ⟨T, x1, x2, e6, hT, e7, e8, e9⟩ => ?_⟩
          subst e6 e7
          exact new_pair s hT (rds_at n1 o1 (e8 _ m1)) (rds_at n2 o2 (e9 _ m2))
        · obtain ⟨a1, ys1, ea, m1, n1⟩ := key ρ' H' st'' d1 _ as (by simp) h1 k1 x s z
          obtain ⟨b1, zs1, eb, m2, n2⟩ := key ρ' H' st'' d2 _ bs (by simp) h3 k2 x s z
          cases ea
          cases eb
          rw [zipD_len] at hi
          exact ⟨ys1, zs1, m1, m2, by rw [n1.len, n2.len]; omega⟩
      · cases sr

/-! #### combinations -/
def iComb (K : PySem.W.Frag) (ta : TA) : TI := fun σ H R => ta σ H fun vs H1 => ∃ (a : Addr) (xs : List V) (r : Nat), vs = [.ref a, .int (r : Nat)] ∧ (SqL K H1 a xs ∨ SqT K H1 a xs) ∧ r ≤ 64 ∧ xs.length ≤ 64 ∧ R (Itc xs r) H1
theorem pi_comb {e e2 : Expr} {ta : TA} {p pos : Pos} (hg : Gl X "combinations") (hm : X.mg "combinations" = some (.type Cmb.cn)) (ha : PA X [e, e2] ta) (hs : starEach [e, e2] X.env = (false, eval e X.env) :: starEach [e2] X.env) (hpl : (backTo pos (starEach [e2] X.env)).any (·.1) = false) :
    PI X tg (.Call (.Name "combinations" p) [e, e2] [] pos) (iComb X.K ta) := by
  refine ⟨fun pins s σ H R I h => ?_⟩
  refine Call_ (ld_glob I hg hm (PyProof.Rows.callWith_type1 (thn (ha.run pos pins s σ H _ I h) fun us s1 ⟨vs, H1, I1, r1, a, xs, r, e1, hq, hr, hl, q⟩ => ?_) hs hpl) (by decide +kernel))
  subst e1
  have go : ∀ {T : String} {o : Obj} {its : List Value} {n : Nat} {t : Tok}, (T = "list" ∨ T = "tuple") → s1.heap.get? a = some o → o.cls = .type T → o.data = .seq its.toArray n → Vals xs its →
      wpAny (model X.prog X.w) X.A (call (.type Cmb.cn) [.ref a, .int (r : Nat) t]) (fun v s1 => wpAny (model X.prog X.w) X.A (pyIter v) (PIE X pins σ tg R) X.xe s1) X.xe s1 := by
    intro T o its n t hT ho hc hd rv
    refine call_comb hT ho hc hd hr (by rw [List.size_toArray, ← rv.length]; exact hl) fun h1 k1 h' ht k2 => ?_
    have I2 : Inv X pins σ H1 { s1 with heap := h1 } := I1.kept (t' := s1.toks) k1
    have I3 : Inv X pins σ H1 { s1 with heap := h' } := I1.kept (t' := s1.toks) fun b o z => k2 b o (k1 b o z)
    have Tn : Turn X.prog X.w X.K tg (Itc xs r) [h1.objs.size + 1, h1.objs.size] (h1.objs.size + 1) (tnc its.toArray r h1.objs.size (h1.objs.size + 1)) := turn_comb rv hr
    refine Tn.self X.A 0 { s1 with heap := h' } _ _ ht ⟨h1.objs.size + 1, [h1.objs.size + 1, h1.objs.size], _, _, H1, rfl, I3, Tn, ht, fun b hb => ?_, q⟩
    have hb' : b = h1.objs.size + 1 ∨ b = h1.objs.size := by simpa using hb
    have hle : h1.objs.size ≤ b := by
      rcases hb' with z | z
      · rw [z]; exact Nat.le_add_right _ _
      · rw [z]; exact Nat.le_refl _
    exact I2.fpOk hle (I2.hok.fresh hle)
  cases r1 with
  | cons ra rr =>
    cases rr with
    | cons rb rr =>
      cases rr
      cases ra
      obtain ⟨t, rfl⟩ := rb
      rcases hq with hq | hq
      · obtain ⟨its, rv, p, hz⟩ := I1.list hq
        obtain ⟨o, ho, hc, n, hd⟩ := p.isList
        exact go (.inl rfl) ho hc hd rv
      · obtain ⟨its, rv, p, hz⟩ := I1.tuple hq
        obtain ⟨o, ho, hc, n, hd⟩ := (show s1.heap.IsTuple a its.toArray from p)
        exact go (.inr rfl) ho hc hd rv
theorem rds_picks {ρ : Rw} {H : Hp} {zs : List D} {vs : List V} (r : RDs g ρ H zs vs) : ∀ is : List Nat, (∀ i ∈ is, i < zs.length) → RDs g ρ H (is.map fun i => zs.getD i .non) (is.map fun i => vs.getD i .non)
  | [], _ => RDs.nil
  | i :: is, h => by
    have hi := h i List.mem_cons_self
    obtain ⟨v, hv, rv⟩ := r.get (List.getElem?_eq_getElem hi)
    refine RDs.cons ?_ (rds_picks r is fun j hj => h j (List.mem_cons_of_mem _ hj))
    have e1 : zs.getD i .non = zs[i] := by rw [List.getD_eq_getElem?_getD, List.getElem?_eq_getElem hi]; rfl
    have e2 : vs.getD i .non = v := by rw [List.getD_eq_getElem?_getD, hv]; rfl
    show RD g ρ H (zs.getD i .non) (vs.getD i .non)
    rw [e1, e2]
    exact rv
theorem i_comb (x : XOk g k X) {e e2 : Expr} {ie ie2 : Ex} {p pos : Pos} (hg : Gl X "combinations") (hm : X.mg "combinations" = some (.type Cmb.cn)) (hp : plainE e = true) (hp2 : plainE e2 = true) (ha : PA X [e, e2] (tEs g c [ie, ie2])) :
    PI X tg (.Call (.Name "combinations" p) [e, e2] [] pos) (tI g c 5 [ie, ie2]) :=
  (pi_comb hg hm ha (star_cons hp _ _) (star_none (fun a ha => by rw [List.mem_singleton] at ha; subst ha; exact hp2) _ _)).imp fun σ H R ⟨ρ, env, st, vs, st', xs, hs, hr, ev, sr, post⟩ => by
    refine ⟨ρ, env, st, vs, st', hs, hr, ev, fun ρ1 H1 us y1 s1 r1 => ?_⟩
    rw [x.hK]
    unfold srcD at sr
    split at sr <;> first
      | (cases sr; done)
      | (rename_i h; cases h; done)
      | skip
    · rename_i d r _
      split at sr
      · rename_i zs k1
        split at sr
        · rename_i hc
          obtain ⟨c1, c2, c3⟩ := hc
          cases sr
          obtain ⟨v, rr, rfl, h1, h2⟩ := r1.inv
          obtain ⟨v2, r2, rfl, h3, h4⟩ := h2.inv
          have := h4.inv0
          subst this
          obtain ⟨a, ws, rfl, e3, t⟩ := itemsOf_sq2 s1 h1 k1
          have er : r = ((r.toNat : Nat) : Int) := by omega
          refine ⟨a, ws, r.toNat, by rw [RD.int_.mp h3, ← er], ?_, by omega, by rw [t.len]; exact c3, post ρ1 H1 _ y1 s1 ?_⟩
          · rcases e3 with ⟨_, e3⟩ | ⟨_, e3⟩
            · exact .inl e3
            · exact .inr e3
          have hix : combosD r.toNat zs = (Cmb.ixs ws.length 0 r.toNat).map fun is => is.map fun i => zs.getD i .non := by
            have := Cmb.combos_ix zs zs.length 0 r.toNat (by omega)
            rw [t.len]
            simpa using this
          refine ⟨fun ρ' H' st'' x s z i y hy => ?_, fun ρ' H' st'' x s z i hi => ?_⟩
          · rw [hix, List.getElem?_map, List.getElem?_map] at hy
            cases q : (Cmb.ixs ws.length 0 r.toNat)[i]? with
            | none => rw [q] at hy; cases hy
            | some is =>
              rw [q] at hy
              have ey := Option.some.inj hy
              refine ⟨(List.getElem?_eq_some_iff.mp q).1, fun u H2 ⟨T, is', e4, e5, hT, e6⟩ => ?_⟩
              rw [q] at e4
              cases e4
              subst e5 e6 ey
              have lt := (Cmb.ixs_len _ _ _ is (List.mem_of_getElem? q)).2
              exact ⟨Ext.lay hT, s.lay hT, RD.tup_.mpr ⟨T, _, rfl, SqT.of upd_same, RDs.mono (Ext.lay hT) _ _ (rds_picks (t.mono x) is fun j hj => by have := lt j hj; rw [t.len] at this; omega)⟩⟩
          · rw [List.length_map, hix, List.length_map] at hi
            exact hi
        · cases sr
      · cases sr
end
end MP
end
section
set_option Elab.async false
set_option linter.all false
set_option maxRecDepth 100000
set_option maxHeartbeats 4000000
/-! MPj: targets and comprehensions. -/
namespace MP
open PySem PySem.Spec PyProof.Rows L2
mutual
def tgs : Tg → List Nat
  | .nm i => [i]
  | .tp ts => tgss ts
def tgss : List Tg → List Nat
  | [] => []
  | t :: ts => tgs t ++ tgss ts
end
/-- the frame after a store at some places -/
def Sof (vs : List Nat) (σ σ' : L2.St) : Prop := σ'.length = σ.length ∧ ∀ i, i ∉ vs → σ'[i]? = σ[i]?
def tT (g : GC) (t : Tg) : TG := fun v σ H Q => ∃ ρ env st d env', RS g ρ st H ∧ RE g ρ H env σ ∧ RD g ρ H d v ∧ bindT t d env = some env' ∧ ∀ σ', RE g ρ H env' σ' → Sof (tgs t) σ σ' → Q σ' H
def tTs (g : GC) (ts : List Tg) : TGs := fun vs σ H Q => ∃ ρ env st ds env', RS g ρ st H ∧ RE g ρ H env σ ∧ RDs g ρ H ds vs ∧ bindTs ts ds env = some env' ∧ ∀ σ', RE g ρ H env' σ' → Sof (tgss ts) σ σ' → Q σ' H
theorem _root_.L2.PG.imp {X : Cx} {e : Expr} {t t' : TG} (h : PG X e t) (k : ∀ v σ H Q, t' v σ H Q → t v σ H Q) : PG X e t' := ⟨fun pins s σ H v u Q I r q => h.run pins s σ H v u Q I r (k v σ H Q q)⟩
theorem _root_.L2.PGs.imp {X : Cx} {e : List Expr} {t t' : TGs} (h : PGs X e t) (k : ∀ v σ H Q, t' v σ H Q → t v σ H Q) : PGs X e t' := ⟨fun pins s σ H v u Q I r q => h.run pins s σ H v u Q I r (k v σ H Q q)⟩
/-- targets that are told -/
def plainG : Expr → Bool
  | .Name _ _ => true
  | .Tuple _ _ _ => true
  | _ => false
theorem asg_cons {e : Expr} (h : plainG e = true) (es : List Expr) (env : PySem.Env) : assignEach (e :: es) env = (false, assign e env) :: assignEach es env := by
  cases e <;> first | rfl | cases h
theorem asg_len : ∀ {es : List Expr}, (∀ e ∈ es, plainG e = true) → ∀ env : PySem.Env, (assignEach es env).length = es.length ∧ (assignEach es env).findIdx? (·.1) = none
  | [], _, env => ⟨rfl, rfl⟩
  | e :: es, h, env => by
    obtain ⟨h1, h2⟩ := asg_len (fun e he => h e (List.mem_cons_of_mem _ he)) env
    rw [asg_cons (h e List.mem_cons_self)]
    refine ⟨by rw [List.length_cons, h1]; rfl, ?_⟩
    rw [List.findIdx?_cons, h2]
    rfl
section
variable {X : Cx} {g : GC} {k : Nat} {c : Cl}
theorem g_nm (x : XOk g k X) {i : Nat} {n : Str} {pos : Pos} (hi : X.N[i]? = some n) (hx : Loc X.env.scope n) (hf : X.fn n = true ∨ X.env.scope.names.lookup n = some .local) : PG X (.Name n pos) (tT g (.nm i)) :=
  (pg_name x.nd hi hx hf).imp fun v σ H Q ⟨ρ, env, st, d, env', hs, he, hd, hb, post⟩ => by
    rw [bindT] at hb
    cases hb
    refine post _ (he.set hd) ⟨by simp, fun j hj => ?_⟩
    rw [tgs, List.mem_singleton] at hj
    rw [List.getElem?_set_ne (Ne.symm hj)]
theorem gs_nil : PGs X [] (tTs g []) := pgs_nil.imp fun v σ H Q ⟨ρ, env, st, ds, env', hs, he, hd, hb, post⟩ => by
  cases ds with
  | nil =>
    rw [bindTs] at hb
    cases hb
    exact ⟨hd.inv0, post σ he ⟨rfl, fun _ _ => rfl⟩⟩
  | cons d ds => simp [bindTs] at hb
theorem gs_cons {e : Expr} {es : List Expr} {t : Tg} {ts : List Tg} (hp : plainG e = true) (h1 : PG X e (tT g t)) (h2 : PGs X es (tTs g ts)) : PGs X (e :: es) (tTs g (t :: ts)) :=
  (pgs_cons h1 h2 (by rw [asg_cons hp]; rfl)).imp fun v σ H Q ⟨ρ, env, st, ds, env', hs, he, hd, hb, post⟩ => by
    cases ds with
    | nil => simp [bindTs] at hb
    | cons d ds =>
      rw [bindTs] at hb
      split at hb
      · rename_i env1 e1
        obtain ⟨x, r, rfl, r1, r2⟩ := hd.inv
        refine ⟨x, r, rfl, ρ, env, st, d, env1, hs, he, r1, e1, fun σ1 he1 so1 => ⟨ρ, env1, st, ds, env', hs, he1, r2, hb, fun σ2 he2 so2 => post σ2 he2 ⟨so2.1.trans so1.1, fun i hi => ?_⟩⟩⟩
        rw [tgss, List.mem_append, not_or] at hi
        rw [so2.2 i hi.2, so1.2 i hi.1]
      · cases hb
theorem bindTs_len : ∀ {ts : List Tg} {ds : List D} {env env' : Env}, bindTs ts ds env = some env' → ds.length = ts.length
  | [], [], _, _, _ => rfl
  | [], _ :: _, _, _, h => by simp [bindTs] at h
  | _ :: _, [], _, _, h => by simp [bindTs] at h
  | t :: ts, d :: ds, env, env', h => by
    rw [bindTs] at h
    split at h
    · rw [List.length_cons, List.length_cons, bindTs_len h]
    · cases h
theorem g_tp (x : XOk g k X) {es : List Expr} {ts : List Tg} {kk : Nat} {pos : Pos} (hp : ∀ e ∈ es, plainG e = true) (hl : es.length = ts.length) (h : PGs X es (tTs g ts)) : PG X (.Tuple es kk pos) (tT g (.tp ts)) :=
  (pg_tup x.calm h (asg_len hp _).1 (asg_len hp _).2).imp fun v σ H Q ⟨ρ, env, st, d, env', hs, he, hd, hb, post⟩ => by
    cases d with
    | tup ds =>
      rw [bindT] at hb
      rw [RD.tup_] at hd
      obtain ⟨a, vs, rfl, q, r⟩ := hd
      exact ⟨a, vs, rfl, x.eqK q, by rw [r.len, bindTs_len hb, hl], ρ, env, st, ds, env', hs, he, r, hb, fun σ' h1 h2 => post σ' h1 (by rw [tgs]; exact h2)⟩
    | _ => simp [bindT] at hb

/-! ### comprehensions -/
def tTI (g : GC) (c : Cl) (ics : List Ex) : TT := fun σ H Q => ∃ ρ env st b st', RS g ρ st H ∧ RE g ρ H env σ ∧ evT c ics env st = some (b, st') ∧ ∀ ρ' H', Ext ρ H ρ' H' → RS g ρ' st' H' → Q b H'
theorem _root_.L2.PTs.imp {X : Cx} {e : List Expr} {t t' : TT} (h : PTs X e t) (k : ∀ σ H Q, t' σ H Q → t σ H Q) : PTs X e t' := ⟨fun pins s σ H Q I q => h.run pins s σ H Q I (k σ H Q q)⟩
theorem ts_nil : PTs X [] (tTI g c []) := pts_nil.imp fun σ H Q ⟨ρ, env, st, b, st', hs, he, ev, post⟩ => by
  rw [evT] at ev
  cases ev
  exact post ρ H Ext.refl hs
theorem ts_one {e : Expr} {ie : Ex} (h : PT X e (tB g c ie)) : PTs X [e] (tTI g c [ie]) := (pts_one h).imp fun σ H Q ⟨ρ, env, st, b, st', hs, he, ev, post⟩ => by
  rw [evT] at ev
  split at ev
  · rename_i v st1 e1
    split at ev
    · rename_i e2
      rw [evT] at ev
      cases ev
      exact ⟨ρ, env, st, v, _, true, hs, he, e1, e2, post⟩
    · rename_i e2
      cases ev
      exact ⟨ρ, env, st, v, _, false, hs, he, e1, e2, post⟩
    · cases ev
  · cases ev
theorem wipe_get {σ : L2.St} : ∀ {vs : List Nat} {i : Nat}, i ∈ vs → (wipe σ vs)[i]? = if i < σ.length then some none else none
  | v :: vs, i, h => by
    unfold wipe
    by_cases e : i = v
    · subst e
      by_cases hl : i < σ.length
      · rw [if_pos hl, List.getElem?_set_self (by rw [wipe_length]; exact hl)]
      · rw [if_neg hl, List.getElem?_eq_none (by rw [List.length_set, wipe_length]; omega)]
    · rw [List.getElem?_set_ne (Ne.symm e)]
      exact wipe_get ((List.mem_cons.mp h).resolve_left e)
theorem wipe_same {σ σ' : L2.St} {vs ws : List Nat} (h : Sof ws (wipe σ vs) σ') (hw : ∀ i ∈ ws, i ∈ vs) : wipe σ' vs = wipe σ vs := by
  have hl : σ'.length = σ.length := by rw [h.1, wipe_length]
  refine List.ext_getElem? fun i => ?_
  by_cases hi : i ∈ vs
  · rw [wipe_get hi, wipe_get hi, hl]
  · rw [wipe_at hi, h.2 i fun z => hi (hw i z)]
def turnF (c : Cl) (t : Tg) (ics : List Ex) (ie : Ex) (env : Env) : D → Sto → Option (Option D × Sto) := fun x st => match bindT t x env with
  | some env => match evT c ics env st with
    | some (true, st) => match evE c ie env st with
      | some (y, st) => some (some y, st)
      | none => none
    | some (false, st) => some (none, st)
    | none => none
  | none => none
theorem lc_run {bx : Bool} {ie : Ex} {t : Tg} {src : Nat} {it ics : List Ex} {vs : List Nat} {σ : L2.St} {H : Hp} {Q : VK} (hw : ∀ i ∈ tgs t, i ∈ vs) (h : tE g c (.comp bx ie t src it ics vs) σ H Q) : tLc (tI g c src it) (tT g t) (tTI g c ics) (tE g c ie) vs σ H Q := by
  obtain ⟨ρ, env, st, d, st', hs, he, ev, post⟩ := h
  rw [evE] at ev
  split at ev
  · rename_i ws st1 e1
    split at ev
    · rename_i xs sr
      split at ev
      · rename_i hsz
        split at ev
        · rename_i ys st2 cd
          rw [Option.some.injEq] at ev
          have cd : compD (srcRefs ws) st1 (turnF c t ics ie (wipeD env vs)) xs st1 = some (ys, st2) := cd
          refine ⟨ρ, env, st, ws, st1, xs, hs, he, e1, sr, fun ρ1 H1 J y1 s1 wk D hD => ?_⟩
          have al : ∀ a ∈ ρ1.k, ∃ o, H1 a = some o := fun a ha => (s1.hd a ha).2
          refine ⟨fun i m H => m = xs.length - i ∧ i ≤ xs.length ∧ ∃ ρ' s' acc accV ys', Ext ρ1 H1 ρ' H ∧ D ∈ ρ'.k ∧ RS g ρ' s' H ∧ H D = some (.lst accV) ∧ RDs g ρ' H acc accV ∧ compD (srcRefs ws) st1 (turnF c t ics ie (wipeD env vs)) (xs.drop i) s' = some (ys', st2) ∧ ys = acc ++ ys' ∧ acc.length ≤ i, ⟨xs.length, rfl, Nat.zero_le _, ρ1.hide D, st1, [], [], ys, Ext.hide hD, List.mem_cons_self, s1.hide hD, upd_same, RDs.nil, cd, rfl, Nat.le_refl _⟩, ?_⟩
          rintro i m H ⟨rfl, hi, ρ', s', acc, accV, ys', x1, hk, s2, hD2, rA, cd2, ey, la⟩
          by_cases hlt : i < xs.length
          · rw [List.drop_eq_getElem_cons hlt, compD] at cd2
            split at cd2
            · rename_i same
              split at cd2
              · rename_i o st3 e3
                split at cd2
                · rename_i ys2 st4 e4
                  cases cd2
                  obtain ⟨g1, g2⟩ := wk.go ρ' H s' x1 s2 same i xs[i] (List.getElem?_eq_getElem hlt)
                  refine .inr ⟨g1, fun H => ∃ ρ' s' acc accV ys', Ext ρ1 H1 ρ' H ∧ D ∈ ρ'.k ∧ RS g ρ' s' H ∧ H D = some (.lst accV) ∧ RDs g ρ' H acc accV ∧ compD (srcRefs ws) st1 (turnF c t ics ie (wipeD env vs)) (xs.drop (i + 1)) s' = some (ys', st2) ∧ ys = acc ++ ys' ∧ acc.length ≤ i + 1, fun H' h => ⟨_, by omega, rfl, hlt, h⟩, fun v H2 hy => ?_⟩
                  obtain ⟨x2, s3, r3⟩ := g2 v H2 hy
                  have hDl : D ∉ ρ'.l := (s2.hd D hk).1
                  unfold turnF at e3
                  split at e3
                  · rename_i env1 eb
                    refine ⟨ρ', wipeD env vs, s', xs[i], env1, s3, (((he.mono y1).mono x1).mono x2).wipe vs, r3, eb, fun σ2 re2 so2 => ⟨wipe_same so2 hw, ?_⟩⟩
                    split at e3
                    · rename_i st5 e5
                      split at e3
                      · rename_i yd st6 e6
                        cases e3
                        refine ⟨ρ', env1, s', true, st5, s3, re2, e5, fun ρ3 H3 x3 s4 => ?_⟩
                        show tE g c ie σ2 H3 _
                        refine ⟨ρ3, env1, st5, yd, st3, s4, re2.mono x3, e6, fun ρ4 H4 y x4 s5 r5 => ?_⟩
                        have xx := (x2.trans x3).trans x4
                        have hD4 : H4 D = some (.lst accV) := xx.kept D _ hD2 (.inl hDl)
                        obtain ⟨f1, f2⟩ := s5.fill (o := .lst (accV ++ [y])) (xx.hid D hk) hD4 rfl
                        refine ⟨accV, hD4, by rw [rA.len]; omega, ρ4, st3, acc ++ [yd], accV ++ [y], ys2, (x1.trans xx).over hD, xx.hid D hk, f2, upd_same, ?_, e4, by rw [ey, List.append_assoc]; rfl, by rw [List.length_append]; simp; omega⟩
                        exact (RDs.mono0 f1 _ _ (rA.mono xx)).append (RDs.cons (RD.mono0 f1 _ _ r5) RDs.nil)
                      · cases e3
                    · rename_i st5 e5
                      cases e3
                      refine ⟨ρ', env1, s', false, st3, s3, re2, e5, fun ρ3 H3 x3 s4 => ?_⟩
                      have xx := x2.trans x3
                      exact ⟨ρ3, st3, acc, accV, ys2, x1.trans xx, xx.hid D hk, s4, xx.kept D _ hD2 (.inl hDl), rA.mono xx, e4, ey, by omega⟩
                    · cases e3
                  · cases e3
                · cases cd2
              · cases cd2
            · cases cd2
          · have ei : i = xs.length := by omega
            subst ei
            rw [List.drop_length, compD] at cd2
            split at cd2
            · rename_i same
              cases cd2
              rw [List.append_nil] at ey
              subst ey
              refine .inl ⟨wk.stop ρ' H _ x1 s2 same _ (Nat.le_refl _), ?_⟩
              cases bx with
              | false =>
                cases ev
                refine post (ρ'.show D) H _ (y1.trans (x1.show al hD)) (s2.show D) (RD.lst_.mpr ⟨D, accV, rfl, fun z => ?_, hD2, RDs.mono0 (Ex0.show D) _ _ rA⟩)
                rcases z with z | z
                · exact (s2.hd D hk).1 z
                · exact absurd rfl (of_decide_eq_true (List.mem_filter.mp z).2)
              | true =>
                cases ev
                refine post (ρ'.adopt D) H _ (y1.trans (x1.adopt al hk hD)) (s2.adopt hk hD2 ⟨accV, rfl, RDs.mono0 (Ex0.adopt hk) _ _ rA⟩) ?_
                rw [RD.ref_]
                exact ⟨D, rfl, by rw [← s2.len]; simp [Rw.adopt]⟩
            · cases cd2
        · cases ev
      · cases ev
    · cases ev
  · cases ev
theorem XOk.blk (x : XOk g k X) (s : Shared) (H : Hp) (scope : Scope) (cenv : PySem.Env) (fp : List Addr) : XOk g k (X.blk s H scope cenv fp) := ⟨x.hP, x.hw, x.hK, x.hm, x.hb, x.calm, x.room, x.nd⟩
theorem s_comp (x : XOk g k X) {elt tge iter : Expr} {ifs : List Expr} {scope : Scope} {own : List (Str × Nat)} {pos : Pos} {bx : Bool} {ie : Ex} {t : Tg} {src : Nat} {it ics : List Ex} (hi : PI X tge iter (tI g c src it)) (ok : BlkOk X.N X.env.scope scope own)
    (hg : ∀ (s : Shared) (H : Hp) (C : Addr) (cl : List (Str × Addr)) (fp : List Addr), PG (X.blk s H scope (compEnvC scope cl C X.env) fp) tge (tT g t)) (ht : ∀ (s : Shared) (H : Hp) (C : Addr) (cl : List (Str × Addr)) (fp : List Addr), PTs (X.blk s H scope (compEnvC scope cl C X.env) fp) ifs (tTI g c ics))
    (he : ∀ (s : Shared) (H : Hp) (C : Addr) (cl : List (Str × Addr)) (fp : List Addr), PE (X.blk s H scope (compEnvC scope cl C X.env) fp) elt (tE g c ie)) (hp : plainE iter = true) (hw : ∀ i ∈ tgs t, i ∈ own.map (·.2)) :
    PE X (.ListComp elt [⟨tge, iter, ifs, 0⟩] scope pos) (tE g c (.comp bx ie t src it ics (own.map (·.2)))) :=
  (pe_lc x.calm x.nd hi ok hg ht he (fold_none hp _)).imp fun σ H Q h => lc_run hw h
end
end MP
end
section
set_option Elab.async false
set_option linter.all false
set_option maxRecDepth 100000
set_option maxHeartbeats 4000000
/-! MPk: statements. -/
namespace MP
open PySem PySem.Spec PyProof.Rows L2
/-- how a statement's end is told -/
def Fin (g : GC) (D : Ends) (ρ : Rw) (H : Hp) (env' : Env) (st' : Sto) : Fl → Prop
  | .nx => ∀ ρ' H' σ', Ext ρ H ρ' H' → RS g ρ' st' H' → RE g ρ' H' env' σ' → D.nx σ' H'
  | .cont => ∀ ρ' H' σ', Ext ρ H ρ' H' → RS g ρ' st' H' → RE g ρ' H' env' σ' → D.ct σ' H'
  | .brk => ∀ ρ' H' σ', Ext ρ H ρ' H' → RS g ρ' st' H' → RE g ρ' H' env' σ' → D.bk σ' H'
  | .ret d => ∀ ρ' H' v, Ext ρ H ρ' H' → RS g ρ' st' H' → RD g ρ' H' d v → D.rt v H'
theorem Fin.from {g : GC} {D : Ends} {ρ ρ1 : Rw} {H H1 : Hp} {env' : Env} {st' : Sto} {fl : Fl} (h : Fin g D ρ H env' st' fl) (x : Ext ρ H ρ1 H1) : Fin g D ρ1 H1 env' st' fl := by
  cases fl with
  | ret d => exact fun ρ' H' v y s r => h ρ' H' v (x.trans y) s r
  | _ => exact fun ρ' H' v y s r => h ρ' H' v (x.trans y) s r
def tS (g : GC) (c : Cl) (s : St) : TS := fun D σ H => ∃ ρ env st fl env' st', RS g ρ st H ∧ RE g ρ H env σ ∧ evS c s env st = some (fl, env', st') ∧ Fin g D ρ H env' st' fl
def tSs (g : GC) (c : Cl) (s : List St) : TS := fun D σ H => ∃ ρ env st fl env' st', RS g ρ st H ∧ RE g ρ H env σ ∧ evSs c s env st = some (fl, env', st') ∧ Fin g D ρ H env' st' fl
section
variable {X : Cx} {g : GC} {k : Nat} {c : Cl}
theorem b_nil : PSs X [] (tSs g c []) := pss_nil.imp fun D σ H ⟨ρ, env, st, fl, env', st', hs, he, ev, fin⟩ => by
  rw [evSs] at ev
  cases ev
  exact fin ρ H σ Ext.refl hs he
theorem b_cons {s : Stmt} {ss : List Stmt} {i : St} {is : List St} (h1 : PS X s (tS g c i)) (h2 : PSs X ss (tSs g c is)) : PSs X (s :: ss) (tSs g c (i :: is)) :=
  (pss_cons h1 h2).imp fun D σ H ⟨ρ, env, st, fl, env', st', hs, he, ev, fin⟩ => by
    rw [evSs] at ev
    split at ev
    · rename_i env1 st1 e1
      exact ⟨ρ, env, st, .nx, env1, st1, hs, he, e1, fun ρ1 H1 σ1 x1 s1 r1 => ⟨ρ1, env1, st1, fl, env', st', s1, r1, ev, fin.from x1⟩⟩
    · rename_i f env1 st1 hf e1
      cases ev
      refine ⟨ρ, env, st, fl, env', st', hs, he, e1, ?_⟩
      cases fl with
      | nx => exact (hf rfl).elim
      | _ => exact fin
    · cases ev

/-! ### plain ones -/
theorem p_pass {pos : Pos} : PS X (.Pass pos) (tS g c .pass) := ps_pass.imp fun D σ H ⟨ρ, env, st, fl, env', st', hs, he, ev, fin⟩ => by
  rw [evS] at ev; cases ev; exact fin ρ H σ Ext.refl hs he
theorem p_brk {pos : Pos} : PS X (.Break pos) (tS g c .brk) := ps_break.imp fun D σ H ⟨ρ, env, st, fl, env', st', hs, he, ev, fin⟩ => by
  rw [evS] at ev; cases ev; exact fin ρ H σ Ext.refl hs he
theorem p_cont {pos : Pos} : PS X (.Continue pos) (tS g c .cont) := ps_continue.imp fun D σ H ⟨ρ, env, st, fl, env', st', hs, he, ev, fin⟩ => by
  rw [evS] at ev; cases ev; exact fin ρ H σ Ext.refl hs he
theorem p_doc {x : Str} {j : Nat} {pos pos' : Pos} : PS X (.Expr (.Constant (.str x) j pos) pos') (tS g c .pass) := ps_doc.imp fun D σ H ⟨ρ, env, st, fl, env', st', hs, he, ev, fin⟩ => by
  rw [evS] at ev; cases ev; exact fin ρ H σ Ext.refl hs he
def notLc : Expr → Bool
  | .ListComp _ _ _ _ => false
  | e => plainE e
theorem notLc_plain {e : Expr} (h : notLc e = true) : plainE e = true := by
  cases e <;> first | rfl | cases h
theorem sw_no {e : Expr} (h : notLc e = true) (t : Option Expr) (l : Nat) (env : PySem.Env) : swapsWith e t l env = pure false := by
  cases e <;> first | rfl | cases h
theorem p_ex {e : Expr} {ie : Ex} {pos : Pos} (hn : notLc e = true) (h : PE X e (tE g c ie)) : PS X (.Expr e pos) (tS g c (.ex ie)) :=
  (ps_expr h (sw_no hn _ _ _)).imp fun D σ H ⟨ρ, env, st, fl, env', st', hs, he, ev, fin⟩ => by
    rw [evS] at ev
    split at ev
    · rename_i d st1 e1
      cases ev
      exact ⟨ρ, env, st, d, st', hs, he, e1, fun ρ1 H1 v x1 s1 r1 => fin ρ1 H1 σ x1 s1 (he.mono x1)⟩
    · cases ev
theorem p_ret {e : Expr} {ie : Ex} {pos : Pos} (h : PE X e (tE g c ie)) : PS X (.Return (some e) pos) (tS g c (.ret ie)) :=
  (ps_ret h).imp fun D σ H ⟨ρ, env, st, fl, env', st', hs, he, ev, fin⟩ => by
    rw [evS] at ev
    split at ev
    · rename_i d st1 e1
      cases ev
      exact ⟨ρ, env, st, d, st', hs, he, e1, fun ρ1 H1 v x1 s1 r1 => fin ρ1 H1 v x1 s1 r1⟩
    · cases ev
theorem p_retN {pos : Pos} : PS X (.Return none pos) (tS g c .retN) := ps_retN.imp fun D σ H ⟨ρ, env, st, fl, env', st', hs, he, ev, fin⟩ => by
  rw [evS] at ev; cases ev; exact fin ρ H .non Ext.refl hs (by rw [RD.non_])
theorem p_if {e : Expr} {a b : List Stmt} {ie : Ex} {ia ib : List St} {pos : Pos} (h : PT X e (tB g c ie)) (ha : PSs X a (tSs g c ia)) (hb : PSs X b (tSs g c ib)) : PS X (.If e a b pos) (tS g c (.ite ie ia ib)) :=
  (ps_if h ha hb).imp fun D σ H ⟨ρ, env, st, fl, env', st', hs, he, ev, fin⟩ => by
    rw [evS] at ev
    split at ev
    · rename_i d st1 e1
      split at ev
      · rename_i e2
        exact ⟨ρ, env, st, d, st1, true, hs, he, e1, e2, fun ρ1 H1 x1 s1 => ⟨ρ1, env, st1, fl, env', st', s1, he.mono x1, ev, fin.from x1⟩⟩
      · rename_i e2
        exact ⟨ρ, env, st, d, st1, false, hs, he, e1, e2, fun ρ1 H1 x1 s1 => ⟨ρ1, env, st1, fl, env', st', s1, he.mono x1, ev, fin.from x1⟩⟩
      · cases ev
    · cases ev

/-! ### stores -/
theorem p_set (x : XOk g k X) {e tg : Expr} {ie : Ex} {t : Tg} {pos : Pos} (hn : notLc e = true) (hp : plainG tg = true) (hsw : swappedStores [tg] e X.env = pure none) (h : PE X e (tE g c ie)) (hg : PG X tg (tT g t)) : PS X (.Assign [tg] e pos) (tS g c (.set t ie)) :=
  (ps_asg h hg (sw_no hn _ _ _) hsw (by rw [asg_cons hp]; rfl)).imp fun D σ H ⟨ρ, env, st, fl, env', st', hs, he, ev, fin⟩ => by
    rw [evS] at ev
    split at ev
    · rename_i d st1 e1
      split at ev
      · rename_i env1 e2
        cases ev
        exact ⟨ρ, env, st, d, st', hs, he, e1, fun ρ1 H1 v x1 s1 r1 => ⟨ρ1, env, st', d, env', s1, he.mono x1, r1, e2, fun σ' h1 h2 => fin ρ1 H1 σ' x1 s1 h1⟩⟩
      · cases ev
    · cases ev
theorem sw_cell {elt : Expr} {gs : List Comprehension} {scope : Scope} {pos py : Pos} {y : Str} {l : Nat} {env : PySem.Env} (hy : env.scope.names.lookup y = some .cell) : swapsWith (.ListComp elt gs scope pos) (some (.Name y py)) l env = pure false := by
  have ky : env.kindOf y = some .cell := hy
  unfold swapsWith
  simp only [ky]
  cases env.blockKind <;> rfl
theorem p_setC (x : XOk g k X) {elt : Expr} {gs : List Comprehension} {scope : Scope} {p py pos : Pos} {y : Str} {ie : Ex} {t : Tg} (hy : X.env.scope.names.lookup y = some .cell) (h : PE X (.ListComp elt gs scope p) (tE g c ie)) (hg : PG X (.Name y py) (tT g t)) : PS X (.Assign [.Name y py] (.ListComp elt gs scope p) pos) (tS g c (.set t ie)) :=
  (ps_asg h hg (sw_cell (l := pos.line) hy) rfl (by rw [asg_cons rfl]; rfl)).imp fun D σ H ⟨ρ, env, st, fl, env', st', hs, he, ev, fin⟩ => by
    rw [evS] at ev
    split at ev
    · rename_i d st1 e1
      split at ev
      · rename_i env1 e2
        cases ev
        exact ⟨ρ, env, st, d, st', hs, he, e1, fun ρ1 H1 v x1 s1 r1 => ⟨ρ1, env, st', d, env', s1, he.mono x1, r1, e2, fun σ' h1 h2 => fin ρ1 H1 σ' x1 s1 h1⟩⟩
      · cases ev
    · cases ev
theorem p_nm (x : XOk g k X) {e : Expr} {ie : Ex} {i : Nat} {n : Str} {p pos : Pos} (hn : notLc e = true) (hi : X.N[i]? = some n) (hx : X.env.scope.names.lookup n = some .local) (h : PE X e (tE g c ie)) : PS X (.Assign [.Name n p] e pos) (tS g c (.set (.nm i) ie)) :=
  (ps_set x.nd hi (.inl hx) h (sw_no hn _ _ _) (.inr hx)).imp fun D σ H ⟨ρ, env, st, fl, env', st', hs, he, ev, fin⟩ => by
    rw [evS] at ev
    split at ev
    · rename_i d st1 e1
      rw [bindT] at ev
      cases ev
      exact ⟨ρ, env, st, d, st', hs, he, e1, fun ρ1 H1 v x1 s1 r1 => fin ρ1 H1 _ x1 s1 ((he.mono x1).set r1)⟩
    · cases ev
theorem p_nmLc (x : XOk g k X) {elt tge iter : Expr} {ifs : List Expr} {scope : Scope} {own : List (Str × Nat)} {pos spos py : Pos} {y : Str} {i : Nat} {bx : Bool} {ie : Ex} {t : Tg} {src : Nat} {it ics : List Ex} (hk : X.env.scope.kind = .function) (hy : X.N[i]? = some y) (hyl : X.env.scope.names.lookup y = some .local) (hl : (py.line == pos.line) = true)
    (ha : (scope.names.any fun (n, k) => n == y && (k == .local || k == .cell)) = false) (hi : PI X tge iter (tI g c src it)) (ok : BlkOk X.N X.env.scope scope own)
    (hg : ∀ (s : Shared) (H : Hp) (C : Addr) (cl : List (Str × Addr)) (fp : List Addr), PG (X.blk s H scope (compEnvC scope cl C X.env) fp) tge (tT g t)) (ht : ∀ (s : Shared) (H : Hp) (C : Addr) (cl : List (Str × Addr)) (fp : List Addr), PTs (X.blk s H scope (compEnvC scope cl C X.env) fp) ifs (tTI g c ics))
    (he : ∀ (s : Shared) (H : Hp) (C : Addr) (cl : List (Str × Addr)) (fp : List Addr), PE (X.blk s H scope (compEnvC scope cl C X.env) fp) elt (tE g c ie)) (hp : plainE iter = true) (hw : ∀ i ∈ tgs t, i ∈ own.map (·.2)) :
    PS X (.Assign [.Name y py] (.ListComp elt [⟨tge, iter, ifs, 0⟩] scope pos) spos) (tS g c (.set (.nm i) (.comp bx ie t src it ics (own.map (·.2))))) :=
  (ps_setLc x.calm x.nd hy hyl (sw_true hk hyl hl ha) hi ok hg ht he (fold_none hp _)).imp fun D σ H ⟨ρ, env, st, fl, env', st', hs, he, ev, fin⟩ => by
    rw [evS] at ev
    split at ev
    · rename_i d st1 e1
      rw [bindT] at ev
      cases ev
      exact lc_run hw ⟨ρ, env, st, d, st', hs, he, e1, fun ρ1 H1 v x1 s1 r1 => fin ρ1 H1 _ x1 s1 ((he.mono x1).set r1)⟩
    · cases ev
theorem p_setI (x : XOk g k X) {o i e : Expr} {io ii ie : Ex} {p pos : Pos} (hn : notLc e = true) (hpi : plainE i = true) (ho : PE X o (tE g c io)) (hi : PE X i (tE g c ii)) (h : PE X e (tE g c ie)) : PS X (.Assign [.Subscript o i p] e pos) (tS g c (.setI io ii ie)) := by
  have ha : ∀ v, assign (.Subscript o i p) X.env v = (do
      let ov ← holding [v] (eval o X.env)
      let iv ← holding [v, ov] (eval i X.env)
      standAt p
      holding [v, ov, iv] (setItem ov iv v)
      release [v, ov, iv] []) := by
    intro v
    cases i <;> first | rfl | cases hpi
  refine (ps_asg (pos := pos) h (pg_sub ho hi (set_any x) ha) (sw_no hn (some (.Subscript o i p)) pos.line X.env) rfl rfl).imp fun D σ H ⟨ρ, env, st, fl, env', st', hs, he, ev, fin⟩ => ?_
  rw [evS] at ev
  split at ev
  · rename_i d st1 e1
    split at ev
    · rename_i d2 st2 e2
      split at ev
      · rename_i d3 st3 e3
        split at ev
        · rename_i st4 e4
          cases ev
          exact ⟨ρ, env, st, d, st1, hs, he, e1, fun ρ1 H1 v x1 s1 r1 => ⟨ρ1, env, st1, d2, st2, s1, he.mono x1, e2, fun ρ2 H2 v2 x2 s2 r2 => ⟨ρ2, env, st2, d3, st3, s2, (he.mono x1).mono x2, e3, fun ρ3 H3 v3 x3 s3 r3 =>
            ⟨ρ3, st3, d2, d3, d, st', s3, RD.mono x3 _ _ r2, r3, RD.mono x3 _ _ (RD.mono x2 _ _ r1), e4, fun H4 x4 s4 => fin ρ3 H4 σ (((x1.trans x2).trans x3).trans x4) s4 ((((he.mono x1).mono x2).mono x3).mono x4)⟩⟩⟩⟩
        · cases ev
      · cases ev
    · cases ev
  · cases ev
theorem putA_map {ρ : Rw} {H : Hp} {f : Str} {d : D} {v : V} (hd : RD g ρ H d v) : ∀ {fs : List (Str × D)} {ws : List (Str × V)}, ws.map (·.1) = fs.map (·.1) → RDs g ρ H (fs.map (·.2)) (ws.map (·.2)) →
    (putF f v ws).map (·.1) = (putA f d fs).map (·.1) ∧ RDs g ρ H ((putA f d fs).map (·.2)) ((putF f v ws).map (·.2))
  | [], ws, e, _ => by
    have : ws = [] := List.map_eq_nil_iff.mp e
    subst this
    exact ⟨rfl, RDs.cons hd RDs.nil⟩
  | (n, z) :: fs, ws, e, r => by
    cases ws with
    | nil => cases e
    | cons q ws =>
      obtain ⟨m, u⟩ := q
      simp only [List.map_cons, List.cons.injEq] at e
      obtain ⟨w, rr, e2, h1, h2⟩ := RDs.inv (show RDs g ρ H (z :: fs.map (·.2)) (u :: ws.map (·.2)) from r)
      simp only [List.cons.injEq] at e2
      obtain ⟨rfl, rfl⟩ := e2
      obtain ⟨e1, e3⟩ := e
      have e1 : m = n := e1
      subst e1
      unfold putF putA
      by_cases hm : m = f
      · rw [if_pos hm, if_pos hm]
        exact ⟨by simp [e3], RDs.cons hd h2⟩
      · rw [if_neg hm, if_neg hm]
        obtain ⟨k1, k2⟩ := putA_map hd e3 h2
        exact ⟨by simp [k1], RDs.cons h1 k2⟩
theorem p_setF (x : XOk g k X) (hA : AttOk g c.att) {o e : Expr} {io ie : Ex} {f : Str} {p pos : Pos} (hn : notLc e = true) (ho : PE X o (tE g c io)) (h : PE X e (tE g c ie)) : PS X (.Assign [.Attribute o f p] e pos) (tS g c (.setF io f ie)) :=
  (ps_fld ho h (sw_no hn _ _ _)).imp fun D σ H ⟨ρ, env, st, fl, env', st', hs, he, ev, fin⟩ => by
    rw [evS] at ev
    split at ev
    · rename_i d st1 e1
      split at ev
      · rename_i d2 st2 e2
        split at ev
        · rename_i st3 e3
          cases ev
          refine ⟨ρ, env, st, d, st1, hs, he, e1, fun ρ1 H1 v x1 s1 r1 => ⟨ρ1, env, st1, d2, st2, s1, he.mono x1, e2, fun ρ2 H2 v2 x2 s2 r2 => ?_⟩⟩
          unfold setFld at e3
          split at e3
          · rename_i n
            split at e3
            · rename_i cl fs q
              split at e3
              · rename_i hc
                cases e3
                obtain ⟨hc1, hc2⟩ := hA cl f hc.1
                rw [RD.ref_] at r2
                obtain ⟨a, rfl, hn⟩ := r2
                obtain ⟨o, ho, dx, ws, rfl, k1, k2⟩ := s2.at_ n a _ hn q
                obtain ⟨x3, s3⟩ := s2.write (ob' := .ins cl (putA f d fs)) (o := .ins (g.cl cl) dx (putF f v ws)) hn q (fun H3 x3 => by
                  obtain ⟨m1, m2⟩ := putA_map (RD.mono x3 _ _ (RD.mono x2 _ _ r1)) k1 (k2.mono x3)
                  exact ⟨dx, _, rfl, m1, m2⟩)
                rw [x.hK]
                refine ⟨a, g.cl cl, dx, ws, rfl, ho, hc1, hc2, ?_, fin ρ2 _ σ ((x1.trans x2).trans x3) s3 (((he.mono x1).mono x2).mono x3)⟩
                have := congrArg List.length k1
                simp only [List.length_map] at this
                omega
              · cases e3
            · cases e3
          · cases e3
        · cases ev
      · cases ev
    · cases ev

/-! ### loops -/
theorem p_for (x : XOk g k X) (own : PassesOwn (model X.prog X.w) X.A X.env X.xe) {tge iter : Expr} {body : List Stmt} {t : Tg} {src : Nat} {it : List Ex} {b : List St} {pos : Pos} (hp : plainE iter = true) (hi : PI X tge iter (tI g c src it)) (hg : PG X tge (tT g t)) (hb : PSs X body (tSs g c b)) :
    PS X (.For tge iter body [] pos) (tS g c (.for_ t src it b)) :=
  (ps_for own x.calm hi hg hb (fold_none hp _)).imp fun D σ H ⟨ρ, env, st, fl, env', st', hs, he, ev, fin⟩ => by
    rw [evS] at ev
    split at ev
    · rename_i ws st1 e1
      split at ev
      · rename_i xs sr
        refine ⟨ρ, env, st, ws, st1, xs, hs, he, e1, sr, fun ρ1 H1 J y1 s1 wk => ?_⟩
        refine ⟨fun i m σ H => m = xs.length - i ∧ i ≤ xs.length ∧ ∃ ρ' env1 st2, Ext ρ1 H1 ρ' H ∧ RS g ρ' st2 H ∧ RE g ρ' H env1 σ ∧ forD (srcRefs ws) st1 (fun x env st => match bindT t x env with
          | some env => evSs c b env st
          | none => none) (xs.drop i) env1 st2 = some (fl, env', st'), ⟨xs.length, rfl, Nat.zero_le _, ρ1, env, st1, Ext.refl, s1, he.mono y1, ev⟩, ?_⟩
        rintro i m σ1 H2 ⟨rfl, hil, ρ', env1, st2, x2, s2, r2, ev2⟩
        by_cases hlt : i < xs.length
        · rw [List.drop_eq_getElem_cons hlt, forD] at ev2
          split at ev2
          · rename_i same
            obtain ⟨g1, g2⟩ := wk.go ρ' H2 st2 x2 s2 same i xs[i] (List.getElem?_eq_getElem hlt)
            refine .inr ⟨g1, fun σ H => ∃ ρ' env1 st2, Ext ρ1 H1 ρ' H ∧ RS g ρ' st2 H ∧ RE g ρ' H env1 σ ∧ forD (srcRefs ws) st1 (fun x env st => match bindT t x env with
              | some env => evSs c b env st
              | none => none) (xs.drop (i + 1)) env1 st2 = some (fl, env', st'), fun σ' H' h => ⟨_, by omega, rfl, hlt, h⟩, fun v H3 hy => ?_⟩
            obtain ⟨x3, s3, r3⟩ := g2 v H3 hy
            have key : ∀ {o}, (match bindT t xs[i] env1 with
              | some env => evSs c b env st2
              | none => none) = some o → ∃ env2, bindT t xs[i] env1 = some env2 ∧ evSs c b env2 st2 = some o := fun {o} h => by
              split at h
              · rename_i env2 eb
                exact ⟨env2, eb, h⟩
              · cases h
            have go : ∀ {o : Fl × Env × Sto} {D' : Ends}, (match bindT t xs[i] env1 with
              | some env => evSs c b env st2
              | none => none) = some o → (Fin g D' ρ' H3 o.2.1 o.2.2 o.1) → tT g t v σ1 H3 fun σ2 H2 => tSs g c b D' σ2 H2 := fun {o D'} h hf => by
              obtain ⟨env2, eb, e2⟩ := key h
              exact ⟨ρ', env1, st2, xs[i], env2, s3, r2.mono x3, r3, eb, fun σ2 r4 _ => ⟨ρ', env2, st2, o.1, o.2.1, o.2.2, s3, r4, e2, hf⟩⟩
            split at ev2
            · rename_i env3 st3 e3
              exact go e3 (fun ρ4 H4 σ4 x4 s4 r4 => ⟨ρ4, env3, st3, (x2.trans x3).trans x4, s4, r4, ev2⟩)
            · rename_i env3 st3 e3
              exact go e3 (fun ρ4 H4 σ4 x4 s4 r4 => ⟨ρ4, env3, st3, (x2.trans x3).trans x4, s4, r4, ev2⟩)
            · rename_i env3 st3 e3
              cases ev2
              exact go e3 (fun ρ4 H4 σ4 x4 s4 r4 => fin ρ4 H4 σ4 (((y1.trans x2).trans x3).trans x4) s4 r4)
            · rename_i d env3 st3 e3
              cases ev2
              exact go e3 (fun ρ4 H4 v4 x4 s4 r4 => fin ρ4 H4 v4 (((y1.trans x2).trans x3).trans x4) s4 r4)
            · cases ev2
          · cases ev2
        · have ei : i = xs.length := by omega
          subst ei
          rw [List.drop_length, forD] at ev2
          split at ev2
          · rename_i same
            cases ev2
            exact .inl ⟨wk.stop ρ' H2 _ x2 s2 same _ (Nat.le_refl _), fin ρ' H2 σ1 (y1.trans x2) s2 r2⟩
          · cases ev2
      · cases ev
    · cases ev
theorem p_while (x : XOk g k X) (own : PassesOwn (model X.prog X.w) X.A X.env X.xe) {e : Expr} {body : List Stmt} {ie : Ex} {b : List St} {pos : Pos} (hc : PT X e (tB g c ie)) (hb : PSs X body (tSs g c b)) : PS X (.While e body [] pos) (tS g c (.whl ie b)) :=
  (ps_while own hc hb).imp fun D σ H0 ⟨ρ, env, st, fl, env', st', hs, he, ev, fin⟩ => by
    rw [evS] at ev
    refine ⟨fun m σ H => ∃ ρ' env1 st1, Ext ρ H0 ρ' H ∧ RS g ρ' st1 H ∧ RE g ρ' H env1 σ ∧ whlD (fun env st => match evE c ie env st with
      | some (v, st) => match truD st v with
        | some b => some (b, st)
        | none => none
      | none => none) (evSs c b) m env1 st1 = some (fl, env', st'), ⟨c.lap, ρ, env, st, Ext.refl, hs, he, ev⟩, ?_⟩
    rintro m σ1 H1 ⟨ρ', env1, st1, x1, s1, r1, ev1⟩
    cases m with
    | zero => rw [whlD] at ev1; cases ev1
    | succ m =>
      rw [whlD] at ev1
      have key : ∀ {o}, (match evE c ie env1 st1 with
        | some (v, st) => match truD st v with
          | some b => some (b, st)
          | none => none
        | none => none) = some o → ∃ v, evE c ie env1 st1 = some (v, o.2) ∧ truD o.2 v = some o.1 := fun {o} h => by
        split at h
        · rename_i v st2 e2
          split at h
          · rename_i b3 e3
            cases h
            exact ⟨v, e2, e3⟩
          · cases h
        · cases h
      split at ev1
      · rename_i st2 e2
        obtain ⟨v, e3, e4⟩ := key e2
        refine ⟨ρ', env1, st1, v, st2, true, s1, r1, e3, e4, fun ρ2 H2 x2 s2 => ?_⟩
        show (if true = true then _ else _)
        rw [if_pos rfl]
        refine ⟨fun σ H => ∃ ρ' env1 st1, Ext ρ H0 ρ' H ∧ RS g ρ' st1 H ∧ RE g ρ' H env1 σ ∧ whlD (fun env st => match evE c ie env st with
          | some (v, st) => match truD st v with
            | some b => some (b, st)
            | none => none
          | none => none) (evSs c b) m env1 st1 = some (fl, env', st'), fun σ' H' h => ⟨m, Nat.lt_succ_self _, h⟩, ?_⟩
        split at ev1
        · rename_i env3 st3 e5
          exact ⟨ρ2, env1, st2, .nx, env3, st3, s2, r1.mono x2, e5, fun ρ3 H3 σ3 x3 s3 r3 => ⟨ρ3, env3, st3, (x1.trans x2).trans x3, s3, r3, ev1⟩⟩
        · rename_i env3 st3 e5
          exact ⟨ρ2, env1, st2, .cont, env3, st3, s2, r1.mono x2, e5, fun ρ3 H3 σ3 x3 s3 r3 => ⟨ρ3, env3, st3, (x1.trans x2).trans x3, s3, r3, ev1⟩⟩
        · rename_i env3 st3 e5
          cases ev1
          exact ⟨ρ2, env1, st2, .brk, _, _, s2, r1.mono x2, e5, fun ρ3 H3 σ3 x3 s3 r3 => fin ρ3 H3 σ3 ((x1.trans x2).trans x3) s3 r3⟩
        · rename_i d env3 st3 e5
          cases ev1
          exact ⟨ρ2, env1, st2, .ret d, _, _, s2, r1.mono x2, e5, fun ρ3 H3 v3 x3 s3 r3 => fin ρ3 H3 v3 ((x1.trans x2).trans x3) s3 r3⟩
        · cases ev1
      · rename_i st2 e2
        obtain ⟨v, e3, e4⟩ := key e2
        cases ev1
        refine ⟨ρ', _, st1, v, _, false, s1, r1, e3, e4, fun ρ2 H2 x2 s2 => ?_⟩
        show (if false = true then _ else _)
        rw [if_neg (by decide)]
        exact fin ρ2 H2 σ1 (x1.trans x2) s2 (r1.mono x2)
      · cases ev1
end
end MP
end
section
set_option Elab.async false
set_option linter.all false
set_option maxRecDepth 100000
set_option maxHeartbeats 4000000
/-! MPl: a, b = x, y. -/
namespace MP
open PySem PySem.Spec PyProof.Rows L2
def sets {α : Type} : List Nat → List α → List (Option α) → List (Option α)
  | i :: is, x :: xs, l => sets is xs (l.set i (some x))
  | _, _, l => l
theorem sets_set {α : Type} : ∀ {is : List Nat} {xs : List α} {l : List (Option α)} {i : Nat} {x : α}, i ∉ is → sets is xs (l.set i (some x)) = (sets is xs l).set i (some x)
  | [], _, _, _, _, _ => by simp [sets]
  | _ :: _, [], _, _, _, _ => by simp [sets]
  | j :: is, y :: xs, l, i, x, h => by
    simp only [List.mem_cons, not_or] at h
    unfold sets
    rw [List.set_comm _ _ h.1]
    exact sets_set h.2
theorem sets_snoc {α : Type} : ∀ {is : List Nat} {xs : List α} {l : List (Option α)} {i : Nat} {x : α}, is.length = xs.length → sets (is ++ [i]) (xs ++ [x]) l = (sets is xs l).set i (some x)
  | [], [], _, _, _, _ => by simp [sets]
  | [], _ :: _, _, _, _, h => by simp at h
  | _ :: _, [], _, _, _, h => by simp at h
  | j :: is, y :: xs, l, i, x, h => by
    show sets (is ++ [i]) (xs ++ [x]) (l.set j (some y)) = (sets is xs (l.set j (some y))).set i (some x)
    exact sets_snoc (by simpa using h)
theorem sets_rev {α : Type} : ∀ {is : List Nat} {xs : List α} {l : List (Option α)}, is.Nodup → is.length = xs.length → sets is.reverse xs.reverse l = sets is xs l
  | [], [], _, _, _ => rfl
  | [], _ :: _, _, _, h => by simp at h
  | _ :: _, [], _, _, h => by simp at h
  | i :: is, x :: xs, l, hn, h => by
    rw [List.nodup_cons] at hn
    have hl : is.length = xs.length := by simpa using h
    rw [List.reverse_cons, List.reverse_cons, sets_snoc (by simpa using hl), sets_rev hn.2 hl]
    show _ = sets is xs (l.set i (some x))
    rw [sets_set hn.1]
theorem bind_sets : ∀ {is : List Nat} {ds : List D} {env env' : Env}, bindTs (is.map .nm) ds env = some env' → env' = sets is ds env ∧ ds.length = is.length
  | [], [], env, env', h => by
    have h : some env = some env' := by simpa [bindTs] using h
    exact ⟨(Option.some.inj h).symm, rfl⟩
  | [], _ :: _, _, _, h => by simp [bindTs] at h
  | _ :: _, [], _, _, h => by simp [bindTs] at h
  | i :: is, d :: ds, env, env', h => by
    rw [List.map_cons, bindTs, bindT] at h
    obtain ⟨h1, h2⟩ := bind_sets h
    exact ⟨h1, by rw [List.length_cons, List.length_cons, h2]⟩
section
variable {X : Cx} {g : GC} {k : Nat} {c : Cl}
theorem RE.sets {ρ : Rw} {H : Hp} : ∀ {is : List Nat} {ds : List D} {vs : List V} {env : Env} {σ : L2.St}, RE g ρ H env σ → RDs g ρ H ds vs → RE g ρ H (MP.sets is ds env) (MP.sets is vs σ)
  | [], ds, vs, env, σ, h, _ => by
    cases ds <;> cases vs <;> exact h
  | i :: is, [], vs, env, σ, h, r => by
    rw [r.inv0]
    exact h
  | i :: is, d :: ds, vs, env, σ, h, r => by
    obtain ⟨v, vr, rfl, r1, r2⟩ := r.inv
    show RE g ρ H (MP.sets is ds (env.set i (some d))) (MP.sets is vr (σ.set i (some v)))
    exact RE.sets (h.set (i := i) r1) r2
theorem RDs.reverse {ρ : Rw} {H : Hp} : ∀ {ds : List D} {vs : List V}, RDs g ρ H ds vs → RDs g ρ H ds.reverse vs.reverse
  | [], vs, h => by rw [h.inv0]; exact RDs.nil
  | d :: ds, vs, h => by
    obtain ⟨v, vr, rfl, r1, r2⟩ := h.inv
    rw [List.reverse_cons, List.reverse_cons]
    exact (RDs.reverse r2).append (RDs.cons r1 RDs.nil)
theorem vals_rev : ∀ {vs : List V} {us : List Value}, Vals vs us → Vals vs.reverse us.reverse
  | _, _, .nil => .nil
  | _, _, .cons r rr => by
    rw [List.reverse_cons, List.reverse_cons]
    exact (vals_rev rr).append (.cons r .nil)
theorem stores_run (x : XOk g k X) : ∀ {L : List (Str × Nat)} {vs : List V} {us : List Value} {pins : List (Addr × Obj)} {σ : L2.St} {H : Hp} {s : Shared} {Q : Unit → Shared → Prop}, (∀ p ∈ L, X.N[p.2]? = some p.1 ∧ X.env.scope.names.lookup p.1 = some .local) → Vals vs us → L.length = vs.length →
    Inv X pins σ H s → (∀ s', Inv X pins (sets (L.map (·.2)) vs σ) H s' → Q () s') → wpAny (model X.prog X.w) X.A (assignInOrder (L.map fun p => fun v => bindName X.env p.1 v) us) Q X.xe s
  | [], _, _, pins, σ, H, s, Q, _, .nil, _, I, q => assignInOrder_nil (q s I)
  | [], _, _, _, _, _, _, _, _, .cons _ _, h, _, _ => by simp at h
  | p :: L, _, _, pins, σ, H, s, Q, hL, .nil, h, I, q => by simp at h
  | p :: L, _, _, pins, σ, H, s, Q, hL, .cons r rr, h, I, q => by
    obtain ⟨h1, h2⟩ := hL p List.mem_cons_self
    refine assignInOrder_cons (wpAny_bindName (store_ok I x.nd h1 (.inl h2) r (fun s2 I2 => ?_) (.inr h2)))
    exact stores_run x (fun p hp => hL p (List.mem_cons_of_mem _ hp)) rr (by simpa using h) I2 q
theorem p_par (x : XOk g k X) {ts vs : List Expr} {L : List (Str × Nat)} {as : List Ex} {kt k2 : Nat} {pt pt2 pos : Pos} (hL : ∀ p ∈ L, X.N[p.2]? = some p.1 ∧ X.env.scope.names.lookup p.1 = some .local) (hn : (L.map (·.2)).Nodup) (hl : as.length ≤ 1000)
    (hw : swappedStores [.Tuple ts kt pt] (.Tuple vs k2 pt2) X.env = pure (some (L.map (·.1)))) (ha : PA X vs (tEs g c as)) : PS X (.Assign [.Tuple ts kt pt] (.Tuple vs k2 pt2) pos) (tS g c (.set (.tp ((L.map (·.2)).map .nm)) (.tup as))) := by
  refine ⟨fun pins s σ H D I ⟨ρ, env, st, fl, env', st', hs, he, ev, fin⟩ => ?_⟩
  rw [evS] at ev
  split at ev
  · rename_i d st1 e1
    split at ev
    · rename_i env1 e2
      cases ev
      rw [evE] at e1
      split at e1
      · rename_i ds st2 e3
        cases e1
        rw [bindT] at e2
        obtain ⟨e4, e5⟩ := bind_sets e2
        rw [exec_Assign_arm]
        refine wpAny_bind (wpAny_standAt ?_)
        rw [show swapsWithSole [.Tuple ts kt pt] (.Tuple vs k2 pt2) pos.line X.env = pure false from rfl]
        refine wpAny_bind (wpAny_pure ?_)
        rw [if_neg (by decide)]
        refine wpAny_bind (Tuple_ (thn (ha.run _ pins s σ H (fun xs H1 => ∃ ρ1, Ext ρ H ρ1 H1 ∧ RS g ρ1 st' H1 ∧ RDs g ρ1 H1 ds xs) I ⟨ρ, env, st, ds, st', hs, he, e3, fun ρ1 H1 xs x1 s1 r1 => ⟨ρ1, x1, s1, r1⟩⟩) fun us s1 ⟨xs, H1, I1, r1, ρ1, x1, s1', rd⟩ => ?_))
        have hlen := r1.length
        have hxl := rd.len
        have hal := evEs_len e3
        refine wpAny_newObj_type ?_ (by show us.toArray.size ≤ sizeLine; rw [List.size_toArray, sizeLine_eq]; omega)
        have I2 : Inv X pins σ H1 { s1 with heap := s1.heap.push { cls := .type "tuple", data := .seq us.toArray } } := I1.kept (t' := s1.toks) fun b o e => Heap.get?_push_of_some _ e
        rw [hw]
        refine wpAny_bind (wpAny_pure ?_)
        unfold assignStores
        dsimp only
        have hsz : (L.map (·.1)).length = us.toArray.size := by
          rw [List.length_map, List.size_toArray, ← hlen, hxl, e5, List.length_map]
        rw [hsz]
        refine wpAny_bind (wpAny_rule (wpAny_bind (unpackItems_tuple (items := us.toArray) (I.ok.hd x.calm) (IsTup.new s1.heap _) fun h' hx' => ?_)))
        have I3 := I2.kept (h' := h') (t' := s1.toks) fun b o e => hx' b o (Nat.ne_of_lt (Heap.lt_size e)) e
        have em : ((L.map (·.1)).reverse.map fun n => fun v => bindName X.env n v) = (L.reverse.map fun p => fun v => bindName X.env p.1 v) := by
          rw [← List.map_reverse, List.map_map]
          rfl
        rw [em]
        refine wpAny_bind (stores_run x (fun p hp => hL p (List.mem_reverse.mp hp)) (vals_rev r1) (by rw [List.length_reverse, List.length_reverse, hxl, e5, List.length_map]) I3 fun s4 I4 => wpAny_pure ?_)
        refine ⟨_, H1, I4, fin ρ1 H1 _ x1 s1' ?_⟩
        rw [List.map_reverse, e4, ← sets_rev hn e5.symm]
        exact (he.mono x1).sets rd.reverse
      · cases e1
    · cases ev
  · cases ev
end
end MP
end
section
set_option Elab.async false
set_option linter.all false
set_option maxRecDepth 100000
set_option maxHeartbeats 4000000
/-! MPm: calls with keywords. -/
namespace MP
open PySem PySem.Spec PyProof.Rows L2
section
variable {X : Cx} {g : GC} {k : Nat} {c : Cl}
theorem kw_cons (n : Str) (e : Expr) (p pos : Pos) (kws : List Keyword) (env : PySem.Env) : backToKw pos (keywordEach (⟨some n, e, p⟩ :: kws) env) = (some n, do let v ← eval e env; standAt pos; pure v) :: backToKw pos (keywordEach kws env) := rfl
theorem kw_facts : ∀ {kws : List Keyword} {ks : List Str}, kws.map (·.arg) = ks.map some → ∀ (pos : Pos) (env : PySem.Env), (backToKw pos (keywordEach kws env)).all (·.1.isSome) = true ∧ (backToKw pos (keywordEach kws env)).filterMap (·.1) = ks ∧ (backToKw pos (keywordEach kws env)).any (·.1.isNone) = false
  | [], ks, h, pos, env => by
    have : ks = [] := by cases ks with
      | nil => rfl
      | cons a b => cases h
    subst this
    exact ⟨rfl, rfl, rfl⟩
  | ⟨a, e, p⟩ :: kws, ks, h, pos, env => by
    cases ks with
    | nil => cases h
    | cons n ks =>
      simp only [List.map_cons, List.cons.injEq] at h
      obtain ⟨rfl, h⟩ := h
      obtain ⟨h1, h2, h3⟩ := kw_facts h pos env
      rw [kw_cons]
      refine ⟨by rw [List.all_cons, h1]; rfl, by rw [List.filterMap_cons, h2], by rw [List.any_cons, h3]; rfl⟩
theorem sk_nil : PK X [] (tEs g c []) := ⟨fun pos pins s σ H Q I ⟨ρ, env, st, ds, st', hs, he, e, post⟩ => by
  rw [evEs] at e
  cases e
  exact pk_nil.run pos pins s σ H Q I (post ρ H [] Ext.refl hs RDs.nil)⟩
theorem sk_cons {n : Str} {p : Pos} {e : Expr} {kws : List Keyword} {a : Ex} {as : List Ex} (h1 : PE X e (tE g c a)) (h2 : PK X kws (tEs g c as)) : PK X (⟨some n, e, p⟩ :: kws) (tEs g c (a :: as)) := ⟨fun pos pins s σ H Q I ⟨ρ, env, st, ds, st', hs, he, ev, post⟩ => by
  refine (pk_cons h1 h2).run pos pins s σ H Q I ?_
  rw [evEs] at ev
  split at ev
  · rename_i d st1 e1
    split at ev
    · rename_i ds2 st2 e2
      cases ev
      exact ⟨ρ, env, st, d, st1, hs, he, e1, fun ρ1 H1 x1 y1 s1 r1 => ⟨ρ1, env, st1, ds2, st', s1, he.mono y1, e2, fun ρ2 H2 xs y2 s2 r2 => post ρ2 H2 _ (y1.trans y2) s2 (RDs.cons (RD.mono y2 _ _ r1) r2)⟩⟩
    · cases ev
  · cases ev⟩
theorem pick_rds {ρ : Rw} {H : Hp} {ds : List D} {vs : List V} (r : RDs g ρ H ds vs) : ∀ (pm : List Nat), RDs g ρ H (pick pm ds) (pick pm vs)
  | [] => RDs.nil
  | i :: pm => by
    unfold pick
    rw [List.filterMap_cons, List.filterMap_cons]
    cases q : ds[i]? with
    | some d =>
      obtain ⟨v, e, rv⟩ := r.get q
      rw [e]
      exact RDs.cons rv (pick_rds r pm)
    | none =>
      have hl : ds.length ≤ i := List.getElem?_eq_none_iff.mp q
      have : vs[i]? = none := List.getElem?_eq_none (by rw [r.len]; exact hl)
      rw [this]
      exact pick_rds r pm
/-- a call with keywords binds so -/
structure KwAt (g : GC) (k : Nat) (call : List D → Sto → Option (D × Sto)) (n : Nat) (ks : List Str) (pm : List Nat) (a : Addr) : Prop where
  ok : ∃ (fd : FuncData) (ps : List Str), KBn g.K fd ps n ks (fun us ws => pick pm (us ++ ws)) (fun vs zs => pick pm (vs ++ zs)) ∧ FnOk g.P g.w g.K g.mg g.base CX0 k a fd ps (spF g call ps.length) ∧ ∀ ds st r, call ds st = some r → ds.length = ps.length
theorem s_callk (x : XOk g k X) {f : Str} {a : Addr} {n : Nat} {ks : List Str} {pm : List Nat} {p pos : Pos} {es : List Expr} {kws : List Keyword} {as zs : List Ex} (F : KwAt g k (c.call f) n ks pm a) (hg : Gl X f) (hm : g.mg f = some (.ref a)) (hk : PySem.W.keepIn g.K (.ref a) = true)
    (hd : (f == ("__debug__" : Str)) = false) (hp : ∀ a ∈ es, plainE a = true) (hkw : kws.map (·.arg) = ks.map some) (hes : es.length = as.length) (hn : as.length = n) (hz : zs.length = ks.length) (ha : PA X es (tEs g c as)) (hb : PK X kws (tEs g c zs)) : PE X (.Call (.Name f p) es kws pos) (tE g c (.callk f as zs pm)) := by
  obtain ⟨fd, ps, hb1, F1, har⟩ := F.ok
  obtain ⟨k1, k2, k3⟩ := kw_facts hkw pos X.env
  have key : ∀ {pins : List (Addr × Obj)} {σ : L2.St} {H2 : Hp} {s2 : Shared} {Q : VK} {us ws : List Value} {vs us2 : List V} {ρ2 : Rw} {st2 st' : Sto} {ds es : List D} {d : D}, Inv X pins σ H2 s2 → Vals vs us → Vals us2 ws → RS g ρ2 st2 H2 → RDs g ρ2 H2 ds vs → RDs g ρ2 H2 es us2 → ds.length = n → es.length = ks.length →
      c.call f (pick pm (ds ++ es)) st2 = some (d, st') → Pst g ρ2 H2 st' d Q → wpAny (model X.prog X.w) X.A (call (.ref a) us (ks.zip ws)) (EP X pins σ Q) X.xe s2 := by
    intro pins σ H2 s2 Q us ws vs us2 ρ2 st2 st' ds es d I r rz hs rd re l1 l2 ev post
    refine run_fnN (E := E0) (x.fn F1) x.room (by rw [x.hK]; exact hb1) pass0 I r rz (by rw [rd.len]; exact l1) (by rw [re.len]; exact l2) ?_
    exact ⟨ρ2, st2, _, d, st', hs, pick_rds (rd.append re) pm, ev, har _ _ _ ev, post⟩
  refine ⟨fun pins s σ H Q I ⟨ρ, env, st, d, st', hs, he, ev, post⟩ => ?_⟩
  rw [evE] at ev
  split at ev
  · rename_i ds st1 e1
    split at ev
    · rename_i ds2 st2 e2
      have l1 : ds.length = n := (evEs_len e1).trans hn
      have l2 : ds2.length = ks.length := (evEs_len e2).trans hz
      refine wpAny_Call_Name_kw (ld_glob I hg (by rw [x.hm]; exact hm) ?_ hd)
      cases es with
      | nil =>
        have h0 : ((backTo pos (starEach [] X.env)).any (·.1) || (backToKw pos (keywordEach kws X.env)).any (·.1.isNone)) = false := by rw [k3]; rfl
        cases as with
        | cons _ _ => simp at hes
        | nil =>
          rw [evEs] at e1
          cases e1
          refine PySem.W.callWith_KW0 (h₀ := X.base) I.ok.mod.kin (by rw [x.hK]; exact hk) k1 (thn (hb.run pos pins s σ H (fun zs H2 => ∃ ρ2, Ext ρ H ρ2 H2 ∧ RS g ρ2 st2 H2 ∧ RDs g ρ2 H2 ds2 zs) I ⟨ρ, env, st, ds2, st2, hs, he, e2, fun ρ2 H2 xs x2 s2 r2 => ⟨ρ2, x2, s2, r2⟩⟩) fun ws s2 ⟨zs2, H2, I2, rz, ρ2, x2, s2', r2⟩ => ⟨I2.kIn, ?_⟩) h0
          rw [k2]
          exact key I2 .nil rz s2' RDs.nil r2 l1 l2 ev (post.from x2)
      | cons e es =>
        have h0 : ((backTo pos (starEach (e :: es) X.env)).any (·.1) || (backToKw pos (keywordEach kws X.env)).any (·.1.isNone)) = false := by rw [k3, star_none hp]; rfl
        refine PySem.W.callWith_KW (h₀ := X.base) I.ok.mod.kin (by rw [x.hK]; exact hk) k1 (thn (ha.run pos pins s σ H (fun vs H1 => ∃ ρ1, Ext ρ H ρ1 H1 ∧ RS g ρ1 st1 H1 ∧ RDs g ρ1 H1 ds vs) I ⟨ρ, env, st, ds, st1, hs, he, e1, fun ρ1 H1 xs x1 s1 r1 => ⟨ρ1, x1, s1, r1⟩⟩) fun us s1 ⟨vs, H1, I1, r, ρ1, x1, s1', rd⟩ => ?_) h0 (star_cons (hp e List.mem_cons_self) _ _)
        refine thn (hb.run pos pins s1 σ H1 (fun zs H2 => ∃ ρ2, Ext ρ1 H1 ρ2 H2 ∧ RS g ρ2 st2 H2 ∧ RDs g ρ2 H2 ds2 zs) I1 ⟨ρ1, env, st1, ds2, st2, s1', he.mono x1, e2, fun ρ2 H2 xs x2 s2 r2 => ⟨ρ2, x2, s2, r2⟩⟩) fun ws s2 ⟨zs2, H2, I2, rz, ρ2, x2, s2', r2⟩ => ⟨I2.kIn, ?_⟩
        rw [k2]
        exact key I2 r rz s2' (rd.mono x2) r2 l1 l2 ev (post.from (x1.trans x2))
    · cases ev
  · cases ev
end
end MP
end
section
set_option Elab.async false
set_option linter.all false
set_option maxRecDepth 100000
set_option maxHeartbeats 4000000
/-! MPo: does the text say what the small language says? -/
namespace MP
open PySem PySem.Spec PyProof.Rows L2
/-- what the module's names are: defs with their parameters, calls with keywords, methods, classes, built-ins, constants -/
structure Tab where
  fns : List (Str × List Str)
  kws : List (Str × Nat × List Str × List Nat)
  mts : List (Str × Str × Str)
  cls : List Str
  blt : List Str
  cons : List (Str × D)
  comb : Bool
def lkN (sc : Scope) (x : Str) : Option NameKind := sc.names.lookup x
def isG (sc : Scope) (x : Str) : Bool := decide (lkN sc x = some .globalImplicit)
def isV (sc : Scope) (x : Str) : Bool := decide (lkN sc x = some .local) || decide (lkN sc x = some .cell) || decide (lkN sc x = some .free)
def isL (sc fs : Scope) (x : Str) : Bool := decide (lkN sc x = some .local) || (decide (lkN sc x = some .cell) && decide (lkN fs x = some .cell))
def okN (x : Str) : Bool := !(x == ("__debug__" : Str)) && !(x == ("__classdict__" : Str))
def bltC (T : Tab) (sc : Scope) (b : Str) : Bool := isG sc b && decide (b ∈ T.blt)
def unB : Operator → Option BOp
  | .Add => some .add
  | .Sub => some .sub
  | .Mult => some .mul
  | .FloorDiv => some .fdiv
  | .Mod => some .mod
  | .LShift => some .shl
  | .RShift => some .shr
  | .BitAnd => some .and
  | .BitOr => some .or
  | .Pow => some .pow
  | _ => none
theorem unB_ok {o : Operator} {b : BOp} (h : unB o = some b) : o = opB b := by
  cases o <;> simp only [unB, Option.some.injEq, reduceCtorEq] at h <;> subst h <;> rfl
def unC : CmpOp → COp
  | .Eq => .eq
  | .NotEq => .ne
  | .Lt => .lt
  | .LtE => .le
  | .Gt => .gt
  | .GtE => .ge
  | .Is => .is
  | .IsNot => .isnt
  | .In => .in_
  | .NotIn => .notin
theorem unC_ok (o : CmpOp) : o = opC (unC o) := by cases o <;> rfl
/-- lists, one by one -/
def ckL (ck : Expr → Ex → Bool) : List Expr → List Ex → Bool
  | [], [] => true
  | e :: es, i :: is => plainE e && ck e i && ckL ck es is
  | _, _ => false
def ckK (ck : Expr → Ex → Bool) : List Keyword → List Str → List Ex → Bool
  | [], [], [] => true
  | ⟨n, e, _⟩ :: kws, m :: ms, i :: is => decide (n = some m) && ck e i && ckK ck kws ms is
  | _, _, _ => false
def ckO (ck : Expr → Ex → Bool) : Option Expr → Option Ex → Bool
  | none, none => true
  | some e, some i => ck e i
  | _, _ => false
/-- targets -/
def ckT (N : List Str) (sc fs : Scope) : Nat → Expr → Tg → Bool
  | 0, _, _ => false
  | n + 1, e, .nm j => match e with
    | .Name x _ => decide (N[j]? = some x) && isL sc fs x
    | _ => false
  | n + 1, e, .tp ts => match e with
    | .Tuple es _ _ => decide (es.length = ts.length) && (es.all plainG) && ((es.zip ts).all fun p => ckT N sc fs n p.1 p.2)
    | _ => false
/-- sources -/
def ckI (ck : Expr → Ex → Bool) (T : Tab) (sc : Scope) (tg iter : Expr) (src : Nat) (it : List Ex) : Bool :=
  match src, it with
  | 0, [a] => ck iter a
  | 1, [a] => match iter with
    | .Call (.Name x _) [e] [] _ => decide (x = "range") && bltC T sc x && plainE e && ck e a
    | _ => false
  | 2, [a, b] => match iter with
    | .Call (.Name x _) [e, e2] [] _ => decide (x = "range") && bltC T sc x && plainE e && ck e a && plainE e2 && ck e2 b
    | _ => false
  | 3, [a] => match iter, tg with
    | .Call (.Name x _) [e] [] _, .Tuple _ _ _ => decide (x = "enumerate") && bltC T sc x && plainE e && ck e a
    | _, _ => false
  | 4, [a, b] => match iter, tg with
    | .Call (.Name x _) [e, e2] [] _, .Tuple _ _ _ => decide (x = "zip") && bltC T sc x && plainE e && ck e a && plainE e2 && ck e2 b
    | _, _ => false
  | 5, [a, b] => match iter with
    | .Call (.Name x _) [e, e2] [] _ => decide (x = "combinations") && T.comb && isG sc x && plainE e && ck e a && plainE e2 && ck e2 b
    | _ => false
  | _, _ => false
/-- tests: a choice is none -/
def tst : Nat → Expr → Bool
  | 0, _ => false
  | n + 1, e => match e with
    | .IfExp _ _ _ _ => false
    | .BoolOp _ es _ => es.all (tst n)
    | .UnaryOp .Not a _ => tst n a
    | _ => true
def ckB (ck : Expr → Ex → Bool) (n : Nat) (e : Expr) (i : Ex) : Bool := ck e i && tst n e
def ownN (N : List Str) (own : List Nat) : List (Str × Nat) := own.map fun j => (N.getD j "", j)
theorem ownN_ix (N : List Str) (own : List Nat) : (ownN N own).map (·.2) = own := by
  unfold ownN
  rw [List.map_map]
  conv => rhs; rw [← List.map_id own]
  rfl
/-- a comprehension's block -/
def ckC (ck : Scope → Expr → Ex → Bool) (T : Tab) (N : List Str) (n : Nat) (sc : Scope) (elt : Expr) (cs : List Comprehension) (scope : Scope) (ie : Ex) (t : Tg) (src : Nat) (it ics : List Ex) (own : List Nat) : Bool :=
  match cs with
  | [⟨tg, iter, ifs, as⟩] => decide (as = 0) && blkC N sc scope (ownN N own) && ckT N (relS scope sc) scope n tg t && ((tgs t).all fun i => decide (i ∈ own)) && plainE iter && ckI (ck sc) T sc tg iter src it && ck (relS scope sc) elt ie &&
    (match ifs, ics with
      | [], [] => true
      | [e], [i] => ckB (ck (relS scope sc)) n e i
      | _, _ => false)
  | _ => false
/-- expressions -/
def ckE (T : Tab) (N : List Str) : Nat → Scope → Expr → Ex → Bool
  | 0, _, _, _ => false
  | n + 1, sc, e, i => match i with
    | .var j => match e with
      | .Name x _ => decide (N[j]? = some x) && isV sc x && okN x
      | _ => false
    | .lit d => match e with
      | .Name x _ => isG sc x && okN x && (T.cons.any fun p => decide (p.1 = x) && decide (p.2 = d))
      | .Constant v _ _ => match v, d with
        | .none, .non => true
        | .bool a, .bl b => a == b
        | .int a, .int b => decide (a = b)
        | .str a, .str b => decide (a = b)
        | _, _ => false
      | _ => false
    | .tup is => match e with
      | .Tuple es _ _ => decide (is.length ≤ 1000) && ckL (ckE T N n sc) es is
      | _ => false
    | .lst _ is => match e with
      | .List es _ => decide (is.length ≤ 1000) && ckL (ckE T N n sc) es is
      | _ => false
    | .dct ks vs => match e, ks, vs with
      | .Dict [] [] _, [], [] => true
      | _, _, _ => false
    | .bin op a b => match e with
      | .BinOp x o y _ => decide (unB o = some op) && ckE T N n sc x a && ckE T N n sc y b
      | _ => false
    | .neg a => match e with
      | .UnaryOp .USub x _ => ckE T N n sc x a
      | _ => false
    | .cmp op a b => match e with
      | .Compare x [o] [y] _ => decide (unC o = op) && plainE y && ckE T N n sc x a && ckE T N n sc y b
      | _ => false
    | .cmp2 op op2 a b d => match e with
      | .Compare x [o, o2] [y, z] _ => decide (unC o = op) && decide (unC o2 = op2) && plainE z && ckE T N n sc x a && ckE T N n sc y b && ckE T N n sc z d
      | _ => false
    | .and a b => match e with
      | .BoolOp .And (x :: y :: r) p => ckE T N n sc x a && ckAnd T N n sc y r p b
      | _ => false
    | .or a b => match e with
      | .BoolOp .Or (x :: y :: r) p => ckE T N n sc x a && ckOr T N n sc y r p b
      | _ => false
    | .not a => match e with
      | .UnaryOp .Not x _ => ckE T N n sc x a
      | _ => false
    | .ite t a b => match e with
      | .IfExp w x y _ => ckB (ckE T N n sc) n w t && ckE T N n sc x a && ckE T N n sc y b
      | _ => false
    | .idx a b => match e with
      | .Subscript x y _ => plainE y && ckE T N n sc x a && ckE T N n sc y b
      | _ => false
    | .sl a lo hi => match e with
      | .Subscript x (.Slice l h none _) _ => ckE T N n sc x a && ckO (ckE T N n sc) l lo && ckO (ckE T N n sc) h hi
      | _ => false
    | .isi a t => match e with
      | .Call (.Name f _) [x, .Name y _] [] _ => decide (f = "isinstance") && bltC T sc f && decide (y = (tyN t : Str)) && bltC T sc y && plainE x && ckE T N n sc x a
      | _ => false
    | .bf f is => match e with
      | .Call (.Name x _) (y :: es) [] _ => decide (x = bfN f) && bltC T sc x && ckL (ckE T N n sc) (y :: es) is
      | _ => false
    | .mt m o is => match e with
      | .Call (.Attribute x y ap) es [] cp => decide (y = mtN m) && baseE x && (ap.endLine == cp.line) && decide (es.length < 20) && ckE T N n sc x o && ckL (ckE T N n sc) es is
      | _ => false
    | .fld o f => match e with
      | .Attribute x y _ => decide (y = f) && baseE x && ckE T N n sc x o
      | _ => false
    | .call f is => match e with
      | .Call (.Name x _) es [] _ => decide (x = f) && isG sc x && okN x && (T.fns.any fun p => decide (p.1 = x)) && ckL (ckE T N n sc) es is
      | _ => false
    | .callk f is zs pm => match e with
      | .Call (.Name x _) es kws _ => decide (x = f) && isG sc x && okN x && (T.kws.any fun p => decide (p.1 = x) && decide (p.2.1 = is.length) && decide (p.2.2.2 = pm) && decide (zs.length = p.2.2.1.length) && ckK (ckE T N n sc) kws p.2.2.1 zs) && decide (es.length = is.length) && ckL (ckE T N n sc) es is
      | _ => false
    | .meth cl m q o is => match e with
      | .Call (.Attribute x y ap) es [] cp => decide (y = m) && (T.mts.any fun p => decide (p = (cl, m, q))) && baseE x && (ap.endLine == cp.line) && decide (es.length < 20) && ckE T N n sc x o && ckL (ckE T N n sc) es is
      | _ => false
    | .mk cl is => match e with
      | .Call (.Name x _) es [] _ => decide (x = cl) && isG sc x && okN x && decide (x ∈ T.cls) && ckL (ckE T N n sc) es is
      | _ => false
    | .comp _ ie t src it ics own => match e with
      | .ListComp elt cs scope _ => ckC (ckE T N n) T N n sc elt cs scope ie t src it ics own
      | _ => false
    | .rg tl is => match e with
      | .Call (.Name x _) [.Call (.Name y _) es [] _] [] _ => decide (x = if tl then "tuple" else "list") && bltC T sc x && decide (y = "range") && bltC T sc y && (match es, is with
        | [a], [i] => plainE a && ckE T N n sc a i
        | [a, b], [i, j] => plainE a && ckE T N n sc a i && plainE b && ckE T N n sc b j
        | _, _ => false)
      | _ => false
where
  ckAnd (T : Tab) (N : List Str) : Nat → Scope → Expr → List Expr → Pos → Ex → Bool
    | 0, _, _, _, _, _ => false
    | n + 1, sc, y, [], _, b => ckE T N n sc y b
    | n + 1, sc, y, z :: r, p, b => ckE T N n sc (.BoolOp .And (y :: z :: r) p) b
  ckOr (T : Tab) (N : List Str) : Nat → Scope → Expr → List Expr → Pos → Ex → Bool
    | 0, _, _, _, _, _ => false
    | n + 1, sc, y, [], _, b => ckE T N n sc y b
    | n + 1, sc, y, z :: r, p, b => ckE T N n sc (.BoolOp .Or (y :: z :: r) p) b
end MP
end
section
set_option Elab.async false
set_option linter.all false
set_option maxRecDepth 100000
set_option maxHeartbeats 4000000
/-! MPp: what is checked holds. -/
namespace MP
open PySem PySem.Spec PyProof.Rows L2
structure Cxo (g : GC) (k : Nat) (N : List Str) (sc fs : Scope) (X : Cx) : Prop where
  x : XOk g (k + 1) X
  hN : X.N = N
  hs : X.env.scope = sc
  kd : sc.kind = .function
  hf : ∀ y, lkN fs y = some .cell → X.fn y = true
structure TabOk (g : GC) (k : Nat) (c : Cl) (T : Tab) : Prop where
  fn : ∀ p ∈ T.fns, ∃ a, FnAt g (k + 1) (c.call p.1) p.2 a ∧ g.mg p.1 = some (.ref a) ∧ PySem.W.keepIn g.K (.ref a) = true
  kw : ∀ p ∈ T.kws, ∃ a, KwAt g (k + 1) (c.call p.1) p.2.1 p.2.2.1 p.2.2.2 a ∧ g.mg p.1 = some (.ref a) ∧ PySem.W.keepIn g.K (.ref a) = true
  mt : ∀ p ∈ T.mts, ∃ a ps, FnAt g (k + 1) (c.call p.2.2) ps a ∧ Cls g.K (g.cl p.1) ∧ Meth g.K (g.cl p.1) p.2.1 a
  mc : ∀ x ∈ T.cls, MkAt g (k + 1) (c.make x) x ∧ g.mg x = some (.ref (g.cl x))
  bl : ∀ x ∈ T.blt, g.mg x = none
  co : ∀ p ∈ T.cons, ∃ v u, g.mg p.1 = some u ∧ RelV v u ∧ ∀ ρ H, RD g ρ H p.2 v
  cb : T.comb = true → g.mg "combinations" = some (.type Cmb.cn)
  at_ : AttOk g c.att
  st : ∀ X, XOk g (k + 1) X → SetRules g X
section
variable {g : GC} {k : Nat} {c : Cl} {T : Tab} {N : List Str} {X : Cx} {sc fs : Scope}
theorem Cxo.gl (C : Cxo g k N sc fs X) {x : Str} (h : isG sc x = true) : Gl X x := by
  have h := of_decide_eq_true h
  show X.env.scope.names.lookup x = _
  rw [C.hs]
  exact h
theorem Cxo.vis (C : Cxo g k N sc fs X) {x : Str} (h : isV sc x = true) : Vis X.env.scope x := by
  unfold isV at h
  rw [Bool.or_eq_true, Bool.or_eq_true, decide_eq_true_eq, decide_eq_true_eq, decide_eq_true_eq] at h
  unfold Vis
  rw [C.hs]
  rcases h with (h | h) | h
  · exact .inl h
  · exact .inr (.inl h)
  · exact .inr (.inr h)
theorem Cxo.loc (C : Cxo g k N sc fs X) {x : Str} (h : isL sc fs x = true) : L2.Loc X.env.scope x ∧ (X.fn x = true ∨ X.env.scope.names.lookup x = some .local) := by
  unfold isL at h
  rw [Bool.or_eq_true, Bool.and_eq_true, decide_eq_true_eq, decide_eq_true_eq, decide_eq_true_eq] at h
  unfold L2.Loc
  rw [C.hs]
  rcases h with h | ⟨h1, h2⟩
  · exact ⟨.inl h, .inr h⟩
  · exact ⟨.inr h1, .inl (C.hf x h2)⟩
theorem okN_ok {x : Str} (h : okN x = true) : (x == ("__debug__" : Str)) = false ∧ (x == ("__classdict__" : Str)) = false := by
  unfold okN at h
  rw [Bool.and_eq_true, Bool.not_eq_true', Bool.not_eq_true'] at h
  exact h
theorem Cxo.blt (C : Cxo g k N sc fs X) (tb : TabOk g k c T) {x : Str} (h : bltC T sc x = true) : Gl X x ∧ X.mg x = none := by
  unfold bltC at h
  rw [Bool.and_eq_true, decide_eq_true_eq] at h
  exact ⟨C.gl h.1, by rw [C.x.hm]; exact tb.bl x h.2⟩
theorem ckL_ok {ck : Expr → Ex → Bool} (hck : ∀ e i, ck e i = true → PE X e (tE g c i)) : ∀ {es : List Expr} {is : List Ex}, ckL ck es is = true → PA X es (tEs g c is) ∧ (∀ e ∈ es, plainE e = true) ∧ es.length = is.length
  | [], [], _ => ⟨sa_nil, fun _ h => (by cases h), rfl⟩
  | e :: es, i :: is, h => by
    unfold ckL at h
    rw [Bool.and_eq_true, Bool.and_eq_true] at h
    obtain ⟨h1, h2, h3⟩ := ckL_ok hck h.2
    exact ⟨sa_cons h.1.1 (hck e i h.1.2) h1, fun x hx => (List.mem_cons.mp hx).elim (fun z => z ▸ h.1.1) (h2 x), by rw [List.length_cons, List.length_cons, h3]⟩
  | [], _ :: _, h => by simp [ckL] at h
  | _ :: _, [], h => by simp [ckL] at h
theorem ckK_ok {ck : Expr → Ex → Bool} (hck : ∀ e i, ck e i = true → PE X e (tE g c i)) : ∀ {kws : List Keyword} {ks : List Str} {is : List Ex}, ckK ck kws ks is = true → PK X kws (tEs g c is) ∧ kws.map (·.arg) = ks.map some
  | [], [], [], _ => ⟨sk_nil, rfl⟩
  | ⟨n, e, p⟩ :: kws, m :: ms, i :: is, h => by
    unfold ckK at h
    rw [Bool.and_eq_true, Bool.and_eq_true, decide_eq_true_eq] at h
    obtain ⟨⟨rfl, h1⟩, h2⟩ := h
    obtain ⟨h3, h4⟩ := ckK_ok hck h2
    exact ⟨sk_cons (hck e i h1) h3, by rw [List.map_cons, List.map_cons, h4]⟩
  | [], [], _ :: _, h | [], _ :: _, _, h | _ :: _, [], _, h | _ :: _, _ :: _, [], h => by simp [ckK] at h
theorem ckO_ok {ck : Expr → Ex → Bool} (hck : ∀ e i, ck e i = true → PE X e (tE g c i)) {e : Option Expr} {i : Option Ex} (h : ckO ck e i = true) : PO X e (tO g c i) := by
  cases e with
  | none => cases i with
    | none => exact so_none
    | some i => cases h
  | some e => cases i with
    | none => cases h
    | some i => exact so_some (hck e i h)
theorem ckT_ok (C : Cxo g k N sc fs X) : ∀ (n : Nat) (e : Expr) (t : Tg), ckT N sc fs n e t = true → PG X e (tT g t)
  | 0, _, _, h => by unfold ckT at h; cases h
  | n + 1, e, .nm j, h => by
    unfold ckT at h
    split at h
    · rename_i x p
      rw [Bool.and_eq_true, decide_eq_true_eq] at h
      obtain ⟨h1, h2⟩ := C.loc h.2
      exact g_nm C.x (by rw [C.hN]; exact h.1) h1 h2
    · cases h
  | n + 1, e, .tp ts, h => by
    unfold ckT at h
    split at h
    · rename_i es kk p
      rw [Bool.and_eq_true, Bool.and_eq_true, decide_eq_true_eq, List.all_eq_true] at h
      obtain ⟨⟨h1, h2⟩, h3⟩ := h
      refine g_tp C.x h2 h1 ?_
      have go : ∀ (es : List Expr) (ts : List Tg), es.length = ts.length → (∀ e ∈ es, plainG e = true) → ((es.zip ts).all fun p => ckT N sc fs n p.1 p.2) = true → PGs X es (tTs g ts) := by
        intro es
        induction es with
        | nil =>
          intro ts hl _ _
          cases ts with
          | nil => exact gs_nil
          | cons _ _ => cases hl
        | cons e es ih =>
          intro ts hl hp ha
          cases ts with
          | nil => cases hl
          | cons t ts =>
            rw [List.zip_cons_cons, List.all_cons, Bool.and_eq_true] at ha
            exact gs_cons (hp e List.mem_cons_self) (ckT_ok C n e t ha.1) (ih ts (by simpa using hl) (fun e he => hp e (List.mem_cons_of_mem _ he)) ha.2)
      exact go es ts h1 h2 h3
    · cases h
theorem ckI_ok (C : Cxo g k N sc fs X) (tb : TabOk g k c T) {ck : Expr → Ex → Bool} (hck : ∀ e i, ck e i = true → PE X e (tE g c i)) {tg iter : Expr} {src : Nat} {it : List Ex} (h : ckI ck T sc tg iter src it = true) : PI X tg iter (tI g c src it) := by
  unfold ckI at h
  split at h
  · exact i_seq C.x (hck _ _ h)
  · split at h
    · rename_i a _ x p e pos
      rw [Bool.and_eq_true, Bool.and_eq_true, Bool.and_eq_true, decide_eq_true_eq] at h
      obtain ⟨⟨⟨rfl, h2⟩, h3⟩, h4⟩ := h
      obtain ⟨b1, b2⟩ := C.blt tb h2
      exact i_range1 b1 b2 h3 (sa_cons h3 (hck _ _ h4) sa_nil)
    · cases h
  · split at h
    · rename_i a b _ x p e e2 pos
      rw [Bool.and_eq_true, Bool.and_eq_true, Bool.and_eq_true, Bool.and_eq_true, Bool.and_eq_true, decide_eq_true_eq] at h
      obtain ⟨⟨⟨⟨⟨rfl, h2⟩, h3⟩, h4⟩, h5⟩, h6⟩ := h
      obtain ⟨b1, b2⟩ := C.blt tb h2
      exact i_range2 b1 b2 h3 h5 (sa_cons h3 (hck _ _ h4) (sa_cons h5 (hck _ _ h6) sa_nil))
    · cases h
  · split at h
    · rename_i a _ _ x p e pos es kk tp
      rw [Bool.and_eq_true, Bool.and_eq_true, Bool.and_eq_true, decide_eq_true_eq] at h
      obtain ⟨⟨⟨rfl, h2⟩, h3⟩, h4⟩ := h
      obtain ⟨b1, b2⟩ := C.blt tb h2
      exact i_enum C.x b1 b2 h3 (sa_cons h3 (hck _ _ h4) sa_nil)
    · cases h
  · split at h
    · rename_i a b _ _ x p e e2 pos es kk tp
      rw [Bool.and_eq_true, Bool.and_eq_true, Bool.and_eq_true, Bool.and_eq_true, Bool.and_eq_true, decide_eq_true_eq] at h
      obtain ⟨⟨⟨⟨⟨rfl, h2⟩, h3⟩, h4⟩, h5⟩, h6⟩ := h
      obtain ⟨b1, b2⟩ := C.blt tb h2
      exact i_zip C.x b1 b2 h3 h5 (sa_cons h3 (hck _ _ h4) (sa_cons h5 (hck _ _ h6) sa_nil))
    · cases h
  · split at h
    · rename_i a b _ x p e e2 pos
      rw [Bool.and_eq_true, Bool.and_eq_true, Bool.and_eq_true, Bool.and_eq_true, Bool.and_eq_true, Bool.and_eq_true, decide_eq_true_eq] at h
      obtain ⟨⟨⟨⟨⟨⟨rfl, h1⟩, h2⟩, h3⟩, h4⟩, h5⟩, h6⟩ := h
      exact i_comb C.x (C.gl h2) (by rw [C.x.hm]; exact tb.cb h1) h3 h5 (sa_cons h3 (hck _ _ h4) (sa_cons h5 (hck _ _ h6) sa_nil))
    · cases h
  · cases h
theorem relS_kind (scope sc : Scope) : (relS scope sc).kind = scope.kind := rfl
theorem Cxo.blk (C : Cxo g k N sc fs X) {scope : Scope} {own : List (Str × Nat)} (ok : BlkOk N sc scope own) (s : Shared) (H : Hp) (Ca : Addr) (cl : List (Str × Addr)) (fp : List Addr) : Cxo g k N (relS scope sc) scope (X.blk s H scope (compEnvC scope cl Ca X.env) fp) := by
  refine ⟨C.x.blk s H scope _ fp, C.hN, ?_, ok.kind, fun y hy => ?_⟩
  · have := C.hs
    subst this
    rfl
  · show (scope.names.lookup y == some .cell) = true
    have hy : scope.names.lookup y = some .cell := hy
    rw [hy]
    rfl
end
end MP
end
section
set_option Elab.async false
set_option linter.all false
set_option maxRecDepth 100000
set_option maxHeartbeats 4000000
/-! MPu: expressions that are checked. -/
namespace MP
open PySem PySem.Spec PyProof.Rows L2
section
variable {g : GC} {k : Nat} {c : Cl} {T : Tab} {N : List Str}
/-- what the check at n gives -/
structure EOk (g : GC) (k : Nat) (c : Cl) (T : Tab) (N : List Str) (n : Nat) : Prop where
  pe : ∀ {X : Cx} {sc fs : Scope} {e : Expr} {i : Ex}, Cxo g k N sc fs X → ckE T N n sc e i = true → PE X e (tE g c i)
  pt : ∀ {X : Cx} {sc fs : Scope} {e : Expr} {i : Ex} {m : Nat}, Cxo g k N sc fs X → ckE T N n sc e i = true → tst m e = true → PT X e (tB g c i)
  ea : ∀ {X : Cx} {sc fs : Scope} {y : Expr} {r : List Expr} {p : Pos} {b : Ex}, Cxo g k N sc fs X → ckE.ckAnd T N n sc y r p b = true → PE X (.BoolOp .And (y :: r) p) (tE g c b)
  eo : ∀ {X : Cx} {sc fs : Scope} {y : Expr} {r : List Expr} {p : Pos} {b : Ex}, Cxo g k N sc fs X → ckE.ckOr T N n sc y r p b = true → PE X (.BoolOp .Or (y :: r) p) (tE g c b)
  wa : ∀ {X : Cx} {sc fs : Scope} {y : Expr} {r : List Expr} {p : Pos} {b : Ex} {m : Nat}, Cxo g k N sc fs X → ckE.ckAnd T N n sc y r p b = true → (∀ e ∈ y :: r, tst m e = true) → PW X (.BoolOp .And (y :: r) p) (tB g c b)
  wo : ∀ {X : Cx} {sc fs : Scope} {y : Expr} {r : List Expr} {p : Pos} {b : Ex} {m : Nat}, Cxo g k N sc fs X → ckE.ckOr T N n sc y r p b = true → (∀ e ∈ y :: r, tst m e = true) → PW X (.BoolOp .Or (y :: r) p) (tB g c b)
  va : ∀ {X : Cx} {sc fs : Scope} {y z : Expr} {r : List Expr} {p : Pos} {b : Ex} {m : Nat}, Cxo g k N sc fs X → ckE T N n sc (.BoolOp .And (y :: z :: r) p) b = true → (∀ e ∈ y :: z :: r, tst m e = true) → PW X (.BoolOp .And (y :: z :: r) p) (tB g c b)
  vo : ∀ {X : Cx} {sc fs : Scope} {y z : Expr} {r : List Expr} {p : Pos} {b : Ex} {m : Nat}, Cxo g k N sc fs X → ckE T N n sc (.BoolOp .Or (y :: z :: r) p) b = true → (∀ e ∈ y :: z :: r, tst m e = true) → PW X (.BoolOp .Or (y :: z :: r) p) (tB g c b)
def isPl : Expr → Prop
  | .IfExp _ _ _ _ => False
  | .BoolOp _ _ _ => False
  | .UnaryOp .Not _ _ => False
  | .Compare _ _ _ _ => False
  | _ => True
theorem tst_is {X : Cx} {e : Expr} (h : isPl e) : ∀ whole, isTrue e X.env whole = (do let v ← whole; standAt e.pos; holding [v] (truthy v)) := by
  intro whole
  cases e <;> first
    | rfl
    | exact h.elim
    | (rename_i op a p; cases op <;> first | rfl | exact h.elim)
theorem ckC_ok {n : Nat} (E : EOk g k c T N n) (tb : TabOk g k c T) {X : Cx} {sc fs : Scope} (C : Cxo g k N sc fs X) {elt : Expr} {cs : List Comprehension} {scope : Scope} {ie : Ex} {t : Tg} {src : Nat} {it ics : List Ex} {own : List Nat} (h : ckC (ckE T N n) T N n sc elt cs scope ie t src it ics own = true) :
    ∃ tge iter ifs, cs = [⟨tge, iter, ifs, 0⟩] ∧ BlkOk X.N X.env.scope scope (ownN N own) ∧ (∀ i ∈ tgs t, i ∈ (ownN N own).map (·.2)) ∧ plainE iter = true ∧ PI X tge iter (tI g c src it) ∧
      (∀ (s : Shared) (H : Hp) (Ca : Addr) (cl : List (Str × Addr)) (fp : List Addr), PG (X.blk s H scope (compEnvC scope cl Ca X.env) fp) tge (tT g t)) ∧ (∀ (s : Shared) (H : Hp) (Ca : Addr) (cl : List (Str × Addr)) (fp : List Addr), PTs (X.blk s H scope (compEnvC scope cl Ca X.env) fp) ifs (tTI g c ics)) ∧
      (∀ (s : Shared) (H : Hp) (Ca : Addr) (cl : List (Str × Addr)) (fp : List Addr), PE (X.blk s H scope (compEnvC scope cl Ca X.env) fp) elt (tE g c ie)) := by
  unfold ckC at h
  split at h
  · rename_i tg iter ifs as
    simp only [Bool.and_eq_true, decide_eq_true_eq, List.all_eq_true] at h
    obtain ⟨⟨⟨⟨⟨⟨⟨rfl, h2⟩, h3⟩, h4⟩, h5⟩, h6⟩, h7⟩, h8⟩ := h
    have ok := blkOk_by h2
    refine ⟨tg, iter, ifs, rfl, by rw [C.hN, C.hs]; exact ok, fun i hi => by rw [ownN_ix]; exact h4 i hi, h5, ckI_ok C tb (fun e i hh => E.pe C hh) h6, fun s H Ca cl fp => ckT_ok (C.blk ok s H Ca cl fp) n tg t h3, fun s H Ca cl fp => ?_, fun s H Ca cl fp => E.pe (C.blk ok s H Ca cl fp) h7⟩
    split at h8
    · exact ts_nil
    · unfold ckB at h8
      rw [Bool.and_eq_true] at h8
      exact ts_one (E.pt (C.blk ok s H Ca cl fp) h8.1 h8.2)
    · cases h8
  · cases h
theorem peS {n : Nat} (E : EOk g k c T N n) (tb : TabOk g k c T) {X : Cx} {sc fs : Scope} {e : Expr} {i : Ex} (C : Cxo g k N sc fs X) (h : ckE T N (n + 1) sc e i = true) : PE X e (tE g c i) := by
  have ck : ∀ e i, ckE T N n sc e i = true → PE X e (tE g c i) := fun e i hh => E.pe C hh
  have x := C.x
  unfold ckE at h
  cases i with
  | var j =>
    simp only at h
    split at h
    · simp only [Bool.and_eq_true, decide_eq_true_eq] at h
      obtain ⟨⟨h1, h2⟩, h3⟩ := h
      exact s_var j (by rw [C.hN]; exact h1) (C.vis h2) (okN_ok h3).1 (okN_ok h3).2
    · cases h
  | lit d =>
    simp only at h
    split at h
    · simp only [Bool.and_eq_true, List.any_eq_true, decide_eq_true_eq] at h
      obtain ⟨⟨h1, h2⟩, p, hp, e1, e2⟩ := h
      obtain ⟨v, u, m1, m2, m3⟩ := tb.co p hp
      rw [e1] at m1
      rw [e2] at m3
      exact s_con (C.gl h1) (by rw [x.hm]; exact m1) m2 m3 (okN_ok h2).1
    · split at h
      · exact s_non
      · rw [eq_of_beq h]; exact s_bl
      · rw [of_decide_eq_true h]; exact s_int
      · rw [of_decide_eq_true h]; exact s_str
      · cases h
    · cases h
  | tup is =>
    simp only at h
    split at h
    · rw [Bool.and_eq_true, decide_eq_true_eq] at h
      exact s_tup h.1 (ckL_ok ck h.2).1
    · cases h
  | lst b is =>
    simp only at h
    split at h
    · rw [Bool.and_eq_true, decide_eq_true_eq] at h
      exact s_lst h.1 (ckL_ok ck h.2).1
    · cases h
  | dct ks vs =>
    simp only at h
    split at h
    · exact s_dct
    · cases h
  | bin op a b =>
    simp only at h
    split at h
    · simp only [Bool.and_eq_true, decide_eq_true_eq] at h
      obtain ⟨⟨h1, h2⟩, h3⟩ := h
      rw [unB_ok h1]
      exact s_bin x (tb.st X x) (ck _ _ h2) (ck _ _ h3)
    · cases h
  | neg a =>
    simp only at h
    split at h
    · exact s_neg (ck _ _ h)
    · cases h
  | cmp op a b =>
    simp only at h
    split at h
    · rename_i x1 o y p
      simp only [Bool.and_eq_true, decide_eq_true_eq] at h
      obtain ⟨⟨⟨h1, h2⟩, h3⟩, h4⟩ := h
      rw [unC_ok o, h1]
      exact s_cmp x h2 (ck _ _ h3) (ck _ _ h4)
    · cases h
  | cmp2 op op2 a b d =>
    simp only at h
    split at h
    · rename_i x1 o o2 y z p
      simp only [Bool.and_eq_true, decide_eq_true_eq] at h
      obtain ⟨⟨⟨⟨⟨h1, h2⟩, h3⟩, h4⟩, h5⟩, h6⟩ := h
      rw [unC_ok o, h1, unC_ok o2, h2]
      exact s_cmp2 x h3 (ck _ _ h4) (ck _ _ h5) (ck _ _ h6)
    · cases h
  | and a b =>
    simp only at h
    split at h
    · rw [Bool.and_eq_true] at h
      exact s_and (ck _ _ h.1) (E.ea C h.2)
    · cases h
  | or a b =>
    simp only at h
    split at h
    · rw [Bool.and_eq_true] at h
      exact s_or (ck _ _ h.1) (E.eo C h.2)
    · cases h
  | not a =>
    simp only at h
    split at h
    · exact s_not (ck _ _ h)
    · cases h
  | ite t a b =>
    simp only at h
    split at h
    · unfold ckB at h
      simp only [Bool.and_eq_true] at h
      obtain ⟨⟨⟨h1, h2⟩, h3⟩, h4⟩ := h
      exact s_ite (E.pt C h1 h2) (ck _ _ h3) (ck _ _ h4)
    · cases h
  | idx a b =>
    simp only at h
    split at h
    · simp only [Bool.and_eq_true] at h
      obtain ⟨⟨h1, h2⟩, h3⟩ := h
      exact s_idx x h1 (ck _ _ h2) (ck _ _ h3)
    · cases h
  | sl a lo hi =>
    simp only at h
    split at h
    · simp only [Bool.and_eq_true] at h
      obtain ⟨⟨h1, h2⟩, h3⟩ := h
      exact s_sl x (ck _ _ h1) (ckO_ok ck h2) (ckO_ok ck h3)
    · cases h
  | isi a t =>
    simp only at h
    split at h
    · simp only [Bool.and_eq_true, decide_eq_true_eq] at h
      obtain ⟨⟨⟨⟨⟨rfl, h2⟩, rfl⟩, h4⟩, h5⟩, h6⟩ := h
      obtain ⟨b1, b2⟩ := C.blt tb h2
      obtain ⟨b3, b4⟩ := C.blt tb h4
      exact s_isi x t b1 b2 b3 b4 h5 (ck _ _ h6)
    · cases h
  | bf f is =>
    simp only at h
    split at h
    · simp only [Bool.and_eq_true, decide_eq_true_eq] at h
      obtain ⟨⟨rfl, h2⟩, h3⟩ := h
      obtain ⟨b1, b2⟩ := C.blt tb h2
      obtain ⟨l1, l2, _⟩ := ckL_ok ck h3
      exact s_bf x (tb.st X x) f b1 b2 l2 l1
    · cases h
  | mt m o is =>
    simp only at h
    split at h
    · rename_i x1 y ap es cp
      simp only [Bool.and_eq_true, decide_eq_true_eq] at h
      obtain ⟨⟨⟨⟨⟨rfl, h2⟩, h3⟩, h4⟩, h5⟩, h6⟩ := h
      obtain ⟨l1, l2, l3⟩ := ckL_ok ck h6
      cases es with
      | nil =>
        cases is with
        | nil => exact s_mt0 x m h2 h3 (ck _ _ h5)
        | cons _ _ => cases l3
      | cons e es => exact s_mt x m h2 h3 l2 h4 (ck _ _ h5) l1
    · cases h
  | fld o f =>
    simp only at h
    split at h
    · simp only [Bool.and_eq_true, decide_eq_true_eq] at h
      obtain ⟨⟨rfl, h2⟩, h3⟩ := h
      exact s_fld x tb.at_ h2 (ck _ _ h3)
    · cases h
  | call f is =>
    simp only at h
    split at h
    · rename_i y p es cp
      simp only [Bool.and_eq_true, decide_eq_true_eq, List.any_eq_true] at h
      obtain ⟨⟨⟨⟨rfl, h2⟩, h3⟩, q, hq, e1⟩, h5⟩ := h
      obtain ⟨a, F, m1, m2⟩ := tb.fn q hq
      rw [e1] at F m1
      obtain ⟨l1, l2, l3⟩ := ckL_ok ck h5
      cases es with
      | nil =>
        cases is with
        | nil => exact s_call0 x F (C.gl h2) m1 m2 (okN_ok h3).1
        | cons _ _ => cases l3
      | cons e es => exact s_call x F (C.gl h2) m1 m2 (okN_ok h3).1 l2 l1
    · cases h
  | callk f is zs pm =>
    simp only at h
    split at h
    · rename_i y p es kws cp
      simp only [Bool.and_eq_true, decide_eq_true_eq, List.any_eq_true] at h
      obtain ⟨⟨⟨⟨⟨rfl, h2⟩, h3⟩, q, hq, ⟨⟨⟨e1, e2⟩, e3⟩, e4⟩, e5⟩, h4⟩, h5⟩ := h
      obtain ⟨a, F, m1, m2⟩ := tb.kw q hq
      rw [e1, e2, e3] at F
      rw [e1] at m1
      obtain ⟨l1, l2, l3⟩ := ckL_ok ck h5
      obtain ⟨k1, k2⟩ := ckK_ok ck e5
      exact s_callk x F (C.gl h2) m1 m2 (okN_ok h3).1 l2 k2 h4 rfl e4 l1 k1
    · cases h
  | meth cl m q o is =>
    simp only at h
    split at h
    · rename_i x1 y ap es cp
      simp only [Bool.and_eq_true, decide_eq_true_eq, List.any_eq_true] at h
      obtain ⟨⟨⟨⟨⟨⟨rfl, z, hz, rfl⟩, h2⟩, h3⟩, h4⟩, h5⟩, h6⟩ := h
      obtain ⟨a, ps, F, m1, m2⟩ := tb.mt _ hz
      obtain ⟨l1, l2, l3⟩ := ckL_ok ck h6
      cases es with
      | nil =>
        cases is with
        | nil => exact s_meth0 x F m1 m2 h2 h3 (ck _ _ h5)
        | cons _ _ => cases l3
      | cons e es => exact s_meth x F m1 m2 h2 h3 (ck _ _ h5) l2 h4 l1
    · cases h
  | mk cl is =>
    simp only at h
    split at h
    · rename_i y p es cp
      simp only [Bool.and_eq_true, decide_eq_true_eq] at h
      obtain ⟨⟨⟨⟨rfl, h2⟩, h3⟩, h4⟩, h5⟩ := h
      obtain ⟨M, m1⟩ := tb.mc _ h4
      obtain ⟨l1, l2, l3⟩ := ckL_ok ck h5
      cases es with
      | nil =>
        cases is with
        | nil => exact s_mk0 x M (C.gl h2) m1 (okN_ok h3).1
        | cons _ _ => cases l3
      | cons e es => exact s_mk x M (C.gl h2) m1 (okN_ok h3).1 l2 l1
    · cases h
  | comp bx ie t src it ics own =>
    simp only at h
    split at h
    · obtain ⟨tge, iter, ifs, rfl, ok, hw, hp, hi, h1, h2, h3⟩ := ckC_ok E tb C h
      have := s_comp x (bx := bx) hi ok h1 h2 h3 hp hw (pos := ‹Pos›)
      rw [ownN_ix] at this
      exact this
    · cases h
  | rg tl is =>
    simp only at h
    split at h
    · rename_i y p1 z p2 es p3 p4
      simp only [Bool.and_eq_true, decide_eq_true_eq] at h
      obtain ⟨⟨⟨⟨h1, h2⟩, h3⟩, h4⟩, h5⟩ := h
      obtain ⟨b1, b2⟩ := C.blt tb h2
      obtain ⟨b3, b4⟩ := C.blt tb h4
      subst h3
      split at h5
      · rw [Bool.and_eq_true] at h5
        exact s_rg1 x tl h1 b1 b2 b3 b4 h5.1 (ck _ _ h5.2)
      · simp only [Bool.and_eq_true] at h5
        obtain ⟨⟨⟨h6, h7⟩, h8⟩, h9⟩ := h5
        exact s_rg2 x tl h1 b1 b2 b3 b4 h6 h8 (ck _ _ h7) (ck _ _ h9)
      · cases h5
    · cases h
theorem eOk (tb : TabOk g k c T) : ∀ n, EOk g k c T N n
  | 0 => by
    constructor
    all_goals intros
    all_goals (rename_i h; first | (unfold ckE at h; cases h; done) | (unfold ckE.ckAnd at h; cases h; done) | (unfold ckE.ckOr at h; cases h; done) | skip)
    all_goals (rename_i h2; first | (unfold ckE at h2; cases h2; done) | (unfold ckE.ckAnd at h2; cases h2; done) | (unfold ckE.ckOr at h2; cases h2; done))
  | n + 1 => by
    have E := eOk tb n
    refine ⟨fun C h => peS E tb C h, fun {X sc fs e i m} C h ht => ?_, fun {X sc fs y r p b} C h => ?_, fun {X sc fs y r p b} C h => ?_, fun {X sc fs y r p b m} C h ht => ?_, fun {X sc fs y r p b m} C h ht => ?_, fun {X sc fs y z r p b m} C h ht => ?_, fun {X sc fs y z r p b m} C h ht => ?_⟩
    · cases m with
      | zero => unfold tst at ht; cases ht
      | succ m =>
        have hPE := peS E tb C h
        have plain : isPl e → PT X e (tB g c i) := fun z => st_val hPE (tst_is z)
        unfold tst at ht
        split at ht
        · cases ht
        · rename_i op es p
          rw [List.all_eq_true] at ht
          unfold ckE at h
          cases i <;> simp only [Bool.false_eq_true] at h
          · split at h
            · rename_i a b x y r p' e1
              cases e1
              rw [Bool.and_eq_true] at h
              exact (sw_and (E.pt C h.1 (ht _ List.mem_cons_self)) (E.wa C h.2 fun e he => ht e (List.mem_cons_of_mem _ he))).pt
            · cases h
          · split at h
            · rename_i a b x y r p' e1
              cases e1
              rw [Bool.and_eq_true] at h
              exact (sw_or (E.pt C h.1 (ht _ List.mem_cons_self)) (E.wo C h.2 fun e he => ht e (List.mem_cons_of_mem _ he))).pt
            · cases h
        · rename_i a p
          unfold ckE at h
          cases i <;> simp only [Bool.false_eq_true] at h
          exact st_not (E.pt C h ht)
        · rename_i n1 n2 n3
          cases e with
          | IfExp a b d p => exact (n1 _ _ _ _ rfl).elim
          | BoolOp op es p => exact (n2 _ _ _ rfl).elim
          | UnaryOp op a p =>
            cases op with
            | Not => exact (n3 _ _ rfl).elim
            | _ => exact plain trivial
          | Compare a ops bs p =>
            unfold ckE at h
            cases i <;> simp only [Bool.false_eq_true] at h
            · split at h
              · rename_i x1 o y p' e1
                cases e1
                simp only [Bool.and_eq_true, decide_eq_true_eq] at h
                obtain ⟨⟨⟨h1, h2⟩, h3⟩, h4⟩ := h
                rw [unC_ok o, h1]
                exact st_cmp C.x h2 (E.pe C h3) (E.pe C h4)
              · cases h
            · split at h
              · rename_i x1 o o2 y z p' e1
                cases e1
                simp only [Bool.and_eq_true, decide_eq_true_eq] at h
                obtain ⟨⟨⟨⟨⟨h1, h2⟩, h3⟩, h4⟩, h5⟩, h6⟩ := h
                rw [unC_ok o, h1, unC_ok o2, h2]
                exact st_cmp2 C.x h3 (E.pe C h4) (E.pe C h5) (E.pe C h6)
              · cases h
          | _ => exact plain trivial
    · cases r with
      | nil => unfold ckE.ckAnd at h; exact s_and1 (E.pe C h)
      | cons z r => unfold ckE.ckAnd at h; exact E.pe C h
    · cases r with
      | nil => unfold ckE.ckOr at h; exact s_and1 (E.pe C h)
      | cons z r => unfold ckE.ckOr at h; exact E.pe C h
    · cases r with
      | nil => unfold ckE.ckAnd at h; exact sw_and1 (E.pt C h (ht _ List.mem_cons_self))
      | cons z r => unfold ckE.ckAnd at h; exact E.va C h ht
    · cases r with
      | nil => unfold ckE.ckOr at h; exact sw_or1 (E.pt C h (ht _ List.mem_cons_self))
      | cons z r => unfold ckE.ckOr at h; exact E.vo C h ht
    · unfold ckE at h
      cases b <;> first
        | (simp only at h; cases h; done)
        | (simp only [Bool.false_eq_true] at h; done)
        | skip
      simp only [Bool.and_eq_true] at h
      exact sw_and (E.pt C h.1 (ht _ List.mem_cons_self)) (E.wa C h.2 fun e he => ht e (List.mem_cons_of_mem _ he))
    · unfold ckE at h
      cases b <;> first
        | (simp only at h; cases h; done)
        | (simp only [Bool.false_eq_true] at h; done)
        | skip
      simp only [Bool.and_eq_true] at h
      exact sw_or (E.pt C h.1 (ht _ List.mem_cons_self)) (E.wo C h.2 fun e he => ht e (List.mem_cons_of_mem _ he))
end
end MP
end
section
set_option Elab.async false
set_option linter.all false
set_option maxRecDepth 100000
set_option maxHeartbeats 4000000
/-! MPv: statements that are checked. -/
namespace MP
open PySem PySem.Spec PyProof.Rows L2
def dumE (sc : Scope) : PySem.Env := { scope := sc, locals := 0, globals := 0, cells := [] }
theorem sw_scope (ts : List Expr) (v : Expr) {e1 e2 : PySem.Env} (h : e1.scope = e2.scope) : swappedStores ts v e1 = swappedStores ts v e2 := by
  have h1 : e1.blockKind = e2.blockKind := by unfold Env.blockKind; rw [h]
  have h2 : e1.kindOf = e2.kindOf := by funext x; show e1.scope.names.lookup x = e2.scope.names.lookup x; rw [h]
  unfold swappedStores
  simp only [h1, h2]
def swR (sc : Scope) (tg v : Expr) : Option (Option (List Str)) := match swappedStores [tg] v (dumE sc) with
  | .pure r => some r
  | _ => none
theorem swR_ok {sc : Scope} {tg v : Expr} {r : Option (List Str)} (h : swR sc tg v = some r) {env : PySem.Env} (he : env.scope = sc) : swappedStores [tg] v env = pure r := by
  rw [sw_scope [tg] v (e2 := dumE sc) he]
  unfold swR at h
  split at h
  · rename_i r' e
    cases h
    exact e
  · cases h
def isNm : Tg → Bool
  | .nm _ => true
  | _ => false
theorem nms : ∀ {ts : List Tg}, ts.all isNm = true → (tgss ts).map Tg.nm = ts
  | [], _ => rfl
  | .nm i :: ts, h => by
    rw [List.all_cons, Bool.and_eq_true] at h
    show Tg.nm i :: (tgss ts).map Tg.nm = _
    rw [nms h.2]
  | .tp _ :: ts, h => by simp [isNm] at h
def ckBl (ck : Stmt → St → Bool) : List Stmt → List St → Bool
  | [], [] => true
  | s :: ss, i :: is => ck s i && ckBl ck ss is
  | _, _ => false
def ckS (T : Tab) (N : List Str) : Nat → Scope → Stmt → St → Bool
  | 0, _, _, _ => false
  | n + 1, sc, s, i => match i with
    | .set t ie => match s with
      | .Assign [tg] v _ => match v with
        | .ListComp elt cs scope q => match tg, t, ie with
          | .Name y py, .nm j, .comp bx e2 t2 src it ics own => (decide (lkN sc y = some .cell) && ckT N sc sc n (.Name y py) (.nm j) && ckE T N n sc (.ListComp elt cs scope q) (.comp bx e2 t2 src it ics own)) || decide (N[j]? = some y) && decide (lkN sc y = some .local) && (py.line == q.line) && !(scope.names.any fun (n, k) => n == y && (k == .local || k == .cell)) && ckC (ckE T N n) T N n sc elt cs scope e2 t2 src it ics own
          | _, _, _ => false
        | _ => match swR sc tg v with
          | some none => notLc v && plainG tg && ckT N sc sc n tg t && ckE T N n sc v ie
          | some (some names) => match tg, v, t, ie with
            | .Tuple _ _ _, .Tuple vs _ _, .tp ts, .tup as => ts.all isNm && decide (names.length = (tgss ts).length) && decide (tgss ts).Nodup && decide (as.length ≤ 1000) && ((names.zip (tgss ts)).all fun p => decide (N[p.2]? = some p.1) && decide (lkN sc p.1 = some .local)) && ckL (ckE T N n sc) vs as
            | _, _, _, _ => false
          | none => false
      | _ => false
    | .setI io ii ie => match s with
      | .Assign [.Subscript o j _] e _ => notLc e && plainE j && ckE T N n sc o io && ckE T N n sc j ii && ckE T N n sc e ie
      | _ => false
    | .setF io f ie => match s with
      | .Assign [.Attribute o y _] e _ => decide (y = f) && notLc e && ckE T N n sc o io && ckE T N n sc e ie
      | _ => false
    | .ex ie => match s with
      | .Expr e _ => notLc e && ckE T N n sc e ie
      | _ => false
    | .ret ie => match s with
      | .Return (some e) _ => ckE T N n sc e ie
      | _ => false
    | .retN => match s with
      | .Return none _ => true
      | _ => false
    | .ite ie a b => match s with
      | .If e x y _ => ckB (ckE T N n sc) n e ie && ckBl (ckS T N n sc) x a && ckBl (ckS T N n sc) y b
      | _ => false
    | .for_ t src it b => match s with
      | .For tg iter body [] _ => plainE iter && ckI (ckE T N n sc) T sc tg iter src it && ckT N sc sc n tg t && ckBl (ckS T N n sc) body b
      | _ => false
    | .whl ie b => match s with
      | .While e body [] _ => ckB (ckE T N n sc) n e ie && ckBl (ckS T N n sc) body b
      | _ => false
    | .brk => match s with
      | .Break _ => true
      | _ => false
    | .cont => match s with
      | .Continue _ => true
      | _ => false
    | .pass => match s with
      | .Pass _ => true
      | .Expr (.Constant (.str _) _ _) _ => true
      | _ => false
section
variable {g : GC} {k : Nat} {c : Cl} {T : Tab} {N : List Str} {X : Cx} {sc : Scope}
theorem ckBl_ok {ck : Stmt → St → Bool} (hck : ∀ s i, ck s i = true → PS X s (tS g c i)) : ∀ {ss : List Stmt} {is : List St}, ckBl ck ss is = true → PSs X ss (tSs g c is)
  | [], [], _ => b_nil
  | s :: ss, i :: is, h => by
    unfold ckBl at h
    rw [Bool.and_eq_true] at h
    exact b_cons (hck s i h.1) (ckBl_ok hck h.2)
  | [], _ :: _, h => by simp [ckBl] at h
  | _ :: _, [], h => by simp [ckBl] at h
theorem sOk (tb : TabOk g k c T) (C : Cxo g k N sc sc X) (own : PassesOwn (model X.prog X.w) X.A X.env X.xe) : ∀ (n : Nat) (s : Stmt) (i : St), ckS T N n sc s i = true → PS X s (tS g c i)
  | 0, _, _, h => by unfold ckS at h; cases h
  | n + 1, s, i, h => by
    have E := eOk (N := N) tb n
    have ck : ∀ e i, ckE T N n sc e i = true → PE X e (tE g c i) := fun e i hh => E.pe C hh
    have ih : ∀ {ss : List Stmt} {is : List St}, ckBl (ckS T N n sc) ss is = true → PSs X ss (tSs g c is) := fun hh => ckBl_ok (fun s i h => sOk tb C own n s i h) hh
    have x := C.x
    unfold ckS at h
    cases i with
    | set t ie =>
      simp only at h
      split at h
      · rename_i tg v p
        split at h
        · rename_i elt cs scope q
          split at h
          · rename_i y py j bx e2 t2 src it ics ow
            rw [Bool.or_eq_true] at h
            rcases h with h | h
            · simp only [Bool.and_eq_true, decide_eq_true_eq] at h
              obtain ⟨⟨h1, h2⟩, h3⟩ := h
              exact p_setC x (by rw [C.hs]; exact h1) (ck _ _ h3) (ckT_ok C n _ _ h2)
            simp only [Bool.and_eq_true, decide_eq_true_eq, Bool.not_eq_true'] at h
            obtain ⟨⟨⟨⟨h1, h2⟩, h3⟩, h4⟩, h5⟩ := h
            obtain ⟨tge, iter, ifs, rfl, ok, hw, hp, hi, p1, p2, p3⟩ := ckC_ok E tb C h5
            have hk : X.env.scope.kind = .function := by rw [C.hs]; exact C.kd
            have := p_nmLc x (bx := bx) (pos := q) (spos := p) (py := py) hk (by rw [C.hN]; exact h1) (by rw [C.hs]; exact h2) h3 h4 hi ok p1 p2 p3 hp hw
            rw [ownN_ix] at this
            exact this
          · cases h
        · rename_i hnl
          split at h
          · rename_i hsw
            simp only [Bool.and_eq_true] at h
            obtain ⟨⟨⟨h1, h2⟩, h3⟩, h4⟩ := h
            exact p_set x h1 h2 (swR_ok hsw C.hs) (ck _ _ h4) (ckT_ok C n tg t h3)
          · rename_i names hsw
            split at h
            · rename_i es kt pt vs k2 pt2 ts as
              simp only [Bool.and_eq_true, decide_eq_true_eq, List.all_eq_true] at h
              obtain ⟨⟨⟨⟨⟨h1, h2⟩, h3⟩, h4⟩, h5⟩, h6⟩ := h
              have e1 : (names.zip (tgss ts)).map (·.1) = names := List.map_fst_zip (by omega)
              have e2 : (names.zip (tgss ts)).map (·.2) = tgss ts := List.map_snd_zip (by omega)
              have := p_par x (pos := p) (kt := kt) (pt := pt) (k2 := k2) (pt2 := pt2) (ts := es) (L := names.zip (tgss ts)) (fun q hq => by rw [C.hN, C.hs]; exact h5 q hq) (by rw [e2]; exact h3) h4 (by rw [e1]; exact swR_ok hsw C.hs) (ckL_ok ck h6).1
              rw [e2, nms (List.all_eq_true.mpr h1)] at this
              exact this
            · cases h
          · cases h
      · cases h
    | setI io ii ie =>
      simp only at h
      split at h
      · simp only [Bool.and_eq_true] at h
        obtain ⟨⟨⟨⟨h1, h2⟩, h3⟩, h4⟩, h5⟩ := h
        exact p_setI x h1 h2 (ck _ _ h3) (ck _ _ h4) (ck _ _ h5)
      · cases h
    | setF io f ie =>
      simp only at h
      split at h
      · simp only [Bool.and_eq_true, decide_eq_true_eq] at h
        obtain ⟨⟨⟨rfl, h2⟩, h3⟩, h4⟩ := h
        exact p_setF x tb.at_ h2 (ck _ _ h3) (ck _ _ h4)
      · cases h
    | ex ie =>
      simp only at h
      split at h
      · rw [Bool.and_eq_true] at h
        exact p_ex h.1 (ck _ _ h.2)
      · cases h
    | ret ie =>
      simp only at h
      split at h
      · exact p_ret (ck _ _ h)
      · cases h
    | retN =>
      simp only at h
      split at h
      · exact p_retN
      · cases h
    | ite ie a b =>
      simp only at h
      split at h
      · unfold ckB at h
        simp only [Bool.and_eq_true] at h
        obtain ⟨⟨⟨h1, h2⟩, h3⟩, h4⟩ := h
        exact p_if (E.pt C h1 h2) (ih h3) (ih h4)
      · cases h
    | for_ t src it b =>
      simp only at h
      split at h
      · simp only [Bool.and_eq_true] at h
        obtain ⟨⟨⟨h1, h2⟩, h3⟩, h4⟩ := h
        exact p_for x own h1 (ckI_ok C tb ck h2) (ckT_ok C n _ t h3) (ih h4)
      · cases h
    | whl ie b =>
      simp only at h
      split at h
      · unfold ckB at h
        simp only [Bool.and_eq_true] at h
        obtain ⟨⟨h1, h2⟩, h3⟩ := h
        exact p_while x own (E.pt C h1 h2) (ih h3)
      · cases h
    | brk =>
      simp only at h
      split at h
      · exact p_brk
      · cases h
    | cont =>
      simp only at h
      split at h
      · exact p_cont
      · cases h
    | pass =>
      simp only at h
      split at h
      · exact p_pass
      · exact p_doc
      · cases h
end
end MP
end
section
set_option Elab.async false
set_option linter.all false
set_option maxRecDepth 100000
set_option maxHeartbeats 4000000
/-! MPw: defs keep what the evaluator reckons. -/
namespace MP
open PySem PySem.Spec PyProof.Rows L2
/-! ### what is below a mark -/
def Rw.cut (ρ : Rw) (n : Nat) : Rw := ⟨ρ.l.take n, ρ.k⟩
theorem Rw.mem_cut {ρ : Rw} {n : Nat} {a : Addr} (h : a ∈ ρ.cut n) : a ∈ ρ := by
  rcases h with h | h
  · exact .inl (List.mem_of_mem_take h)
  · exact .inr h
section
variable {g : GC} {ρ : Rw} {H : Hp} {st : Sto}
mutual
theorem low_cut {n : Nat} : ∀ (d : D) (v : V), RD g ρ H d v → D.low n d = true → RD g (ρ.cut n) H d v
  | .non, v, h, _ => by rw [RD] at h ⊢; exact h
  | .bl b, v, h, _ => by rw [RD] at h ⊢; exact h
  | .int b, v, h, _ => by rw [RD] at h ⊢; exact h
  | .str b, v, h, _ => by rw [RD] at h ⊢; exact h
  | .tup xs, v, h, l => by
    rw [RD] at h ⊢
    rw [D.low] at l
    obtain ⟨a, vs, e, s, r⟩ := h
    exact ⟨a, vs, e, s, lows_cut xs vs r l⟩
  | .lst xs, v, h, l => by
    rw [RD] at h ⊢
    rw [D.low] at l
    obtain ⟨a, vs, e, n, s, r⟩ := h
    exact ⟨a, vs, e, fun z => n (Rw.mem_cut z), s, lows_cut xs vs r l⟩
  | .scr ns, v, h, _ => by
    rw [RD] at h ⊢
    obtain ⟨a, e, s | s⟩ := h
    · exact ⟨a, e, .inl ⟨fun z => s.1 (Rw.mem_cut z), s.2⟩⟩
    · exact ⟨a, e, .inr s⟩
  | .set xs, v, h, l => by
    rw [RD] at h ⊢
    rw [D.low] at l
    obtain ⟨a, vs, ps, e, n, s, r, m⟩ := h
    exact ⟨a, vs, ps, e, fun z => n (Rw.mem_cut z), s, lows_cut xs vs r l, m⟩
  | .ins c ks xs, v, h, l => by
    rw [RD] at h ⊢
    rw [D.low] at l
    obtain ⟨a, dx, fs, e, n, s, m, r⟩ := h
    exact ⟨a, dx, fs, e, fun z => n (Rw.mem_cut z), s, m, lows_cut xs _ r l⟩
  | .ref m, v, h, l => by
    rw [RD] at h ⊢
    rw [D.low, decide_eq_true_eq] at l
    obtain ⟨a, e, q⟩ := h
    refine ⟨a, e, ?_⟩
    show (ρ.l.take n)[m]? = some a
    rw [List.getElem?_take_of_lt l]
    exact q
theorem lows_cut {n : Nat} : ∀ (ds : List D) (vs : List V), RDs g ρ H ds vs → D.lows n ds = true → RDs g (ρ.cut n) H ds vs
  | [], vs, h, _ => by rw [RDs] at h ⊢; exact h
  | d :: ds, vs, h, l => by
    rw [RDs] at h ⊢
    rw [D.lows, Bool.and_eq_true] at l
    obtain ⟨v, r, e, h1, h2⟩ := h
    exact ⟨v, r, e, low_cut d v h1 l.1, lows_cut ds r h2 l.2⟩
end
mutual
theorem RD.low {n : Nat} (hn : ρ.l.length ≤ n) : ∀ (d : D) (v : V), RD g ρ H d v → D.low n d = true
  | .non, v, h => rfl
  | .bl b, v, h => rfl
  | .int b, v, h => rfl
  | .str b, v, h => rfl
  | .scr b, v, h => rfl
  | .tup xs, v, h => by
    rw [RD] at h
    obtain ⟨a, vs, e, s, r⟩ := h
    rw [D.low]; exact RDs.low hn xs vs r
  | .lst xs, v, h => by
    rw [RD] at h
    obtain ⟨a, vs, e, n, s, r⟩ := h
    rw [D.low]; exact RDs.low hn xs vs r
  | .set xs, v, h => by
    rw [RD] at h
    obtain ⟨a, vs, ps, e, n, s, r, m⟩ := h
    rw [D.low]; exact RDs.low hn xs vs r
  | .ins c ks xs, v, h => by
    rw [RD] at h
    obtain ⟨a, dx, fs, e, n, s, m, r⟩ := h
    rw [D.low]; exact RDs.low hn xs _ r
  | .ref m, v, h => by
    rw [RD] at h
    obtain ⟨a, e, q⟩ := h
    rw [D.low, decide_eq_true_eq]
    exact Nat.lt_of_lt_of_le (List.getElem?_eq_some_iff.mp q).1 hn
theorem RDs.low {n : Nat} (hn : ρ.l.length ≤ n) : ∀ (ds : List D) (vs : List V), RDs g ρ H ds vs → D.lows n ds = true
  | [], vs, h => rfl
  | d :: ds, vs, h => by
    rw [RDs] at h
    obtain ⟨v, r, e, h1, h2⟩ := h
    rw [D.lows, RD.low hn d v h1, RDs.low hn ds r h2]; rfl
end
theorem RO.low {n : Nat} {ob : Ob} {o : HO} (hn : ρ.l.length ≤ n) (h : RO g ρ H ob o) : Ob.low n ob = true := by
  cases ob with
  | lst xs => obtain ⟨vs, e, r⟩ := h; exact RDs.low hn _ _ r
  | dct xs => obtain ⟨vs, e, k, r⟩ := h; exact RDs.low hn _ _ r
  | ins c ks => obtain ⟨dx, fs, e, k, r⟩ := h; exact RDs.low hn _ _ r
theorem RO.cut {n : Nat} {ob : Ob} {o : HO} (h : RO g ρ H ob o) (l : Ob.low n ob = true) : RO g (ρ.cut n) H ob o := by
  cases ob with
  | lst xs => obtain ⟨vs, e, r⟩ := h; exact ⟨vs, e, lows_cut _ _ r l⟩
  | dct xs => obtain ⟨vs, e, k, r⟩ := h; exact ⟨vs, e, k, lows_cut _ _ r l⟩
  | ins c ks => obtain ⟨dx, fs, e, k, r⟩ := h; exact ⟨dx, fs, e, k, lows_cut _ _ r l⟩
/-- what is frozen -/
theorem frz_mapM {n k : Nat} (ih : ∀ (d d' : D) (v : V), frz st n k d = some d' → RD g ρ H d v → RD g (ρ.cut n) H d' v) : ∀ (xs ys : List D) (vs : List V), xs.mapM (frz st n k) = some ys → RDs g ρ H xs vs → RDs g (ρ.cut n) H ys vs
  | [], ys, vs, e, h => by
    rw [List.mapM_nil] at e
    have : [] = ys := Option.some.inj e
    subst this
    rw [h.inv0]; exact RDs.nil
  | x :: xs, ys, vs, e, h => by
    obtain ⟨v, r, rfl, h1, h2⟩ := h.inv
    rw [List.mapM_cons] at e
    cases e1 : frz st n k x with
    | none => rw [e1] at e; cases e
    | some y =>
      rw [e1] at e
      cases e2 : xs.mapM (frz st n k) with
      | none => rw [e2] at e; cases e
      | some zs =>
        rw [e2] at e
        have : y :: zs = ys := Option.some.inj e
        subst this
        exact RDs.cons (ih x y v e1 h1) (frz_mapM ih xs zs r e2 h2)
theorem frz_rd (hs : RS g ρ st H) {n : Nat} : ∀ (k : Nat) (d d' : D) (v : V), frz st n k d = some d' → RD g ρ H d v → RD g (ρ.cut n) H d' v
  | 0, d, d', v, e, _ => by unfold frz at e; cases e
  | k + 1, d, d', v, e, h => by
    have ih := frz_mapM (frz_rd hs (n := n) k)
    unfold frz at e
    split at e
    · rename_i m
      split at e
      · rename_i hm
        cases e
        exact low_cut _ _ h (by rw [D.low, decide_eq_true_eq]; exact hm)
      · rename_i hm
        rw [RD.ref_] at h
        obtain ⟨a, rfl, ha⟩ := h
        have hl : a ∈ ρ.l := List.mem_of_getElem? ha
        have na : a ∉ ρ.cut n := by
          rintro (z | z)
          · obtain ⟨j, hj⟩ := List.mem_iff_getElem?.mp z
            have hj : (ρ.l.take n)[j]? = some a := hj
            rw [List.getElem?_take] at hj
            split at hj
            · rename_i hjn
              have : j = m := (List.getElem?_inj (List.getElem?_eq_some_iff.mp hj).1 hs.nd).mp (hj.trans ha.symm)
              omega
            · cases hj
          · exact (hs.hd a z).1 hl
        split at e
        · rename_i xs q
          rw [Option.map_eq_some_iff] at e
          obtain ⟨ys, e1, rfl⟩ := e
          obtain ⟨o, ho, vs, rfl, r⟩ := hs.at_ m a _ ha q
          exact RD.lst_.mpr ⟨a, vs, rfl, na, ho, ih xs ys vs e1 r⟩
        · rename_i c fs q
          rw [Option.map_eq_some_iff] at e
          obtain ⟨ys, e1, rfl⟩ := e
          obtain ⟨o, ho, dx, ws, rfl, k1, r⟩ := hs.at_ m a _ ha q
          rw [RD]
          exact ⟨a, dx, ws, rfl, na, ho, k1, ih _ ys _ e1 r⟩
        · cases e
    · split at e
      · rename_i xs hl
        cases e
        exact low_cut _ _ h (by rw [D.low]; exact hl)
      · rw [Option.map_eq_some_iff] at e
        obtain ⟨ys, e1, rfl⟩ := e
        rw [RD.tup_] at h ⊢
        obtain ⟨a, vs, e2, s, r⟩ := h
        exact ⟨a, vs, e2, s, ih _ ys vs e1 r⟩
    · split at e
      · rename_i xs hl
        cases e
        exact low_cut _ _ h (by rw [D.low]; exact hl)
      · rw [Option.map_eq_some_iff] at e
        obtain ⟨ys, e1, rfl⟩ := e
        rw [RD.lst_] at h ⊢
        obtain ⟨a, vs, e2, nn, s, r⟩ := h
        exact ⟨a, vs, e2, fun z => nn (Rw.mem_cut z), s, ih _ ys vs e1 r⟩
    · split at e
      · rename_i hl
        cases e
        exact low_cut _ _ h hl
      · cases e
theorem cut_ext {ρ' : Rw} {H' : Hp} {n : Nat} (x : Ext ρ H ρ' H') (hn : ρ.l.length = n) : Ext ρ H (ρ'.cut n) H' := by
  have e : (ρ'.cut n).l = ρ.l := by
    obtain ⟨t, e⟩ := x.pre
    show ρ'.l.take n = ρ.l
    rw [← e, ← hn, List.take_left']
    rfl
  exact ⟨by rw [e]; exact List.prefix_refl _, x.hid, x.kept, fun a h => x.fresh a (Rw.mem_cut h), fun a h => .inl (by rw [e] at h; exact h)⟩
theorem cut_rs {ρ' : Rw} {H' : Hp} {st' : Sto} {n : Nat} (hs : RS g ρ st H) (hs' : RS g ρ' st' H') (hn : st.length = n) (x : Ext ρ H ρ' H') (l : lowSt n st st' = true) : RS g (ρ'.cut n) (st'.take n) H' := by
  have hlen : n ≤ ρ'.l.length := by
    rw [← hn, ← hs.len]
    exact x.pre.length_le
  refine ⟨?_, hs'.nd.sublist (List.take_sublist _ _), fun a ha => ⟨fun z => (hs'.hd a ha).1 (List.mem_of_mem_take z), (hs'.hd a ha).2⟩, fun i a ob h1 h2 => ?_⟩
  · show (ρ'.l.take n).length = _
    rw [List.length_take, List.length_take, hs'.len]
  · have h1 : (ρ'.l.take n)[i]? = some a := h1
    rw [List.getElem?_take] at h1 h2
    split at h1
    · rename_i hi
      rw [if_pos hi] at h2
      obtain ⟨o, h3, h4⟩ := hs'.at_ i a ob h1 h2
      refine ⟨o, h3, h4.cut ?_⟩
      unfold lowSt at l
      rw [List.all_eq_true] at l
      have l2 := l i (List.mem_range.mpr hi)
      rw [Bool.or_eq_true, decide_eq_true_eq] at l2
      rcases l2 with l2 | l2
      · have h5 : st[i]? = some ob := by
          rw [← l2]
          exact h2
        have hil : i < ρ.l.length := by rw [hs.len, hn]; exact hi
        obtain ⟨o', _, h6⟩ := hs.at_ i _ ob (List.getElem?_eq_getElem hil) h5
        exact h6.low (by rw [hs.len, hn]; exact Nat.le_refl _)
      · rw [h2] at l2
        exact l2
    · cases h1
end
/-! ### one def -/
section
variable {g : GC} {k : Nat} {c : Cl} {T : Tab}
theorem fn_at {x qual : Str} {params : Arguments} {body : List Stmt} {scope : Scope} {a : Addr} {fdd : FuncData} {N : List Str} {f : FD} {fuel : Nat} (F : FunD g.K x qual params body scope [] [] a fdd) (S : FnScope N f.ps scope) (hck : ckBl (ckS T N fuel scope) body f.body = true) (hn : f.n = N.length) (tb : TabOk g k c T) :
    FnOk g.P g.w g.K g.mg g.base CX0 (k + 2) a fdd f.ps (spF g (runF c f) f.ps.length) := by
  refine F.ok S (fun vs H Q E ⟨ρ, st, ds, d, st', hs, hd, ev, hl, post⟩ => by rw [hd.len, hl]) fun cdv A outer s H vs Q E hr ⟨ρ, st, ds, d, st', hs, hd, ev, hl, post⟩ => ?_
  have C : Cxo g k N scope scope (cxOf CX0 g.P g.w g.K g.mg g.base N qual scope a cdv A outer s H E) := ⟨⟨rfl, rfl, rfl, rfl, rfl, rfl, hr, S.nd⟩, rfl, rfl, S.kind, fun _ _ => rfl⟩
  refine ⟨_, ckBl_ok (sOk tb C PassesOwn.leaving fuel) hck, ?_⟩
  unfold runF at ev
  rw [if_pos hl] at ev
  split at ev
  · rename_i fl env2 st2 e1
    have hre : RE g ρ H (ds.map some ++ List.replicate (f.n - ds.length) none) (L2.start N vs) := by
      unfold L2.start
      refine ⟨by simp [hd.len, hn], fun i d e => ?_⟩
      by_cases hi : i < ds.length
      · rw [List.getElem?_append_left (by simpa using hi), List.getElem?_map] at e
        cases q : ds[i]? with
        | none => rw [q] at e; cases e
        | some d' =>
          rw [q] at e
          have : d' = d := by simpa using e
          subst this
          obtain ⟨v, hv, rv⟩ := hd.get q
          refine ⟨v, ?_, rv⟩
          rw [List.getElem?_append_left (by rw [List.length_map, hd.len]; exact hi), List.getElem?_map, hv]
          rfl
      · rw [List.getElem?_append_right (by simpa using hi), List.getElem?_replicate] at e
        split at e <;> cases e
    refine ⟨ρ, _, st, fl, env2, st2, hs, hre, e1, ?_⟩
    have done : ∀ r : D, (if f.keep = true then some (r, st2) else match frz st2 st.length 6 r with
        | some d => if lowSt st.length st st2 = true then some (d, st2.take st.length) else none
        | none => none) = some (d, st') → ∀ ρ' H' v, Ext ρ H ρ' H' → RS g ρ' st2 H' → RD g ρ' H' r v → Q v H' := by
      intro r e ρ' H' v x1 s1 r1
      split at e
      · cases e
        exact post ρ' H' v x1 s1 r1
      · split at e
        · rename_i d1 e2
          split at e
          · rename_i hl2
            cases e
            exact post (ρ'.cut st.length) H' v (cut_ext x1 hs.len) (cut_rs hs s1 rfl x1 hl2) (frz_rd s1 6 r _ v e2 r1)
          · cases e
        · cases e
    cases fl with
    | nx => exact fun ρ' H' σ' x1 s1 r1 => done .non ev ρ' H' .non x1 s1 (by rw [RD.non_])
    | ret r => exact fun ρ' H' v x1 s1 r1 => done r ev ρ' H' v x1 s1 r1
    | brk => cases ev
    | cont => cases ev
  · cases ev
end
/-! ### all of them -/
/-- a def stands at a and its text is the small language's -/
def DefAt (g : GC) (T : Tab) (X : Tx) (f : Str) (a : Addr) (fdd : FuncData) (fd : FD) : Prop :=
  X.fn f = some fd ∧ Binds g.K fdd fd.ps [] ∧ ∃ (x qual : Str) (params : Arguments) (body : List Stmt) (scope : Scope) (N : List Str) (fuel : Nat), FunD g.K x qual params body scope [] [] a fdd ∧ FnScope N fd.ps scope ∧ ckBl (ckS T N fuel scope) body fd.body = true ∧ fd.n = N.length
structure ProgOk (g : GC) (T : Tab) (X : Tx) : Prop where
  fn : ∀ p ∈ T.fns, ∃ a fdd fd, DefAt g T X p.1 a fdd fd ∧ fd.ps = p.2 ∧ g.mg p.1 = some (.ref a) ∧ PySem.W.keepIn g.K (.ref a) = true
  kw : ∀ p ∈ T.kws, ∃ a fdd fd, DefAt g T X p.1 a fdd fd ∧ KBn g.K fdd fd.ps p.2.1 p.2.2.1 (fun us ws => pick p.2.2.2 (us ++ ws)) (fun vs zs => pick p.2.2.2 (vs ++ zs)) ∧ g.mg p.1 = some (.ref a) ∧ PySem.W.keepIn g.K (.ref a) = true
  mt : ∀ p ∈ T.mts, ∃ a fdd fd, DefAt g T X p.2.2 a fdd fd ∧ Cls g.K (g.cl p.1) ∧ Meth g.K (g.cl p.1) p.2.1 a
  mc : ∀ x ∈ T.cls, ∃ i a fdd fd, X.cl x = some i ∧ DefAt g T X i a fdd fd ∧ Mk g.K (g.cl x) a ∧ g.mg x = some (.ref (g.cl x))
  bl : ∀ x ∈ T.blt, g.mg x = none
  co : ∀ p ∈ T.cons, ∃ v u, g.mg p.1 = some u ∧ RelV v u ∧ ∀ ρ H, RD g ρ H p.2 v
  cb : T.comb = true → g.mg "combinations" = some (.type Cmb.cn)
  at_ : AttOk g X.att
  st : ∀ k X, XOk g (k + 1) X → SetRules g X
section
variable {g : GC} {T : Tab} {X : Tx}
theorem callD_len {n : Nat} {f : Str} {fd : FD} (h : X.fn f = some fd) {ds : List D} {st : Sto} {r : D × Sto} (e : callD X n f ds st = some r) : ds.length = fd.ps.length := by
  cases n with
  | zero => unfold callD at e; cases e
  | succ n =>
    unfold callD at e
    rw [h] at e
    simp only at e
    unfold runF at e
    split at e
    · assumption
    · cases e
theorem none_at {a : Addr} {fdd : FuncData} {ps : List Str} {j : Nat} (hb : Binds g.K fdd ps []) : FnAt g j (fun _ _ => none) ps a :=
  ⟨⟨fdd, hb, ⟨fun vs H Q E ⟨ρ, st, ds, d, st', _, _, ev, _⟩ => (by cases ev), fun A outer s H args us vs Q E hr e0 hb r ⟨ρ, st, ds, d, st', _, _, ev, _⟩ => (by cases ev)⟩⟩, fun ds st r e => (by cases e)⟩
def prv (X : Tx) : Nat → Str → List D → Sto → Option (D × Sto)
  | 0 => fun _ _ _ => none
  | m + 1 => callD X m
theorem def_at (P : ProgOk g T X) : ∀ (n : Nat) {f : Str} {a : Addr} {fdd : FuncData} {fd : FD}, DefAt g T X f a fdd fd → FnOk g.P g.w g.K g.mg g.base CX0 (n + 1) a fdd fd.ps (spF g (callD X n f) fd.ps.length)
  | 0, f, a, fdd, fd, h => ⟨fun vs H Q E ⟨ρ, st, ds, d, st', _, _, ev, _⟩ => (by unfold callD at ev; cases ev), fun A outer s H args us vs Q E hr e0 hb r ⟨ρ, st, ds, d, st', _, _, ev, _⟩ => (by unfold callD at ev; cases ev)⟩
  | n + 1, f, a, fdd, fd, h => by
    have ih := fun {f a fdd fd} h => def_at P n (f := f) (a := a) (fdd := fdd) (fd := fd) h
    obtain ⟨hf, hb, x, qual, params, body, scope, N, fuel, F, S, hck, hn⟩ := h
    have tb : TabOk g n ⟨callD X n, fun k ws st => match X.cl k with
        | some i => runMk (prv X n) k i ws st
        | none => none, X.lap, X.att⟩ T := by
      refine ⟨fun p hp => ?_, fun p hp => ?_, fun p hp => ?_, fun y hy => ?_, P.bl, P.co, P.cb, P.at_, P.st n⟩
      · obtain ⟨a, fdd, fd, h1, h2, h3, h4⟩ := P.fn p hp
        refine ⟨a, ⟨⟨fdd, ?_, ?_⟩, fun ds st r e => ?_⟩, h3, h4⟩
        · rw [← h2]; exact h1.2.1
        · rw [← h2]; exact ih h1
        · rw [← h2]; exact callD_len h1.1 e
      · obtain ⟨a, fdd, fd, h1, h2, h3, h4⟩ := P.kw p hp
        exact ⟨a, ⟨⟨fdd, fd.ps, h2, ih h1, fun ds st r e => callD_len h1.1 e⟩⟩, h3, h4⟩
      · obtain ⟨a, fdd, fd, h1, h2, h3⟩ := P.mt p hp
        exact ⟨a, fd.ps, ⟨⟨fdd, h1.2.1, ih h1⟩, fun ds st r e => callD_len h1.1 e⟩, h2, h3⟩
      · obtain ⟨i, a, fdd, fd, h1, h2, h3, h4⟩ := P.mc y hy
        refine ⟨⟨i, (prv X n), a, n, fd.ps, ?_, ?_, Nat.le_refl _, h3⟩, h4⟩
        · funext ws st
          simp only [h1]
        · cases n with
          | zero => exact none_at h2.2.1
          | succ m => exact ⟨⟨fdd, h2.2.1, def_at P m h2⟩, fun ds st r e => callD_len h2.1 e⟩
    have := fn_at F S hck hn tb
    refine this.imp fun vs H Q E ⟨ρ, st, ds, d, st', hs, hd, ev, hl, post⟩ => ⟨ρ, st, ds, d, st', hs, hd, ?_, hl, post⟩
    unfold callD at ev
    rw [hf] at ev
    cases n <;> exact ev
end
end MP
end
section
set_option Elab.async false
set_option linter.all false
set_option maxRecDepth 100000
set_option maxHeartbeats 4000000
/-! MPx: sets by their rows; sets of ints and texts. -/
namespace SQ
open PySem PySem.Spec PyProof.Rows L2

theorem perm_map {α β : Type} {f : α → β} : ∀ {l m : List β}, l.Perm m → ∀ {L : List α}, m = L.map f → ∃ L' : List α, l = L'.map f ∧ L'.Perm L := by
  intro l m h
  induction h with
  | nil => intro L e; exact ⟨L, e, List.Perm.refl _⟩
  | @cons x l m h ih =>
    intro L e
    cases L with
    | nil => cases e
    | cons a L =>
      simp only [List.map_cons, List.cons.injEq] at e
      obtain ⟨L', e1, e2⟩ := ih e.2
      exact ⟨a :: L', by rw [List.map_cons, ← e1, e.1], e2.cons a⟩
  | @swap x y l =>
    intro L e
    match L, e with
    | a :: b :: L, e =>
      simp only [List.map_cons, List.cons.injEq] at e
      exact ⟨b :: a :: L, by rw [List.map_cons, List.map_cons, ← e.1, ← e.2.1, ← e.2.2], List.Perm.swap a b L⟩
  | trans h1 h2 ih1 ih2 =>
    intro L e
    obtain ⟨L2, e2, p2⟩ := ih2 e
    obtain ⟨L1, e1, p1⟩ := ih1 e2
    exact ⟨L1, e1, p1.trans p2⟩

/-- a kind of members -/
structure Kd (K : Type) where
  isv : Heap → K → Value → Prop
  hash : K → Int
  ex : SetTable → List K → Prop
  room : Around → Prop
variable {P : Program} {w : World} {K : Type} [DecidableEq K]
def row (kd : Kd K) (p : K × Value) : Int × Value := (kd.hash p.1, p.2)
/-- the set at a with the members L, in its table's sequence -/
structure SetQ (w : World) (kd : Kd K) (h : Heap) (a : Addr) (L : List (K × Value)) (es : Array (Int × Value)) (ep : Nat) (t : SetTable) : Prop where
  ob : ∃ o, h.get? a = some o ∧ o.ExactSet ∧ o.data = .set es ep t
  rows : es.toList = L.map (row kd)
  nd : (L.map (·.1)).Nodup
  is_ : ∀ p ∈ L, kd.isv h p.1 p.2
  fits : t.fits es.size = true
  ris : Ris t.place.toList
  led : w.params.followText "set-order" = true ∨ t.led = true
  few : L.length < 64
  ex : kd.ex t (L.map (·.1))
/-- what a kind's members do -/
structure Laws (P : Program) (w : World) (kd : Kd K) : Prop where
  keep : ∀ {h h' : Heap} {k : K} {v : Value}, kd.isv h k v → (∀ b o vs n, h.get? b = some o → o.data = .seq vs n → h'.get? b = some o) → kd.isv h' k v
  fresh : ∀ led, kd.ex (.fresh 0 0 led) []
  hashed : ∀ {A : Around} {E : Value → Shared → Prop} {s : Shared} {k : K} {v : Value} {Q : Int → Shared → Prop}, kd.room A → kd.isv s.heap k v → (∀ tk, s.toks ≤ tk → Q (kd.hash k) { s with toks := tk }) → wpAny (model P w) A (pyHash v) Q E s
  add : ∀ {A : Around} {E : Value → Shared → Prop} {s : Shared} {k : K} {v : Value} {a : Addr} {L : List (K × Value)} {es : Array (Int × Value)} {ep : Nat} {t : SetTable} {Q : Bool → Shared → Prop}, kd.room A → SetQ w kd s.heap a L es ep t → kd.isv s.heap k v → L.length + 1 < 64 →
    (∀ b h' L' es' ep' t', Heap.SameBut a s.heap h' → SetQ w kd h' a L' es' ep' t' → (k ∈ L.map (·.1) → L' = L) → (k ∉ L.map (·.1) → L'.Perm ((k, v) :: L)) → Q b { s with heap := h' }) → wpAny (model P w) A (setAddHashed a v (kd.hash k)) Q E s
theorem SetQ.size {kd : Kd K} {h : Heap} {a : Addr} {L : List (K × Value)} {es : Array (Int × Value)} {ep : Nat} {t : SetTable} (R : SetQ w kd h a L es ep t) : es.size = L.length := by
  have := congrArg List.length R.rows
  rw [Array.length_toList, List.length_map] at this
  exact this

/-! ### ints and texts -/
def mixK (P : Program) (w : World) : Kd Key := ⟨fun _ k v => (mixKind P w).is k v = true, (mixKind P w).hash, fun _ _ => True, fun _ => True⟩
theorem mix_scan {k : Key} {v : Value} (h : (mixKind P w).is k v = true) : v.scannable = true := by
  rcases keyIs_shape h with ⟨i, t, rfl, rfl⟩ | ⟨x, t, rfl, rfl⟩ <;> rfl
section
variable {A : Around} {E : Value → Shared → Prop} {s : Shared} {a : Addr} {L : List (Key × Value)} {es : Array (Int × Value)} {ep : Nat} {t : SetTable}
theorem mix_elems {l : List (Int × Value)} (e : l = L.map (row (mixK P w))) (h : ∀ p ∈ L, (mixKind P w).is p.1 p.2 = true) : ElemsOf (mixKind P w) l := by
  subst e
  intro e he
  obtain ⟨p, hp, rfl⟩ := List.mem_map.mp he
  exact ⟨⟨p.1, h p hp, rfl⟩, mix_scan (h p hp)⟩
theorem mix_add {k : Key} {v : Value} {Q : Bool → Shared → Prop} (R : SetQ w (mixK P w) s.heap a L es ep t) (hk : (mixKind P w).is k v = true) (few : L.length + 1 < 64)
    (q : ∀ b h' L' es' ep' t', Heap.SameBut a s.heap h' → SetQ w (mixK P w) h' a L' es' ep' t' → (k ∈ L.map (·.1) → L' = L) → (k ∉ L.map (·.1) → L'.Perm ((k, v) :: L)) → Q b { s with heap := h' }) : wpAny (model P w) A (setAddHashed a v ((mixK P w).hash k)) Q E s := by
  obtain ⟨o, ho, hex, hd⟩ := R.ob
  have el := mix_elems R.rows R.is_
  have sc := mix_scan hk
  have hb : es.size < scanBound := by rw [R.size]; unfold scanBound; omega
  have at_mem : ∀ e ∈ es.toList, (mixKind P w).is k e.2 = true → k ∈ L.map (·.1) := fun e he h1 => by
    rw [R.rows] at he
    obtain ⟨p, hp, rfl⟩ := List.mem_map.mp he
    rw [(mixKind P w).inj _ _ _ h1 (R.is_ p hp)]
    exact List.mem_map_of_mem hp
  show wpAny _ _ (setAddHashed a v ((mixKind P w).hash k)) _ _ _
  unfold setAddHashed setAddHashedIn
  refine wpAny_holding (wpAny_bind (wpAny_setState_of ho hd R.fits ?_))
  dsimp only
  rw [byScan_of sc hb el]
  simp only [↓reduceIte]
  unfold setAddByScan
  refine wpAny_bind (wpAny_bind (wpAny_rule (wpAny_bind (wpAny_setScan_of hk ho hd R.fits el ?_))))
  cases hfi : List.findIdx? (fun e => (mixKind P w).is k e.2) es.toList with
  | some j =>
    dsimp only
    obtain ⟨hj, pj, _⟩ := List.findIdx?_eq_some_iff_getElem.mp hfi
    have hm := at_mem _ (List.getElem_mem hj) pj
    exact wpAny_pure (wpAny_pure (q _ s.heap L es ep t (Heap.SameBut.refl a s.heap) R (fun _ => rfl) fun z => absurd hm z))
  | none =>
    dsimp only
    have hnk : k ∉ L.map (·.1) := fun z => by
      obtain ⟨p, hp, e1⟩ := List.mem_map.mp z
      have hr : row (mixK P w) p ∈ es.toList := by rw [R.rows]; exact List.mem_map_of_mem hp
      have c := List.findIdx?_eq_none_iff.mp hfi _ hr
      have c1 : (mixKind P w).is k p.2 = false := c
      rw [← e1, R.is_ p hp] at c1
      cases c1
    have pass : ∀ (b : Bool) {s₁ : Shared} {Q' : Unit → Shared → Prop}, Q' () s₁ → wpAny (model P w) A (match b with | true => rule "set.scan.the-table-gave-way" | false => pure ()) Q' E s₁ := fun b s₁ Q' z => by
      cases b
      · exact wpAny_pure z
      · exact wpAny_rule z
    have pm := layNew_perm t es ((mixKind P w).hash k) v
    have f1 := layNew_fits t es ((mixKind P w).hash k) v
    have r1 := layNew_ris t es ((mixKind P w).hash k) v R.ris
    have l1 := layNew_led t es ((mixKind P w).hash k) v
    generalize layNew t es ((mixKind P w).hash k) v = Z at pm f1 r1 l1 ⊢
    obtain ⟨es1, t1, wd, gave⟩ := Z
    dsimp only at pm f1 r1 l1 ⊢
    rw [Array.toList_push] at pm
    have pc := pm.trans (List.perm_append_singleton _ _)
    obtain ⟨L1, e1, p1⟩ := perm_map (f := row (mixK P w)) pc (L := (k, v) :: L) (by rw [List.map_cons, ← R.rows]; rfl)
    have len1 : L1.length = L.length + 1 := p1.length_eq
    have ld1 : w.params.followText "set-order" = true ∨ t1.led = true := R.led.imp id fun z => by rw [l1]; exact z
    have nd1 : (L1.map (·.1)).Nodup := (p1.map (·.1)).nodup_iff.mpr (List.nodup_cons.mpr ⟨hnk, R.nd⟩)
    have is1 : ∀ p ∈ L1, (mixKind P w).is p.1 p.2 = true := fun p hp => by
      rcases List.mem_cons.mp (p1.mem_iff.mp hp) with z | z
      · rw [z]; exact hk
      · exact R.is_ p z
    have sz1 : es1.size = L.length + 1 := by rw [← Array.length_toList, e1, List.length_map, len1]
    have tail : ∀ (t2 : SetTable), t2.fits es1.size = true → Ris t2.place.toList → (w.params.followText "set-order" = true ∨ t2.led = true) → ∀ {g : Bool → Sem Unit}, (∀ (b : Bool) (s₁ : Shared) (Q' : Unit → Shared → Prop), Q' () s₁ → wpAny (model P w) A (g b) Q' E s₁) → ∀ {R' : Option Bool → Shared → Prop},
        (∀ h' L' es' ep' t', Heap.SameBut a s.heap h' → SetQ w (mixK P w) h' a L' es' ep' t' → L'.Perm ((k, v) :: L) → R' (some true) { s with heap := h' }) → wpAny (model P w) A (do
          storeSet a es1 t2
          if (!wd && t2.tooFull) = true then do
              g (relayAll t2 es1 (SetTable.grown es1.size)).2.2
              storeSet a (relayAll t2 es1 (SetTable.grown es1.size)).1 (relayAll t2 es1 (SetTable.grown es1.size)).2.1
              pure (some true)
            else pure (some true)) R' E s := by
      intro t2 f2 r2 ld2 g hg R' hR
      refine wpAny_bind (wpAny_storeSet_of ho hd ?_ (by rw [sz1, sizeLine_eq]; omega))
      have ho1 := store_at (es' := es1) (t' := t2) ho hd
      have sb1 := Heap.SameBut.update s.heap a (Obj.putSet es1 t2)
      split
      · have pm2 := relayAll_perm t2 es1 (SetTable.grown es1.size)
        have f3 := relayAll_fits t2 es1 (SetTable.grown es1.size)
        have r3 := relayAll_ris t2 es1 (SetTable.grown es1.size)
        have l3 := relayAll_led t2 es1 (SetTable.grown es1.size)
        generalize relayAll t2 es1 (SetTable.grown es1.size) = Y at pm2 f3 r3 l3 ⊢
        obtain ⟨es2, t3, gv⟩ := Y
        dsimp only at pm2 f3 r3 l3 ⊢
        obtain ⟨L2, e2, p2⟩ := perm_map (f := row (mixK P w)) pm2 e1
        have sz2 : es2.size = L.length + 1 := by rw [← Array.length_toList, pm2.length_eq, Array.length_toList, sz1]
        refine wpAny_bind (hg _ _ _ (wpAny_bind (wpAny_storeSet_of ho1 rfl ?_ (by rw [sz2, sizeLine_eq]; omega))))
        have ho2 := store_at (es' := es2) (t' := t3) ho1 rfl
        refine wpAny_pure (hR _ L2 es2 _ t3 (sb1.trans (Heap.SameBut.update _ a _)) ⟨⟨_, ho2, hex, rfl⟩, e2, ?_, fun p hp => is1 p (p2.mem_iff.mp hp), f3, r3, ld2.imp id fun z => by rw [l3]; exact z, by rw [p2.length_eq, len1]; exact few, trivial⟩ (p2.trans p1))
        exact (p2.map (·.1)).nodup_iff.mpr nd1
      · exact wpAny_pure (hR _ L1 es1 _ t2 sb1 ⟨⟨_, ho1, hex, rfl⟩, e1, nd1, is1, f2, r2, ld2, by rw [len1]; exact few, trivial⟩ p1)
    have fin : ∀ h' L' es' ep' t', Heap.SameBut a s.heap h' → SetQ w (mixK P w) h' a L' es' ep' t' → L'.Perm ((k, v) :: L) → Q true { s with heap := h' } := fun h' L' es' ep' t' sb r pp => q true h' L' es' ep' t' sb r (fun z => absurd z hnk) fun _ => pp
    refine wpAny_bind (pass _ ?_)
    split
    · refine wpAny_bind ?_
      rw [hashByValue_scannable 8 sc]
      refine wpAny_pure ?_
      refine tail _ ?_ ?_ ?_ (fun b s₁ Q' z => pass b z) fun h' L' es' ep' t' sb r pp => by
        dsimp only
        exact wpAny_pure (fin h' L' es' ep' t' sb r pp)
      · split
        · exact f1
        · exact SetTable.fits_plain_off f1
      · split <;> exact r1
      · split <;> exact ld1
    · refine wpAny_bind (wpAny_pure ?_)
      simp only [↓reduceIte]
      refine tail _ f1 r1 ld1 (fun b s₁ Q' z => pass b z) fun h' L' es' ep' t' sb r pp => by
        dsimp only
        exact wpAny_pure (fin h' L' es' ep' t' sb r pp)
end
theorem mix_laws : Laws P w (mixK P w) where
  keep := fun h _ => h
  fresh := fun _ => trivial
  hashed := fun {A E s k v Q} _ hk q => (mixKind P w).pyHash hk (q _ (Nat.le_succ _))
  add := fun _ R hk few q => mix_add R hk few q
end SQ
end
section
set_option Elab.async false
set_option linter.all false
set_option maxRecDepth 100000
set_option maxHeartbeats 4000000
/-! MPz: sets of tuples: questions, the search. -/
namespace SQ
open PySem PySem.Spec PyProof.Rows L2
section
variable {P : Program} {w : World}
/-- no class statement, and by value or not -/
def Calm (P : Program) (w : World) (n : Nat) (s : Shared) (v : Value) : Prop :=
  (∀ (A : Around) (E : Value → Shared → Prop) (Q : Bool → Shared → Prop), Q false s → wpAny (model P w) A (ofAClassStatement n v) Q E s) ∧
  (∀ (A : Around) (E : Value → Shared → Prop) (Q : Bool → Shared → Prop), (∀ b, Q b s) → wpAny (model P w) A (hashByValue n v) Q E s)
theorem calm_int (n : Nat) (s : Shared) (i : Int) (t : Tok) : Calm P w n s (.int i t) := by
  constructor <;> intro A E Q h <;> cases n <;> exact wpAny_pure (by first | exact h | exact h _)
theorem calm_str (n : Nat) (s : Shared) (x : Str) (t : Tok) : Calm P w n s (.str x t) := by
  constructor <;> intro A E Q h <;> cases n <;> exact wpAny_pure (by first | exact h | exact h _)
theorem calm_bool (n : Nat) (s : Shared) (b : Bool) : Calm P w n s (.bool b) := by
  constructor <;> intro A E Q h <;> cases n <;> exact wpAny_pure (by first | exact h | exact h _)
theorem calm_none (n : Nat) (s : Shared) : Calm P w n s .none := by
  constructor <;> intro A E Q h <;> cases n <;> exact wpAny_pure (by first | exact h | exact h _)
theorem calm_tup {n : Nat} {s : Shared} {b : Addr} {o : Obj} {vs : Array Value} {m : Nat} (ho : s.heap.get? b = some o) (hc : o.cls = .type "tuple") (hd : o.data = .seq vs m) (hv : ∀ v ∈ vs.toList, Calm P w n s v) : Calm P w (n + 1) s (.ref b) := by
  have hT : s.TypeIs (.ref b) "tuple" := ⟨o, ho, hc⟩
  constructor
  · intro A E Q h
    unfold ofAClassStatement
    refine wpAny_bind (wpAny_typeOf hT ?_)
    dsimp only
    have e : (("tuple" : String) == "tuple") = true := by decide
    simp only [e, if_true, Bool.not_true, Bool.false_eq_true, if_false]
    try refine wpAny_bind (wpAny_pure ?_)
    try simp only [Bool.not_true, Bool.false_eq_true, if_false]
    refine wpAny_bind (m := seqItems? (.ref b)) (wpAny_seqItems ho hd ?_)
    dsimp only
    refine wpAny_bind ?_
    show wpAny _ _ (forIn vs _ _) _ _ s
    rw [← Array.forIn_toList]
    refine wpAny_forIn_list _ (fun rest r s1 => r.1 = none ∧ s1 = s ∧ ∀ v ∈ rest, Calm P w n s v) _ ?_ ?_ _ _ ⟨rfl, rfl, hv⟩
    · rintro v rest r s1 ⟨hr, rfl, all⟩
      refine wpAny_bind ((all v List.mem_cons_self).1 _ _ _ ?_)
      simp only [Bool.false_eq_true, if_false]
      exact wpAny_pure ⟨rfl, rfl, fun u hu => all u (List.mem_cons_of_mem _ hu)⟩
    · rintro ⟨r1, r2⟩ s1 ⟨hr, rfl, _⟩
      simp only at hr
      subst hr
      exact wpAny_pure h
  · intro A E Q h
    unfold hashByValue
    refine wpAny_bind (wpAny_specialOf hT F.slot_tuple_hash.lookup ?_)
    refine wpAny_bind (m := seqItems? (.ref b)) (wpAny_seqItems ho hd ?_)
    refine wpAny_bind ?_
    show wpAny _ _ (forIn vs _ _) _ _ s
    rw [← Array.forIn_toList]
    refine wpAny_forIn_list _ (fun rest r s1 => r.1 = none ∧ s1 = s ∧ ∀ v ∈ rest, Calm P w n s v) _ ?_ ?_ _ _ ⟨rfl, rfl, hv⟩
    · rintro v rest r s1 ⟨hr, rfl, all⟩
      refine wpAny_bind ((all v List.mem_cons_self).2 _ _ _ fun bb => ?_)
      cases bb with
      | true =>
        simp only [Bool.not_true, Bool.false_eq_true, if_false]
        exact wpAny_pure ⟨rfl, rfl, fun u hu => all u (List.mem_cons_of_mem _ hu)⟩
      | false =>
        simp only [Bool.not_false, if_true]
        exact wpAny_pure (wpAny_pure (h _))
    · rintro ⟨r1, r2⟩ s1 ⟨hr, rfl, _⟩
      simp only at hr
      subst hr
      exact wpAny_pure (h _)
mutual
theorem calm_key : ∀ (k : NestedKey) (v : Value) (n : Nat) (s : Shared), NestedIs s.heap k v → k.depth ≤ n → Calm P w n s v
  | .none, _, n, s, x, _ => by cases x; exact calm_none n s
  | .num i, _, n, s, x, _ => by
    cases x with
    | bool e => exact calm_bool n s _
    | int _ t => exact calm_int n s _ t
  | .text y, _, n, s, x, _ => by cases x; exact calm_str n s _ _
  | .tup ks, _, n, s, x, hn => by
    cases x with
    | tup hg hc hd hk =>
      simp only [NestedKey.depth] at hn
      cases n with
      | zero => omega
      | succ n => exact calm_tup hg hc hd (calm_keys ks _ n s hk (by omega))
theorem calm_keys : ∀ (ks : List NestedKey) (vs : List Value) (n : Nat) (s : Shared), NestedAll s.heap ks vs → NestedKey.depthAll ks ≤ n → ∀ v ∈ vs, Calm P w n s v
  | [], _, n, s, x, _, v, hv => by cases x; cases hv
  | k :: ks, _, n, s, x, hn, v, hv => by
    cases x with
    | cons x1 x2 =>
      simp only [NestedKey.depthAll] at hn
      rcases List.mem_cons.mp hv with e | hv
      · rw [e]; exact calm_key k _ n s x1 (by omega)
      · exact calm_keys ks _ n s x2 (by omega) v hv
end
end
/-- tuples, nested, in a table -/
def tupK (P : Program) (w : World) : Kd NestedKey :=
  ⟨fun h k v => ∃ b, v = .ref b ∧ (nestedKind P w).is h k b, fun k => k.hash w, fun t ks => TabOk t (ks.map fun k => k.hash w) ∧ ks.length * 5 < t.mask * 3, fun A => A.units + 8 < cLine⟩
section
variable {P : Program} {w : World} {A : Around} {E : Value → Shared → Prop} {s : Shared} {a : Addr} {L : List (NestedKey × Value)} {es : Array (Int × Value)} {ep : Nat} {t : SetTable}
theorem unseen {b : Addr} {k : NestedKey} (hk : (nestedKind P w).is s.heap k b) {ys : List Value} (hy : ∀ y ∈ ys, ∃ k' c, y = Value.ref c ∧ (nestedKind P w).is s.heap k' c) {Q : Bool → Shared → Prop} (h : Q false s) : wpAny (model P w) A (searchCouldBeSeen (.ref b) ys) Q E s := by
  unfold searchCouldBeSeen
  refine wpAny_bind ?_
  refine wpAny_forIn_list _ (fun rest r s1 => r.1 = none ∧ s1 = s ∧ ∀ y ∈ rest, ∃ k' c, y = Value.ref c ∧ (nestedKind P w).is s.heap k' c) _ ?_ ?_ _ _ ⟨rfl, rfl, hy⟩
  · rintro v rest r s1 ⟨hr, rfl, all⟩
    obtain ⟨k2, c, rfl, hc⟩ := all v List.mem_cons_self
    have more : ∀ y ∈ rest, ∃ k' c, y = Value.ref c ∧ (nestedKind P w).is s1.heap k' c := fun u hu => all u (List.mem_cons_of_mem _ hu)
    dsimp only
    by_cases hv : (b == c || (carriedByValue (.ref b) && carriedByValue (.ref c))) = true
    · exact wp_if_pos hv (wpAny_pure ⟨rfl, rfl, more⟩)
    · refine wp_if_neg hv (wpAny_bind ((nestedKind P w).quiet hk ?_))
      simp only [Bool.not_true, Bool.false_eq_true, if_false]
      refine wpAny_bind ((nestedKind P w).quiet hc ?_)
      simp only [Bool.not_true, Bool.false_eq_true, if_false]
      refine wpAny_bind ((calm_key (P := P) (w := w) k _ 8 s1 hk.1 hk.2).1 _ _ _ ?_)
      simp only [Bool.false_eq_true, if_false]
      refine wpAny_bind ((calm_key (P := P) (w := w) k2 _ 8 s1 hc.1 hc.2).1 _ _ _ ?_)
      simp only [Bool.false_eq_true, if_false]
      exact wpAny_pure ⟨rfl, rfl, more⟩
  · rintro ⟨r1, r2⟩ s1 ⟨hr, rfl, _⟩
    simp only at hr
    subst hr
    exact wpAny_pure h
theorem SetQ.row_at (R : SetQ w (tupK P w) s.heap a L es ep t) {i : Nat} {p : NestedKey × Value} (h : L[i]? = some p) : es[i]? = some (p.1.hash w, p.2) := by
  rw [← Array.getElem?_toList, R.rows, List.getElem?_map, h]
  rfl
/-- the c-th step of the way of h -/
abbrev stepN (m : Nat) (h : Int) (c : Nat) : SetTable.Probe := nth m (runAt m (SetTable.bits h % (m + 1)) (SetTable.bits h)) c
theorem stepN_dummy (m : Nat) (h : Int) (c : Nat) : (stepN m h c).dummy = none := by
  have key : ∀ (n : Nat) (p : SetTable.Probe), p.dummy = none → (nth m p n).dummy = none := by
    intro n
    induction n with
    | zero => exact fun p z => z
    | succ n ih =>
      intro p z
      refine ih (adv m p) ?_
      unfold adv
      split <;> exact z
  exact key c _ rfl
theorem look (R : SetQ w (tupK P w) s.heap a L es ep t) {x : Addr} {k : NestedKey} (hx : (nestedKind P w).is s.heap k x) (hu : A.units + 8 < cLine) {N : Nat} (hN : N < 10 * SetTable.turns t.mask)
    (free : way t.mask (k.hash w) N ∉ t.place.toList) (busy : ∀ c, c < N → way t.mask (k.hash w) c ∈ t.place.toList) {Q : SetFound → Shared → Prop}
    (hin : k ∈ L.map (·.1) → Q (.there none) s) (hout : k ∉ L.map (·.1) → Q (.free (way t.mask (k.hash w) N) false) s) :
    ∀ (f c : Nat) (stand : Option SetTable.Probe), stand.getD (t.probeStart (k.hash w)) = stepN t.mask (k.hash w) c → c ≤ N → N - c < f →
      (∀ (i : Nat) (p : NestedKey × Value), L[i]? = some p → p.1 = k → ∃ c', c ≤ c' ∧ c' < N ∧ t.place.toList[i]? = some (way t.mask (k.hash w) c')) →
      wpAny (model P w) A (setSearchFrom a (.ref x) (k.hash w) true f stand) Q E s
  | 0, c, stand, _, _, hf, _ => absurd hf (Nat.not_lt_zero _)
  | f + 1, c, stand, hst, hc, hf, ahead => by
    obtain ⟨o, ho, hex, hd⟩ := R.ob
    obtain ⟨T, room⟩ := R.ex
    have T : TabOk t ((L.map (·.1)).map fun k => k.hash w) := T
    have tsz : t.place.toList.length = L.length := by rw [Array.length_toList, T.sz, List.length_map, List.length_map]
    have add : ∀ q, nth t.mask (stepN t.mask (k.hash w) c) q = stepN t.mask (k.hash w) (c + q) := fun q => (nth_add t.mask c _ q).symm
    have addj : ∀ q, (nth t.mask (stepN t.mask (k.hash w) c) q).j = way t.mask (k.hash w) (c + q) := fun q => congrArg SetTable.Probe.j (add q)
    have toN : c + (N - c) = N := by omega
    have hAt : ∀ (i : Nat) (p : NestedKey × Value), L[i]? = some p → (fun i => (es[i]?.map (·.1)).getD 0) i = p.1.hash w := fun i p hp => by
      show (es[i]?.map (·.1)).getD 0 = _
      rw [R.row_at hp]
      rfl
    rw [setSearchFrom_succ]
    refine wpAny_bind (wpAny_setState_of ho hd R.fits ?_)
    dsimp only
    refine wp_if_neg (by unfold SetTable.gaveWay; rw [mask_odd T.mok]; decide) ?_
    try refine wpAny_bind (wpAny_pure ?_)
    rcases go_spec t T.ris T.dm (fun i => (es[i]?.map (·.1)).getD 0) (k.hash w) (10 * SetTable.turns t.mask) (N - c) _ (stepN_dummy t.mask (k.hash w) c) (by omega) (fun q hq => by rw [addj]; exact busy (c + q) (by omega)) (by rw [addj, toN]; exact free) with ⟨q, i, hq, hi, hh, hno, hpr⟩ | ⟨hno, hpr⟩
    · have hpr2 : t.probe (fun i => (es[i]?.map (·.1)).getD 0) (k.hash w) (stand.getD (t.probeStart (k.hash w))) = some (.candidate (way t.mask (k.hash w) (c + q)) i (stepN t.mask (k.hash w) (c + (q + 1)))) := by
        rw [hst, ← addj, ← add]
        exact hpr
      rw [hpr2]
      dsimp only
      rw [addj] at hi
      have il : i < L.length := by rw [← tsz]; exact (List.getElem?_eq_some_iff.mp hi).1
      obtain ⟨p, hp⟩ : ∃ p, L[i]? = some p := ⟨_, List.getElem?_eq_getElem il⟩
      have pm : p ∈ L := List.mem_of_getElem? hp
      obtain ⟨b, eb, hb⟩ := R.is_ p pm
      have sl : t.slot (way t.mask (k.hash w) (c + q)) = .live i := slot_live T.ris hi
      have body : wpAny (model P w) A (searchRest a (.ref x) (k.hash w) true f es t (way t.mask (k.hash w) (c + q)) i (stepN t.mask (k.hash w) (c + (q + 1)))) Q E s := by
        unfold searchRest
        rw [R.row_at hp, eb]
        dsimp only
        refine wpAny_bind (wpAny_holding ((nestedKind P w).eqBool hu hb hx ?_))
        refine wpAny_bind (wpAny_setState_of ho hd R.fits ?_)
        dsimp only
        by_cases hkk : p.1 = k
        · exact wp_if_pos (by simp [hkk]) (wpAny_pure (hin (hkk ▸ List.mem_map_of_mem pm)))
        · refine wp_if_neg (by simp [hkk]) ?_
          try refine wpAny_bind (wpAny_pure ?_)
          rw [sameMem]
          dsimp only
          simp only [if_true, sl, R.row_at hp, eb]
          refine wpAny_bind (wpAny_isSame_ref_self (wpAny_bind (wpAny_pure ?_)))
          simp only [if_true]
          refine wp_if_neg (by simp [hkk]) ?_
          refine look R hx hu hN free busy hin hout f (c + (q + 1)) _ rfl (by omega) (by omega) fun i0 p0 h0 e0 => ?_
          obtain ⟨c', a1, a2, a3⟩ := ahead i0 p0 h0 e0
          refine ⟨c', ?_, a2, a3⟩
          rcases Nat.lt_trichotomy c' (c + q) with z | z | z
          · refine (hno (c' - c) i0 (by omega) (by rw [addj, show c + (c' - c) = c' by omega]; exact a3) ?_).elim
            exact (hAt i0 p0 h0).trans (congrArg (NestedKey.hash w) e0)
          · rw [z] at a3
            have s2 := slot_live T.ris a3
            rw [sl] at s2
            injection s2 with s2
            rw [← s2, hp] at h0
            exact absurd ((congrArg Prod.fst (Option.some.inj h0)).trans e0) hkk
          · omega
      by_cases hl : t.led = true
      · refine wp_if_neg (by simp [hl]) ?_
        try refine wpAny_bind (wpAny_pure ?_)
        exact body
      · refine wp_if_pos (by simp [hl]) (wpAny_bind (unseen hx (fun y hy => ?_) ?_))
        · obtain ⟨e, he, rfl⟩ := List.mem_map.mp hy
          have he2 : e ∈ es.toList := by
            have : e ∈ es ∧ e.1 = k.hash w := by simpa using he
            simpa using this.1
          rw [R.rows] at he2
          obtain ⟨p2, hp2, rfl⟩ := List.mem_map.mp he2
          obtain ⟨b2, e2, h2⟩ := R.is_ p2 hp2
          exact ⟨p2.1, b2, e2, h2⟩
        · refine wp_if_neg (by decide) ?_
          try refine wpAny_bind (wpAny_pure ?_)
          exact body
    · have hpr2 : t.probe (fun i => (es[i]?.map (·.1)).getD 0) (k.hash w) (stand.getD (t.probeStart (k.hash w))) = some (.empty (way t.mask (k.hash w) N) none) := by
        have e2 : way t.mask (k.hash w) N = (nth t.mask (stepN t.mask (k.hash w) c) (N - c)).j := by rw [addj, toN]
        rw [hst, e2]
        exact hpr
      rw [hpr2]
      dsimp only
      refine wpAny_pure (hout fun hm => ?_)
      obtain ⟨p0, h0, e0⟩ := List.mem_map.mp hm
      obtain ⟨i0, hi0⟩ := List.mem_iff_getElem?.mp h0
      obtain ⟨c', a1, a2, a3⟩ := ahead i0 p0 hi0 e0
      refine hno (c' - c) i0 (by omega) (by rw [addj, show c + (c' - c) = c' by omega]; exact a3) ?_
      exact (hAt i0 p0 hi0).trans (congrArg (NestedKey.hash w) e0)
end
end SQ
end
section
set_option Elab.async false
set_option linter.all false
set_option maxRecDepth 100000
set_option maxHeartbeats 4000000
/-! MQa: sets of tuples: one more. -/
namespace SQ
open PySem PySem.Spec PyProof.Rows L2
section
variable {P : Program} {w : World} {A : Around} {E : Value → Shared → Prop} {s : Shared} {a : Addr} {L : List (NestedKey × Value)} {es : Array (Int × Value)} {ep : Nat} {t : SetTable}
theorem tab_fits {hs : List Int} (T : TabOk t hs) {n : Nat} (hn : hs.length = n) (hm : n ≤ t.mask) : t.fits n = true := by
  unfold SetTable.fits SetTable.fill
  rw [T.dm, Bool.and_eq_true, beq_iff_eq, decide_eq_true_eq]
  have := T.sz
  show t.place.size = n ∧ t.place.size + 0 ≤ t.mask
  omega
theorem tab_as {t2 : SetTable} {hs : List Int} (T : TabOk t hs) (e1 : t2.place = t.place) (e2 : t2.mask = t.mask) (e3 : t2.dummies = t.dummies) : TabOk t2 hs :=
  ⟨by rw [e1]; exact T.ris, by rw [e3]; exact T.dm, by rw [e1]; exact T.sz, by rw [e2]; exact T.mok, by rw [e1, e2]; exact T.bd, by rw [e1, e2]; exact T.reach⟩
theorem pick_all {α : Type} (l : List α) : (List.range l.length).filterMap (fun i => l[i]?) = l := by
  have key : ∀ n, n ≤ l.length → (List.range n).filterMap (fun i => l[i]?) = l.take n := by
    intro n
    induction n with
    | zero => intro _; rfl
    | succ n ih =>
      intro hn
      have hlt : n < l.length := hn
      rw [List.range_succ, List.filterMap_append, ih (Nat.le_of_lt hlt), List.take_add_one, List.getElem?_eq_getElem hlt, List.filterMap_cons_some (List.getElem?_eq_getElem hlt)]
      rfl
  rw [key l.length (Nat.le_refl _), List.take_length]
theorem pick_hash (es : Array (Int × Value)) : ∀ l : List Nat, (∀ i ∈ l, i < es.size) → (l.filterMap fun i => es[i]?).map (·.1) = l.map fun i => (es.map (·.1)).getD i 0
  | [], _ => rfl
  | i :: l, h => by
    have hi := h i List.mem_cons_self
    have e : es[i]? = some es[i] := Array.getElem?_eq_getElem hi
    rw [List.filterMap_cons_some e, List.map_cons, List.map_cons, pick_hash es l fun j hj => h j (List.mem_cons_of_mem _ hj)]
    congr 1
    simp [Array.getD_eq_getD_getElem?, hi]
theorem keys_hash {l : List (Int × Value)} (e : l = L.map (row (tupK P w))) : l.map (·.1) = (L.map (·.1)).map fun k => k.hash w := by
  subst e
  rw [List.map_map, List.map_map]
  rfl
theorem relay {o : Obj} (ho : s.heap.get? a = some o) (hex : o.ExactSet) (hd : o.data = .set es ep t) (rows : es.toList = L.map (row (tupK P w))) (T : TabOk t ((L.map (·.1)).map fun k => k.hash w)) (fl : L.length ≤ t.mask) (nd : (L.map (·.1)).Nodup)
    (is_ : ∀ h', Heap.SameBut a s.heap h' → ∀ p ∈ L, (tupK P w).isv h' p.1 p.2) (ld : w.params.followText "set-order" = true ∨ t.led = true) (few : L.length < 64) {wanted M : Nat} (hw : SetTable.sizeAbove wanted - 1 = M) (hM : MaskOk M) (hw2 : SetTable.sizeAbove wanted ≤ 128) (hn : L.length * 5 < M * 3) {Q : Unit → Shared → Prop}
    (q : ∀ h' L' es' ep' t', Heap.SameBut a s.heap h' → SetQ w (tupK P w) h' a L' es' ep' t' → L'.Perm L → Q () { s with heap := h' }) : wpAny (model P w) A (setRelay a wanted) Q E s := by
  have sz : es.size = L.length := by rw [← Array.length_toList, rows, List.length_map]
  obtain ⟨t', order, e, hp, T', em, el, _, ed⟩ := relaid_ok t (hs := es.map (·.1)) (wanted := wanted) hw hM (by rw [Array.size_map, sz]; omega)
  rw [Array.size_map] at hp
  have r0 : (order.filterMap (es[·]?)).toList = order.toList.filterMap fun i => es[i]? := by simp
  have pm : (order.toList.filterMap fun i => es[i]?).Perm es.toList := by
    have h1 := hp.filterMap fun i => es[i]?
    have h2 : (List.range es.size).filterMap (fun i => es[i]?) = es.toList := by
      have := pick_all es.toList
      rw [Array.length_toList] at this
      simpa using this
    rw [h2] at h1
    exact h1
  obtain ⟨L2, e2, p2⟩ := perm_map (f := row (tupK P w)) pm rows
  have hh : (L2.map (·.1)).map (fun k => k.hash w) = order.toList.map fun i => (es.map (·.1)).getD i 0 := by
    rw [← keys_hash (P := P) e2]
    exact pick_hash es order.toList fun i hi => List.mem_range.mp (hp.mem_iff.mp hi)
  rw [← hh] at T'
  have sz2 : (order.filterMap (es[·]?)).size = L.length := by rw [← Array.length_toList, r0, e2, List.length_map, p2.length_eq]
  rw [setRelay_eq]
  refine wpAny_bind (wpAny_setState_of ho hd (tab_fits T (by rw [List.length_map, List.length_map, sz]) (by rw [sz]; exact fl)) ?_)
  dsimp only
  refine wp_if_neg (by rw [sizeLine_eq]; omega) ?_
  try refine wpAny_bind (wpAny_pure ?_)
  rw [e]
  dsimp only
  refine wpAny_bind (wp_if_neg (by rw [sz2, sz]; simp) ?_)
  try refine wpAny_bind (wpAny_pure ?_)
  refine wpAny_pure ?_
  dsimp only
  refine wpAny_storeSet_of ho hd ?_ (by rw [sz2, sizeLine_eq]; omega)
  have sb : Heap.SameBut a s.heap (s.heap.update a (Obj.putSet (order.filterMap (es[·]?)) t')) := Heap.SameBut.update ..
  refine q _ L2 (order.filterMap (es[·]?)) (ep + 1) t' sb ⟨⟨_, store_at ho hd, ⟨hex.1, hex.2.1, hex.2.2⟩, rfl⟩, by rw [r0, e2], (p2.map (·.1)).nodup_iff.mpr nd, fun p hpm => is_ _ sb p (p2.mem_iff.mp hpm), ?_, T'.ris, by rw [el]; exact ld, by rw [p2.length_eq]; exact few, T', ?_⟩ p2
  · exact tab_fits T' (by rw [List.length_map, List.length_map, sz2, p2.length_eq]) (by rw [sz2, em]; omega)
  · rw [List.length_map, p2.length_eq, em]
    exact hn
theorem isv_same {h h' : Heap} {k : NestedKey} {v : Value} {o : Obj} (x : (tupK P w).isv h k v) (ho : h.get? a = some o) (hd : o.data = .set es ep t) (sb : Heap.SameBut a h h') : (tupK P w).isv h' k v := by
  obtain ⟨b, rfl, x1, x2⟩ := x
  refine ⟨b, rfl, NestedIs.at (fun c u vs n hu hv => ?_) _ _ x1, x2⟩
  have : c ≠ a := fun z => by
    rw [z, ho] at hu
    cases hu
    rw [hd] at hv
    cases hv
  exact (sb.2 c this).trans hu
theorem tup_add {k : NestedKey} {v : Value} {Q : Bool → Shared → Prop} (hu : A.units + 8 < cLine) (R : SetQ w (tupK P w) s.heap a L es ep t) (hk : (tupK P w).isv s.heap k v) (few : L.length + 1 < 64)
    (q : ∀ b h' L' es' ep' t', Heap.SameBut a s.heap h' → SetQ w (tupK P w) h' a L' es' ep' t' → (k ∈ L.map (·.1) → L' = L) → (k ∉ L.map (·.1) → L'.Perm ((k, v) :: L)) → Q b { s with heap := h' }) : wpAny (model P w) A (setAddHashed a v ((tupK P w).hash k)) Q E s := by
  obtain ⟨o, ho, hex, hd⟩ := R.ob
  have hk0 := hk
  obtain ⟨x, rfl, hx⟩ := hk
  have sz := R.size
  obtain ⟨T, room⟩ := R.ex
  have T : TabOk t ((L.map (·.1)).map fun k => k.hash w) := T
  have room : L.length * 5 < t.mask * 3 := by
    have : (L.map (·.1)).length * 5 < t.mask * 3 := room
    rw [List.length_map] at this
    exact this
  obtain ⟨N, hN, free, busy⟩ := T.first (by rw [List.length_map, List.length_map]; omega) (k.hash w)
  show wpAny _ _ (setAddHashed a (.ref x) (k.hash w)) _ _ _
  unfold setAddHashed
  refine wpAny_holding ?_
  rw [show (100000 : Nat) = 99999 + 1 from rfl, setAddHashedIn_succ]
  refine wpAny_bind (wpAny_setState_of ho hd R.fits ?_)
  dsimp only
  refine wp_if_neg (by simp [byScan, Value.scannable]) ?_
  try refine wpAny_bind (wpAny_pure ?_)
  refine wpAny_bind ?_
  unfold setSearch
  refine look R hx hu hN free busy (fun hm => ?_) (fun hm => ?_) 100000 0 none rfl (Nat.zero_le _) (by
      have : 10 * SetTable.turns t.mask ≤ 1420 := by
        unfold SetTable.turns
        rcases T.mok with e | e | e <;> omega
      omega) fun i p hp e => ?_
  · dsimp only
    exact wpAny_pure (q false s.heap L es ep t (Heap.SameBut.refl a s.heap) R (fun _ => rfl) fun z => absurd hm z)
  · dsimp only
    refine wpAny_bind (wpAny_setState_of ho hd R.fits ?_)
    dsimp only
    obtain ⟨q1, q2, q3, q4, q5, _, _, _, q9⟩ := T.put free busy
    generalize hpt : t.put (way t.mask (k.hash w) N) = pt at q1 q3 q4 q5 q9 ⊢
    obtain ⟨t1, p⟩ := pt
    dsimp only at q1 q3 q4 q5 q9 ⊢
    subst q1
    generalize SetTable.below t.place (way t.mask (k.hash w) N) = p at q2 q3 ⊢
    have in1 : (SetTable.insertAt es p (k.hash w, Value.ref x)).toList = (L.take p ++ (k, Value.ref x) :: L.drop p).map (row (tupK P w)) := by
      rw [SetTable.toList_insertAt, R.rows, List.map_append, List.map_cons, List.map_take, List.map_drop]
      rfl
    have pm : (L.take p ++ (k, Value.ref x) :: L.drop p).Perm ((k, Value.ref x) :: L) := put_perm L p (k, Value.ref x)
    have hh : ((L.take p ++ (k, Value.ref x) :: L.drop p).map (·.1)).map (fun k => k.hash w) = ((L.map (·.1)).map fun k => k.hash w).take p ++ k.hash w :: ((L.map (·.1)).map fun k => k.hash w).drop p := by
      simp [List.map_append, List.map_take, List.map_drop]
    rw [← hh] at q3
    generalize L.take p ++ (k, Value.ref x) :: L.drop p = L1 at in1 pm q3
    generalize SetTable.insertAt es p (k.hash w, Value.ref x) = es1 at in1 ⊢
    have len1 : L1.length = L.length + 1 := pm.length_eq
    have sz1 : es1.size = L.length + 1 := by rw [← Array.length_toList, in1, List.length_map, len1]
    have nd1 : (L1.map (·.1)).Nodup := (pm.map (·.1)).nodup_iff.mpr (List.nodup_cons.mpr ⟨hm, R.nd⟩)
    have end_ : ∀ t2 : SetTable, t2.place = t1.place → t2.mask = t1.mask → t2.dummies = t1.dummies → t2.led = t1.led → wpAny (model P w) A (do
        storeSet a es1 t2
        if (!false && t2.tooFull) = true then do
            setRelay a (SetTable.grown (es.size + 1))
            pure true
          else pure true) Q E s := by
      intro t2 e1 e2 e3 e4
      have T2 := tab_as q3 e1 e2 e3
      have ld2 : w.params.followText "set-order" = true ∨ t2.led = true := by rw [e4, q5]; exact R.led
      refine wpAny_bind (wpAny_storeSet_of ho hd ?_ (by rw [sz1, sizeLine_eq]; omega))
      have sb : Heap.SameBut a s.heap (s.heap.update a (Obj.putSet es1 t2)) := Heap.SameBut.update ..
      have ho1 := store_at (es' := es1) (t' := t2) ho hd
      have isv1 : ∀ h', Heap.SameBut a s.heap h' → ∀ p ∈ L1, (tupK P w).isv h' p.1 p.2 := fun h' sb p hp => by
        rcases List.mem_cons.mp (pm.mem_iff.mp hp) with e | hp
        · rw [e]; exact isv_same hk0 ho hd sb
        · exact isv_same (R.is_ p hp) ho hd sb
      generalize s.heap.update a (Obj.putSet es1 t2) = h1 at sb ho1 ⊢
      have fill2 : t2.fill = L.length + 1 := by
        unfold SetTable.fill
        rw [e1, e3]
        have := q9
        unfold SetTable.fill at this
        rw [this, List.length_map, List.length_map]
      by_cases hf : t2.tooFull = true
      · refine wp_if_pos (by simp [hf]) ?_
        have full : (L.length + 1) * 5 ≥ t2.mask * 3 := by
          have h := hf
          unfold SetTable.tooFull at h
          rw [decide_eq_true_eq, fill2] at h
          exact h
        rw [sz]
        have which : (t.mask = 7 ∧ L.length = 4) ∨ (t.mask = 31 ∧ L.length = 18) := by
          rw [e2, q4] at full
          rcases T.mok with e | e | e <;> rw [e] at full room
          · exact .inl ⟨e, by omega⟩
          · exact .inr ⟨e, by omega⟩
          · omega
        have go : ∀ M, SetTable.sizeAbove (SetTable.grown (L.length + 1)) - 1 = M → MaskOk M → SetTable.sizeAbove (SetTable.grown (L.length + 1)) ≤ 128 → (L.length + 1) * 5 < M * 3 → wpAny (model P w) A (setRelay a (SetTable.grown (L.length + 1)) >>= fun _ => pure true) Q E { s with heap := h1 } := fun M a1 a2 a3 a4 => by
          refine wpAny_bind (relay (s := { s with heap := h1 }) ho1 ⟨hex.1, hex.2.1, hex.2.2⟩ rfl in1 T2 (by rw [len1, e2, q4]; rcases which with ⟨z, z2⟩ | ⟨z, z2⟩ <;> omega) nd1 (fun h' sb2 => isv1 h' (sb.trans sb2)) ld2 (by rw [len1]; exact few) a1 a2 a3 (by rw [len1]; exact a4) fun h2 L2 es2 ep2 t3 sb2 R2 p2 => ?_)
          exact wpAny_pure (q true h2 L2 es2 ep2 t3 (sb.trans sb2) R2 (fun z => absurd z hm) fun _ => p2.trans pm)
        rcases which with ⟨_, z⟩ | ⟨_, z⟩
        · exact go 31 (by rw [z, size_20]) (.inr (.inl rfl)) (by rw [z, size_20]; decide) (by omega)
        · exact go 127 (by rw [z, size_76]) (.inr (.inr rfl)) (by rw [z, size_76]; decide) (by omega)
      · refine wp_if_neg (by simp [hf]) (wpAny_pure (q true h1 L1 es1 (ep + 1) t2 sb ⟨⟨_, ho1, ⟨hex.1, hex.2.1, hex.2.2⟩, rfl⟩, in1, nd1, isv1 h1 sb, ?_, T2.ris, ld2, by rw [len1]; exact few, T2, ?_⟩ (fun z => absurd z hm) fun _ => pm))
        · exact tab_fits T2 (by rw [List.length_map, List.length_map, len1, sz1]) (by rw [sz1, e2, q4]; omega)
        · have h := hf
          unfold SetTable.tooFull at h
          rw [decide_eq_true_eq, fill2] at h
          rw [List.length_map, len1]
          omega
    by_cases hpl : t1.plain = true
    · refine wp_if_pos hpl (wpAny_bind ((calm_key (P := P) (w := w) k _ 8 s hx.1 hx.2).2 _ _ _ fun b => ?_))
      cases b with
      | true => exact end_ t1 rfl rfl rfl rfl
      | false => exact end_ { t1 with plain := false } rfl rfl rfl rfl
    · exact wp_if_neg hpl (wpAny_bind (wpAny_pure (end_ t1 rfl rfl rfl rfl)))
  · have hi : ((L.map (·.1)).map fun k => k.hash w)[i]? = some (k.hash w) := by rw [List.getElem?_map, List.getElem?_map, hp, ← e]; rfl
    have il : i < t.place.toList.length := by
      rw [Array.length_toList, T.sz, List.length_map, List.length_map]
      exact (List.getElem?_eq_some_iff.mp hp).1
    obtain ⟨c, c1, c2⟩ := T.before free hi (List.getElem?_eq_getElem il)
    exact ⟨c, Nat.zero_le _, c1, by rw [List.getElem?_eq_getElem il, c2]⟩
theorem tup_laws : Laws P w (tupK P w) where
  keep := fun {h h' k v} ⟨b, e, x⟩ kp => ⟨b, e, NestedIs.at kp _ _ x.1, x.2⟩
  fresh := fun led => ⟨⟨List.Pairwise.nil, rfl, rfl, .inl rfl, fun x hx => (by cases hx), fun i h j hi => (by simp at hi)⟩, by show 0 * 5 < 7 * 3; decide⟩
  hashed := fun {A E s k v Q} hu ⟨b, e, x⟩ q => by
    subst e
    exact (nestedKind P w).pyHash hu x (q _ (Nat.le_add_right _ _))
  add := fun hu R hk few q => tup_add hu R hk few q
end
end SQ
end
section
set_option Elab.async false
set_option linter.all false
set_option maxRecDepth 100000
set_option maxHeartbeats 4000000
/-! MPy: set(xs), by rows. -/
namespace SQ
open PySem PySem.Spec PyProof.Rows L2
variable {P : Program} {w : World} {K : Type} [DecidableEq K] {kd : Kd K}
/-- what the set has of the first i -/
structure Has (ks : List (K × Value)) (i : Nat) (L : List (K × Value)) : Prop where
  sub : ∀ p ∈ L, p ∈ ks.take i
  all : ∀ p ∈ ks.take i, p.1 ∈ L.map (·.1)
  len : L.length ≤ i
theorem Has.zero (ks : List (K × Value)) : Has ks 0 [] := ⟨fun p h => (by cases h), fun p h => (by simp at h), Nat.le_refl _⟩
theorem Has.step {ks L L' : List (K × Value)} {i : Nat} {x : K × Value} (g : Has ks i L) (h : ks[i]? = some x) (c1 : x.1 ∈ L.map (·.1) → L' = L) (c2 : x.1 ∉ L.map (·.1) → L'.Perm (x :: L)) : Has ks (i + 1) L' := by
  have tk : ks.take (i + 1) = ks.take i ++ [x] := by rw [List.take_add_one, h]; rfl
  by_cases hm : x.1 ∈ L.map (·.1)
  · rw [c1 hm]
    refine ⟨fun p hp => by rw [tk]; exact List.mem_append_left _ (g.sub p hp), fun p hp => ?_, Nat.le_succ_of_le g.len⟩
    rw [tk] at hp
    rcases List.mem_append.mp hp with z | z
    · exact g.all p z
    · rw [List.mem_singleton.mp z]; exact hm
  · have pm := c2 hm
    refine ⟨fun p hp => ?_, fun p hp => ?_, by rw [pm.length_eq]; exact Nat.succ_le_succ g.len⟩
    · rw [tk]
      rcases List.mem_cons.mp (pm.mem_iff.mp hp) with z | z
      · rw [z]; exact List.mem_append_right _ (List.mem_singleton.mpr rfl)
      · exact List.mem_append_left _ (g.sub p z)
    · rw [(pm.map (·.1)).mem_iff, List.map_cons]
      rw [tk] at hp
      rcases List.mem_append.mp hp with z | z
      · exact List.mem_cons_of_mem _ (g.all p z)
      · rw [List.mem_singleton.mp z]; exact List.mem_cons_self
section
variable {A : Around} {E : Value → Shared → Prop} {s : Shared}
theorem SetQ.keep (Lw : Laws P w kd) {h h' : Heap} {a : Addr} {L : List (K × Value)} {es : Array (Int × Value)} {ep : Nat} {t : SetTable} (R : SetQ w kd h a L es ep t) (ha : ∀ o, h.get? a = some o → h'.get? a = some o) (k : ∀ b o vs n, h.get? b = some o → o.data = .seq vs n → h'.get? b = some o) : SetQ w kd h' a L es ep t := by
  obtain ⟨o, ho, r⟩ := R.ob
  exact ⟨⟨o, ha o ho, r⟩, R.rows, R.nd, fun p hp => Lw.keep (R.is_ p hp) k, R.fits, R.ris, R.led, R.few, R.ex⟩
theorem SetQ.new (Lw : Laws P w kd) {h : Heap} {a : Addr} (ho : h.get? a = some ⟨.type "set", none, .set #[] 0 (.fresh 0 0 (!w.params.followText "set-order")), #[]⟩) : SetQ w kd h a [] #[] 0 (.fresh 0 0 (!w.params.followText "set-order")) := by
  refine ⟨⟨_, ho, ⟨rfl, rfl, rfl⟩, rfl⟩, rfl, List.nodup_nil, fun p hp => (by cases hp), rfl, List.Pairwise.nil, ?_, (show 0 < 64 by omega), Lw.fresh _⟩
  show _ ∨ (!w.params.followText "set-order") = true
  cases w.params.followText "set-order"
  · exact .inr rfl
  · exact .inl rfl
theorem fill (Lw : Laws P w kd) {I : Addr} {fp wr : List Addr} {G : Array GenState → Array GenState → Prop} {n : Nat} {Pv : Nat → Value → Prop} {St : Nat → Shared → Prop} {R : Result → Shared → Prop}
    (W : WalksS P w A.in1 I fp wr G n Pv St) (S : Addr) (hSf : S ∉ fp) (ks : List (K × Value)) (hn : n = ks.length) (few : ks.length < 64) (hval : ∀ i v, Pv i v → ∃ p, ks[i]? = some p ∧ v = p.2)
    (h0 : Heap) (hk : ∀ p ∈ ks, kd.isv h0 p.1 p.2) (hS0 : h0.get? S = none) (hw0 : ∀ b ∈ wr, h0.get? b = none) (hu : kd.room A.in1) :
    ∀ (m i : Nat) (s : Shared), n - i = m → i ≤ n → St i s → (∀ b o, h0.get? b = some o → s.heap.get? b = some o) → (∃ L es ep t, SetQ w kd s.heap S L es ep t ∧ Has ks i L) →
      (∀ s' L es ep t, Moved (S :: wr) G s s' → SetQ w kd s'.heap S L es ep t → Has ks n L → (∀ b o, h0.get? b = some o → s'.heap.get? b = some o) → R (.ok (.ret .none)) s') →
      codeAny (model P w) A (.builtin "set.update.loop" ⟨[.ref S, .ref I], []⟩) R s := by
  have nw : S ∉ wr := fun z => hSf (W.sub _ z)
  have up : ∀ b ∈ wr, b ∈ S :: wr := fun b hb => List.mem_cons_of_mem _ hb
  have kept : ∀ {s s' : Shared}, Moved wr G s s' → (∀ b o, h0.get? b = some o → s.heap.get? b = some o) → ∀ b o, h0.get? b = some o → s'.heap.get? b = some o := fun hm q b o e =>
    hm.heap b o (fun hb => by rw [hw0 b hb] at e; cases e) (q b o e)
  -- the set's members were there from the start
  have carry : ∀ {h h' : Heap} {L : List (K × Value)} {es : Array (Int × Value)} {ep : Nat} {t : SetTable} {i : Nat}, SetQ w kd h S L es ep t → Has ks i L → (∀ o, h.get? S = some o → h'.get? S = some o) → (∀ b o, h0.get? b = some o → h'.get? b = some o) → SetQ w kd h' S L es ep t := fun {h h' L es ep t i} Q g c1 c2 => by
    obtain ⟨o, ho, r⟩ := Q.ob
    exact ⟨⟨o, c1 o ho, r⟩, Q.rows, Q.nd, fun p hp => Lw.keep (hk p (List.mem_of_mem_take (g.sub p hp))) fun b o _ _ e _ => c2 b o e, Q.fits, Q.ris, Q.led, Q.few, Q.ex⟩
  intro m
  induction m with
  | zero =>
    intro i s hm hi hst q ⟨L, es, ep, t, hS, g⟩ hR
    have e : i = n := by omega
    subst e
    refine codeAny_builtin F.entry_set_update_loop ?_
    rw [Around.under_plainId F.plain_set_update_loop _]
    refine wpAny_bind (m := pyNext (.ref I)) (W.done s _ _ hst fun s' mv => ?_)
    exact wpAny_pure (hR s' L es ep t (mv.mono up) (carry hS g (fun o e => mv.heap S o nw e) (kept mv q)) g (kept mv q))
  | succ m ih =>
    intro i s hm hi hst q ⟨L, es, ep, t, hS, g⟩ hR
    have lt : i < n := by omega
    refine codeAny_builtin F.entry_set_update_loop ?_
    rw [Around.under_plainId F.plain_set_update_loop _]
    refine wpAny_bind (m := pyNext (.ref I)) (W.item i s _ _ lt hst fun v s' hP hst' mv => ?_)
    obtain ⟨p, hp, rfl⟩ := hval i v hP
    have q1 := kept mv q
    have Q1 := carry hS g (fun o e => mv.heap S o nw e) q1
    have x1 : kd.isv s'.heap p.1 p.2 := Lw.keep (hk p (List.mem_of_getElem? hp)) fun b o _ _ e _ => q1 b o e
    show wpAny _ A.in1 (holding [p.2] (setAdd S p.2) >>= _) _ _ s'
    refine wpAny_bind (wpAny_holding ?_)
    unfold setAdd
    refine wpAny_holding (wpAny_bind (Lw.hashed hu x1 fun tk htk => ?_))
    refine Lw.add (s := { s' with toks := tk }) hu Q1 x1 (by have := g.len; omega) fun b h' L' es' ep' t' sb Q2 c1 c2 => ?_
    have q2 : ∀ b o, h0.get? b = some o → h'.get? b = some o := fun b o e => (sb.2 b (fun z => by rw [z, hS0] at e; cases e)).trans (q1 b o e)
    refine wpAny_pure ⟨plainId_quiet F.plain_set_update_loop _, ih (i + 1) _ (by omega) lt (W.frame _ s' _ _ hst' htk fun b hb o e => ?_) q2 ⟨L', es', ep', t', Q2, g.step hp c1 c2⟩ fun s'' L2 es2 ep2 t2 mv2 Q3 g3 q3 => ?_⟩
    · rw [sb.2 b (fun z => hSf (z ▸ hb))]; exact e
    · refine hR s'' L2 es2 ep2 t2 (Moved.trans W.gtrans ((mv.mono up).then_heap htk fun b o hb e => ?_) mv2) Q3 g3 q3
      rw [sb.2 b (fun z => hb (by rw [z]; exact List.mem_cons_self))]; exact e

set_option maxHeartbeats 6400000 in
theorem set_of_list (Lw : Laws P w kd) {l : Addr} {items : Array Value} (ks : List (K × Value)) {Q : Value → Shared → Prop} (hh : A.handled = none) (hl : s.heap.IsList l items) (hit : items.toList = ks.map (·.2)) (hk : ∀ p ∈ ks, kd.isv s.heap p.1 p.2) (few : ks.length < 64) (hu : kd.room A.in1.in1.in1)
    (q : ∀ (h' : Heap) (tk : Nat) L es ep t, SetQ w kd h' s.heap.objs.size L es ep t → Has ks ks.length L → (∀ b o, s.heap.get? b = some o → h'.get? b = some o) → Q (.ref s.heap.objs.size) { s with heap := h', toks := tk }) :
    wpAny (model P w) A (call (.type "set") [.ref l]) Q E s := by
  have isz : items.size = ks.length := by rw [← Array.length_toList, hit, List.length_map]
  obtain ⟨c, tl, hmro⟩ := F.called_set.mro
  have hmade := F.called_set.made
  have hsub := F.called_set.sub
  refine wpAny_call (codeAny_of_tree ?_)
  show wpAny _ _ (callAny (.type "set") _) _ _ _
  refine wpAny_pure ⟨Code.quiet_builtin _ (by decide +kernel), codeAny_builtin F.entry_type_call ?_⟩
  rw [Around.under_plain (weight_type_call_type "set" [.ref l] []) rfl]
  have h1 := F.called_set.notType
  have h2 := F.called_set.canCreate
  have hct := F.typeCall_set_1 (.ref l)
  repeat (any_goals (first | assumption | wp_step))
  refine codeAny_mono (code_set_led1 (.ref l) (E := E) (Q₁ := fun u s1 => u = .ref s.heap.objs.size ∧ s1 = { s with heap := s.heap.push ({ cls := .type "set", dict := none, data := .set #[] 0 (.fresh 0 0 (!w.params.followText "set-order")), slots := #[] } : Obj) }) ⟨rfl, rfl⟩) fun r s1 hr1 => ?_
  cases r with
  | error e => exact hr1
  | ok fl =>
    cases fl with
    | ret u =>
      obtain ⟨rfl, rfl⟩ := hr1
      have gS : (s.heap.push ({ cls := .type "set", dict := none, data := .set #[] 0 (.fresh 0 0 (!w.params.followText "set-order")), slots := #[] } : Obj)).get? s.heap.objs.size = some ({ cls := .type "set", dict := none, data := .set #[] 0 (.fresh 0 0 (!w.params.followText "set-order")), slots := #[] } : Obj) := Heap.get?_push_size _ rfl
      have hT : Shared.TypeIs { s with heap := s.heap.push ({ cls := .type "set", dict := none, data := .set #[] 0 (.fresh 0 0 (!w.params.followText "set-order")), slots := #[] } : Obj) } (.ref s.heap.objs.size) "set" := ⟨_, gS, rfl⟩
      have hli := F.called_set.init.lookup
      have hbi := F.called_set.init.bind (.ref s.heap.objs.size)
      repeat (any_goals (first | assumption | wp_step))
      refine codeAny_mono (codeAny_call_builtin (R := wants (fun r s2 => r = .none ∧ ∃ h' tk L es ep t, s2 = { s with heap := h', toks := tk } ∧ SetQ w kd h' s.heap.objs.size L es ep t ∧ Has ks ks.length L ∧ (∀ b o, s.heap.get? b = some o → h'.get? b = some o)) E) F.called_set.init.plain F.entry_set_init (check_set_init_1 hT ?_)) fun r2 s2 hr2 => ?_
      · obtain ⟨ol, hol, hcl, nl, hdl⟩ := hl
        obtain ⟨ocls, odict, odata, oslots⟩ := ol
        simp only at hcl hdl
        subst hcl
        subst hdl
        have hol' : (s.heap.push ({ cls := .type "set", dict := none, data := .set #[] 0 (.fresh 0 0 (!w.params.followText "set-order")), slots := #[] } : Obj)).get? l = some ⟨.type "list", odict, .seq items nl, oslots⟩ := Heap.get?_push_of_some _ hol
        have hsls := F.sub_list_set
        have hslf := F.sub_list_frozenset
        have hne : (Value.type "list" == Value.type "dict") = false := by decide
        have hl1 : (s.heap.push ({ cls := .type "set", dict := none, data := .set #[] 0 (.fresh 0 0 (!w.params.followText "set-order")), slots := #[] } : Obj)).IsList l items := ⟨_, hol', rfl, nl, rfl⟩
        unfold Builtin.«set.__init__» noKeywords Builtin.Frozenset.updateFrom
        generalize hPI : pyIter = PI
        wp_walk
        subst hPI
        refine wpAny_pyIter_list hl1 ?_
        refine wpAny_bind (wpAny_runValue ?_)
        have llt : l < s.heap.objs.size := Heap.lt_size hol
        have hh3 : A.in1.in1.in1.handled = none := hh
        have sz1 : (s.heap.push ({ cls := .type "set", dict := none, data := .set #[] 0 (.fresh 0 0 (!w.params.followText "set-order")), slots := #[] } : Obj)).objs.size = s.heap.objs.size + 1 := Heap.size_push ..
        have nI : l ≠ (s.heap.push ({ cls := .type "set", dict := none, data := .set #[] 0 (.fresh 0 0 (!w.params.followText "set-order")), slots := #[] } : Obj)).objs.size := by rw [sz1]; exact Nat.ne_of_lt (Nat.lt_succ_of_lt llt)
        have nS : s.heap.objs.size ∉ [(s.heap.push ({ cls := .type "set", dict := none, data := .set #[] 0 (.fresh 0 0 (!w.params.followText "set-order")), slots := #[] } : Obj)).objs.size, l] := by
          rw [sz1]
          simp only [List.mem_cons, List.not_mem_nil, or_false, not_or]
          exact ⟨Nat.ne_of_lt (Nat.lt_succ_self _), Nat.ne_of_gt llt⟩
        have hval : ∀ (i : Nat) (v : Value), items[i]? = some v → ∃ p, ks[i]? = some p ∧ v = p.2 := fun i v hv => by
          have z : items.toList[i]? = some v := by rw [Array.getElem?_toList]; exact hv
          rw [hit, List.getElem?_map] at z
          cases hq : ks[i]? with
          | none => rw [hq] at z; cases z
          | some p =>
            rw [hq] at z
            exact ⟨p, rfl, (Option.some.inj z).symm⟩
        have none_of : ∀ b, s.heap.objs.size ≤ b → s.heap.get? b = none := fun b hb => by
          cases z : s.heap.get? b with
          | none => rfl
          | some o => exact absurd (Nat.lt_of_lt_of_le (Heap.lt_size z) hb) (Nat.lt_irrefl _)
        refine fill Lw ((Walks.list hh3 _ l nI items).toS) s.heap.objs.size nS ks isz few hval s.heap hk (none_of _ (Nat.le_refl _)) (fun b hb => none_of b (by
            rw [List.mem_singleton.mp hb, sz1]
            exact Nat.le_succ _)) hu (items.size - 0) 0 _ (by omega) (Nat.zero_le _)
          ⟨⟨_, Heap.get?_push_size _ rfl, rfl, rfl⟩, hl1.push _⟩ (fun b o e => Heap.get?_push_of_some _ (Heap.get?_push_of_some _ e)) ?hS0 ?hR
        case hS0 =>
          exact ⟨[], #[], 0, _, SetQ.new Lw (Heap.get?_push_of_some _ gS), Has.zero ks⟩
        case hR =>
          intro s' L es ep t hm Q1 g1 kp
          obtain ⟨h', g2, d', tk', os'⟩ := s'
          have eg : g2 = s.gens := hm.gens
          have ed : d' = s.drawn := hm.drawn
          have eo : os' = s.os := hm.os
          subst eg
          subst ed
          subst eo
          rw [isz] at g1
          show wpAny _ _ _ _ _ _
          refine wpAny_pure ?_
          show wpAny _ _ (ret Value.none) _ _ _
          exact wpAny_pure ⟨rfl, h', tk', L, es, ep, t, rfl, Q1, g1, kp⟩
      · cases r2 with
        | error e => exact hr2
        | ok fl2 =>
          cases fl2 with
          | ret r =>
            obtain ⟨rfl, h', tk, L, es, ep, t, rfl, Q1, g1, kp⟩ := hr2
            repeat (any_goals (first | assumption | wp_step))
            exact q _ _ _ _ _ _ Q1 g1 kp
          | _ => exact hr2.elim
    | _ => exact hr1.elim

set_option maxHeartbeats 6400000 in
theorem set_of_tuple (Lw : Laws P w kd) {l : Addr} {items : Array Value} (ks : List (K × Value)) {Q : Value → Shared → Prop} (hh : A.handled = none) (hl : s.heap.IsTuple l items) (hit : items.toList = ks.map (·.2)) (hk : ∀ p ∈ ks, kd.isv s.heap p.1 p.2) (few : ks.length < 64) (hu : kd.room A.in1.in1.in1)
    (q : ∀ (h' : Heap) (tk : Nat) L es ep t, SetQ w kd h' s.heap.objs.size L es ep t → Has ks ks.length L → (∀ b o, s.heap.get? b = some o → h'.get? b = some o) → Q (.ref s.heap.objs.size) { s with heap := h', toks := tk }) :
    wpAny (model P w) A (call (.type "set") [.ref l]) Q E s := by
  have isz : items.size = ks.length := by rw [← Array.length_toList, hit, List.length_map]
  obtain ⟨c, tl, hmro⟩ := F.called_set.mro
  have hmade := F.called_set.made
  have hsub := F.called_set.sub
  refine wpAny_call (codeAny_of_tree ?_)
  show wpAny _ _ (callAny (.type "set") _) _ _ _
  refine wpAny_pure ⟨Code.quiet_builtin _ (by decide +kernel), codeAny_builtin F.entry_type_call ?_⟩
  rw [Around.under_plain (weight_type_call_type "set" [.ref l] []) rfl]
  have h1 := F.called_set.notType
  have h2 := F.called_set.canCreate
  have hct := F.typeCall_set_1 (.ref l)
  repeat (any_goals (first | assumption | wp_step))
  refine codeAny_mono (code_set_led1 (.ref l) (E := E) (Q₁ := fun u s1 => u = .ref s.heap.objs.size ∧ s1 = { s with heap := s.heap.push ({ cls := .type "set", dict := none, data := .set #[] 0 (.fresh 0 0 (!w.params.followText "set-order")), slots := #[] } : Obj) }) ⟨rfl, rfl⟩) fun r s1 hr1 => ?_
  cases r with
  | error e => exact hr1
  | ok fl =>
    cases fl with
    | ret u =>
      obtain ⟨rfl, rfl⟩ := hr1
      have gS : (s.heap.push ({ cls := .type "set", dict := none, data := .set #[] 0 (.fresh 0 0 (!w.params.followText "set-order")), slots := #[] } : Obj)).get? s.heap.objs.size = some ({ cls := .type "set", dict := none, data := .set #[] 0 (.fresh 0 0 (!w.params.followText "set-order")), slots := #[] } : Obj) := Heap.get?_push_size _ rfl
      have hT : Shared.TypeIs { s with heap := s.heap.push ({ cls := .type "set", dict := none, data := .set #[] 0 (.fresh 0 0 (!w.params.followText "set-order")), slots := #[] } : Obj) } (.ref s.heap.objs.size) "set" := ⟨_, gS, rfl⟩
      have hli := F.called_set.init.lookup
      have hbi := F.called_set.init.bind (.ref s.heap.objs.size)
      repeat (any_goals (first | assumption | wp_step))
      refine codeAny_mono (codeAny_call_builtin (R := wants (fun r s2 => r = .none ∧ ∃ h' tk L es ep t, s2 = { s with heap := h', toks := tk } ∧ SetQ w kd h' s.heap.objs.size L es ep t ∧ Has ks ks.length L ∧ (∀ b o, s.heap.get? b = some o → h'.get? b = some o)) E) F.called_set.init.plain F.entry_set_init (check_set_init_1 hT ?_)) fun r2 s2 hr2 => ?_
      · obtain ⟨ol, hol, hcl, nl, hdl⟩ := hl
        obtain ⟨ocls, odict, odata, oslots⟩ := ol
        simp only at hcl hdl
        subst hcl
        subst hdl
        have hol' : (s.heap.push ({ cls := .type "set", dict := none, data := .set #[] 0 (.fresh 0 0 (!w.params.followText "set-order")), slots := #[] } : Obj)).get? l = some ⟨.type "tuple", odict, .seq items nl, oslots⟩ := Heap.get?_push_of_some _ hol
        have hsls := F.sub_tuple_set
        have hslf := F.sub_tuple_frozenset
        have hne : (Value.type "tuple" == Value.type "dict") = false := by decide
        have hl1 : (s.heap.push ({ cls := .type "set", dict := none, data := .set #[] 0 (.fresh 0 0 (!w.params.followText "set-order")), slots := #[] } : Obj)).IsTuple l items := ⟨_, hol', rfl, nl, rfl⟩
        unfold Builtin.«set.__init__» noKeywords Builtin.Frozenset.updateFrom
        generalize hPI : pyIter = PI
        wp_walk
        subst hPI
        refine wpAny_pyIter_tuple hl1 ?_
        refine wpAny_bind (wpAny_runValue ?_)
        have llt : l < s.heap.objs.size := Heap.lt_size hol
        have hh3 : A.in1.in1.in1.handled = none := hh
        have sz1 : (s.heap.push ({ cls := .type "set", dict := none, data := .set #[] 0 (.fresh 0 0 (!w.params.followText "set-order")), slots := #[] } : Obj)).objs.size = s.heap.objs.size + 1 := Heap.size_push ..
        have nI : l ≠ (s.heap.push ({ cls := .type "set", dict := none, data := .set #[] 0 (.fresh 0 0 (!w.params.followText "set-order")), slots := #[] } : Obj)).objs.size := by rw [sz1]; exact Nat.ne_of_lt (Nat.lt_succ_of_lt llt)
        have nS : s.heap.objs.size ∉ [(s.heap.push ({ cls := .type "set", dict := none, data := .set #[] 0 (.fresh 0 0 (!w.params.followText "set-order")), slots := #[] } : Obj)).objs.size, l] := by
          rw [sz1]
          simp only [List.mem_cons, List.not_mem_nil, or_false, not_or]
          exact ⟨Nat.ne_of_lt (Nat.lt_succ_self _), Nat.ne_of_gt llt⟩
        have hval : ∀ (i : Nat) (v : Value), items[i]? = some v → ∃ p, ks[i]? = some p ∧ v = p.2 := fun i v hv => by
          have z : items.toList[i]? = some v := by rw [Array.getElem?_toList]; exact hv
          rw [hit, List.getElem?_map] at z
          cases hq : ks[i]? with
          | none => rw [hq] at z; cases z
          | some p =>
            rw [hq] at z
            exact ⟨p, rfl, (Option.some.inj z).symm⟩
        have none_of : ∀ b, s.heap.objs.size ≤ b → s.heap.get? b = none := fun b hb => by
          cases z : s.heap.get? b with
          | none => rfl
          | some o => exact absurd (Nat.lt_of_lt_of_le (Heap.lt_size z) hb) (Nat.lt_irrefl _)
        refine fill Lw ((Walks.tuple hh3 _ l nI items).toS) s.heap.objs.size nS ks isz few hval s.heap hk (none_of _ (Nat.le_refl _)) (fun b hb => none_of b (by
            rw [List.mem_singleton.mp hb, sz1]
            exact Nat.le_succ _)) hu (items.size - 0) 0 _ (by omega) (Nat.zero_le _)
          ⟨⟨_, Heap.get?_push_size _ rfl, rfl, rfl⟩, hl1.push _⟩ (fun b o e => Heap.get?_push_of_some _ (Heap.get?_push_of_some _ e)) ?hS0 ?hR
        case hS0 =>
          exact ⟨[], #[], 0, _, SetQ.new Lw (Heap.get?_push_of_some _ gS), Has.zero ks⟩
        case hR =>
          intro s' L es ep t hm Q1 g1 kp
          obtain ⟨h', g2, d', tk', os'⟩ := s'
          have eg : g2 = s.gens := hm.gens
          have ed : d' = s.drawn := hm.drawn
          have eo : os' = s.os := hm.os
          subst eg
          subst ed
          subst eo
          rw [isz] at g1
          show wpAny _ _ _ _ _ _
          refine wpAny_pure ?_
          show wpAny _ _ (ret Value.none) _ _ _
          exact wpAny_pure ⟨rfl, h', tk', L, es, ep, t, rfl, Q1, g1, kp⟩
      · cases r2 with
        | error e => exact hr2
        | ok fl2 =>
          cases fl2 with
          | ret r =>
            obtain ⟨rfl, h', tk, L, es, ep, t, rfl, Q1, g1, kp⟩ := hr2
            repeat (any_goals (first | assumption | wp_step))
            exact q _ _ _ _ _ _ Q1 g1 kp
          | _ => exact hr2.elim
    | _ => exact hr1.elim
end
end SQ
end
section
set_option Elab.async false
set_option linter.all false
set_option maxRecDepth 100000
set_option maxHeartbeats 4000000
/-! MQb: members of sets, told by values. -/
namespace MP
open PySem PySem.Spec PyProof.Rows L2
/-! ### plain facts -/
theorem mem_dedup {x : D} : ∀ {xs : List D}, x ∈ dedup xs ↔ x ∈ xs
  | [] => Iff.rfl
  | y :: r => by
    unfold dedup
    split
    · rename_i h
      rw [mem_dedup, List.mem_cons]
      constructor
      · exact .inr
      · rintro (rfl | z)
        · exact h
        · exact z
    · rw [List.mem_cons, List.mem_cons, mem_dedup]
theorem nodup_dedup : ∀ xs : List D, (dedup xs).Nodup
  | [] => List.nodup_nil
  | y :: r => by
    unfold dedup
    split
    · exact nodup_dedup r
    · rename_i h
      exact List.nodup_cons.mpr ⟨fun z => h (mem_dedup.mp z), nodup_dedup r⟩
def D.key : D → L2.Key
  | .int i => Sum.inl i
  | .str s => Sum.inr s
  | _ => Sum.inl 0
theorem key_inj {a b : D} (ha : a.scal = true) (hb : b.scal = true) (h : a.key = b.key) : a = b := by
  cases a <;> first | (cases ha; done) | skip
  all_goals cases b <;> first | (cases hb; done) | skip
  · rw [Sum.inl.inj h]
  · cases h
  · cases h
  · rw [Sum.inr.inj h]
mutual
def D.nk : D → NestedKey
  | .int i => .num i
  | .str s => .text s
  | .tup xs => .tup (D.nks xs)
  | _ => .none
def D.nks : List D → List NestedKey
  | [] => []
  | x :: xs => D.nk x :: D.nks xs
end
mutual
theorem nk_inj : ∀ (a b : D), D.hash a = true → D.hash b = true → D.nk a = D.nk b → a = b
  | .int i, b, _, hb, h => by cases b <;> simp [D.nk, D.hash] at h hb ⊢; exact h
  | .str s, b, _, hb, h => by cases b <;> simp [D.nk, D.hash] at h hb ⊢; exact h
  | .tup xs, b, ha, hb, h => by
    cases b <;> simp [D.nk, D.hash] at h hb ha ⊢
    exact nks_inj xs _ ha hb h
  | .non, _, ha, _, _ | .bl _, _, ha, _, _ | .lst _, _, ha, _, _ | .scr _, _, ha, _, _ | .set _, _, ha, _, _ | .ins _ _ _, _, ha, _, _ | .ref _, _, ha, _, _ => by simp [D.hash] at ha
theorem nks_inj : ∀ (a b : List D), D.hashes a = true → D.hashes b = true → D.nks a = D.nks b → a = b
  | [], [], _, _, _ => rfl
  | [], _ :: _, _, _, h => by simp [D.nks] at h
  | _ :: _, [], _, _, h => by simp [D.nks] at h
  | a :: as, b :: bs, ha, hb, h => by
    simp only [D.nks, List.cons.injEq] at h
    rw [D.hashes, Bool.and_eq_true] at ha hb
    rw [nk_inj a b ha.1 hb.1 h.1, nks_inj as bs ha.2 hb.2 h.2]
end
mutual
theorem nk_depth : ∀ a : D, (D.nk a).depth = D.dep a
  | .int i => rfl
  | .str s => rfl
  | .tup xs => by
    show NestedKey.depthAll (D.nks xs) + 1 = D.deps xs + 1
    rw [nks_depth xs]
  | .non | .bl _ | .lst _ | .scr _ | .set _ | .ins _ _ _ | .ref _ => rfl
theorem nks_depth : ∀ a : List D, NestedKey.depthAll (D.nks a) = D.deps a
  | [] => rfl
  | x :: xs => by
    show max (D.nk x).depth (NestedKey.depthAll (D.nks xs)) = max (D.dep x) (D.deps xs)
    rw [nk_depth x, nks_depth xs]
end
theorem tupH_inv {d : D} (h : d.tupH = true) : ∃ xs, d = .tup xs ∧ D.hashes xs = true ∧ D.deps xs + 1 ≤ 8 := by
  cases d <;> simp [D.tupH] at h
  exact ⟨_, rfl, h.1, by omega⟩
theorem tupH_hash {d : D} (h : d.tupH = true) : D.hash d = true := by
  obtain ⟨xs, rfl, h1, _⟩ := tupH_inv h
  rw [D.hash]; exact h1
theorem scal_hash {d : D} (h : d.scal = true) : D.hash d = true := by
  cases d <;> first | rfl | cases h
/-! ### the order -/
mutual
theorem eqv_inj : ∀ (a b : D) (p q : PyData), D.hash a = true → D.hash b = true → D.py a = some p → D.py b = some q → PyData.eqv p q = true → a = b
  | .int i, b, p, q, _, hb, hp, hq, h => by
    simp only [D.py, Option.some.injEq] at hp
    subst hp
    cases b <;> simp only [D.hash, Bool.false_eq_true] at hb
    · simp only [D.py, Option.some.injEq] at hq
      subst hq
      rw [eq_of_beq (show (i == _) = true by simpa [PyData.eqv] using h)]
    · simp only [D.py, Option.some.injEq] at hq
      subst hq
      simp [PyData.eqv] at h
    · rename_i xs
      simp only [D.py, Option.map_eq_some_iff] at hq
      obtain ⟨ds, _, rfl⟩ := hq
      simp [PyData.eqv] at h
  | .str i, b, p, q, _, hb, hp, hq, h => by
    simp only [D.py, Option.some.injEq] at hp
    subst hp
    cases b <;> simp only [D.hash, Bool.false_eq_true] at hb
    · simp only [D.py, Option.some.injEq] at hq
      subst hq
      simp [PyData.eqv] at h
    · simp only [D.py, Option.some.injEq] at hq
      subst hq
      rw [eq_of_beq (show (i == _) = true by simpa [PyData.eqv] using h)]
    · rename_i xs
      simp only [D.py, Option.map_eq_some_iff] at hq
      obtain ⟨ds, _, rfl⟩ := hq
      simp [PyData.eqv] at h
  | .tup xs, b, p, q, ha, hb, hp, hq, h => by
    simp only [D.py, Option.map_eq_some_iff] at hp
    obtain ⟨ps, hps, rfl⟩ := hp
    cases b <;> simp only [D.hash, Bool.false_eq_true] at hb
    · simp only [D.py, Option.some.injEq] at hq
      subst hq
      simp [PyData.eqv] at h
    · simp only [D.py, Option.some.injEq] at hq
      subst hq
      simp [PyData.eqv] at h
    · rename_i ys
      simp only [D.py, Option.map_eq_some_iff] at hq
      obtain ⟨qs, hqs, rfl⟩ := hq
      rw [D.hash] at ha
      rw [PyData.eqv] at h
      rw [eqvs_inj xs ys ps qs ha hb hps hqs h]
  | .non, _, _, _, ha, _, _, _, _ | .bl _, _, _, _, ha, _, _, _, _ | .lst _, _, _, _, ha, _, _, _, _ | .scr _, _, _, _, ha, _, _, _, _ | .set _, _, _, _, ha, _, _, _, _ | .ins _ _ _, _, _, _, ha, _, _, _, _ | .ref _, _, _, _, ha, _, _, _, _ => by simp [D.hash] at ha
theorem eqvs_inj : ∀ (a b : List D) (p q : List PyData), D.hashes a = true → D.hashes b = true → D.pys a = some p → D.pys b = some q → PyData.eqvAll p q = true → a = b
  | [], [], _, _, _, _, _, _, _ => rfl
  | [], y :: ys, p, q, _, _, hp, hq, h => by
    simp only [D.pys, Option.some.injEq] at hp
    subst hp
    rw [D.pys] at hq
    split at hq
    · cases hq; simp [PyData.eqvAll] at h
    · cases hq
  | x :: xs, [], p, q, _, _, hp, hq, h => by
    simp only [D.pys, Option.some.injEq] at hq
    subst hq
    rw [D.pys] at hp
    split at hp
    · cases hp; simp [PyData.eqvAll] at h
    · cases hp
  | x :: xs, y :: ys, p, q, ha, hb, hp, hq, h => by
    rw [D.hashes, Bool.and_eq_true] at ha hb
    rw [D.pys] at hp hq
    split at hp
    · rename_i p1 p2 e1 e2
      split at hq
      · rename_i q1 q2 f1 f2
        cases hp
        cases hq
        rw [PyData.eqvAll, Bool.and_eq_true] at h
        rw [eqv_inj x y p1 q1 ha.1 hb.1 e1 f1 h.1, eqvs_inj xs ys p2 q2 ha.2 hb.2 e2 f2 h.2]
      · cases hq
    · cases hp
end
theorem toks_inj {x y : PyData} (h : W.alike x y = true) (e : W.keyToks x = W.keyToks y) : PyData.eqv x y = true := by
  cases q : PyData.eqv x y with
  | true => rfl
  | false =>
    have := (W.toks_eqv x y h).2 q [] [.inl 0]
    rw [e, W.lex_pre] at this
    rw [show PyProof.Rows.lexLt itemOrd (W.keyToks y) (W.keyToks y) = false from lex_irrefl _] at this
    cases this
theorem pys_mem : ∀ {xs : List D} {ds : List PyData} {a : D}, D.pys xs = some ds → a ∈ xs → ∃ p, D.py a = some p ∧ p ∈ ds
  | [], _, _, _, h => by cases h
  | x :: xs, ds, a, e, h => by
    rw [D.pys] at e
    split at e
    · rename_i p1 p2 e1 e2
      cases e
      rcases List.mem_cons.mp h with rfl | h
      · exact ⟨p1, e1, List.mem_cons_self⟩
      · obtain ⟨p, h1, h2⟩ := pys_mem e2 h
        exact ⟨p, h1, List.mem_cons_of_mem _ h2⟩
    · cases e
theorem le_antisymm {xs : List D} {ds : List PyData} (e : D.pys xs = some ds) (al : alikeP ds = true) (hh : ∀ a ∈ xs, D.hash a = true) {a b : D} (ha : a ∈ xs) (hb : b ∈ xs) (h1 : W.dataLe false D.pyD a b = true) (h2 : W.dataLe false D.pyD b a = true) : a = b := by
  obtain ⟨p, p1, p2⟩ := pys_mem e ha
  obtain ⟨q, q1, q2⟩ := pys_mem e hb
  have hal : W.alike p q = true := by
    have := List.all_eq_true.mp al p p2
    exact List.all_eq_true.mp this q q2
  have l1 : W.dataLt q p = false := by
    have : (!W.dataLt (D.pyD b) (D.pyD a)) = true := h1
    unfold D.pyD at this
    rw [p1, q1] at this
    simpa using this
  have l2 : W.dataLt p q = false := by
    have : (!W.dataLt (D.pyD a) (D.pyD b)) = true := h2
    unfold D.pyD at this
    rw [p1, q1] at this
    simpa using this
  exact eqv_inj a b p q (hh a ha) (hh b hb) p1 q1 (toks_inj hal (lex_total _ _ l2 l1))
theorem le_trans3 (enc : D → PyData) (a b c : D) (h1 : W.dataLe false enc a b = true) (h2 : W.dataLe false enc b c = true) : W.dataLe false enc a c = true := by
  have l1 : W.dataLt (enc b) (enc a) = false := by
    have : (!W.dataLt (enc b) (enc a)) = true := h1
    simpa using this
  have l2 : W.dataLt (enc c) (enc b) = false := by
    have : (!W.dataLt (enc c) (enc b)) = true := h2
    simpa using this
  show (!W.dataLt (enc c) (enc a)) = true
  cases q : W.dataLt (enc c) (enc a) with
  | false => rfl
  | true =>
    rcases lex_negTrans (O := itemOrd) _ (W.keyToks (enc b)) _ q with z | z
    · exact absurd (show W.dataLt (enc c) (enc b) = true from z) (by rw [l2]; decide)
    · exact absurd (show W.dataLt (enc b) (enc a) = true from z) (by rw [l1]; decide)
theorem le_total2 (enc : D → PyData) (a b : D) : (W.dataLe false enc a b || W.dataLe false enc b a) = true := by
  show (!W.dataLt (enc b) (enc a) || !W.dataLt (enc a) (enc b)) = true
  cases q : W.dataLt (enc b) (enc a) with
  | false => rfl
  | true =>
    cases q2 : W.dataLt (enc a) (enc b) with
    | false => rfl
    | true =>
      have := lex_trans (O := itemOrd) _ _ _ q q2
      rw [lex_irrefl] at this
      cases this
theorem sorted_one {α : Type} {le : α → α → Bool} : ∀ (l m : List α), l.Perm m → l.Pairwise (fun a b => le a b = true) → m.Pairwise (fun a b => le a b = true) → (∀ a ∈ l, ∀ b ∈ l, le a b = true → le b a = true → a = b) → l = m
  | [], m, h, _, _, _ => h.nil_eq
  | a :: l, m, h, h1, h2, anti => by
    cases m with
    | nil => exact absurd h.length_eq (by simp)
    | cons b m =>
      obtain ⟨p1, p2⟩ := List.pairwise_cons.mp h1
      obtain ⟨q1, q2⟩ := List.pairwise_cons.mp h2
      have hb : b ∈ a :: l := h.mem_iff.mpr List.mem_cons_self
      have ha : a ∈ b :: m := h.mem_iff.mp List.mem_cons_self
      have e : a = b := by
        rcases List.mem_cons.mp hb with z | z
        · exact z.symm
        · rcases List.mem_cons.mp ha with y | y
          · exact y
          · exact anti a List.mem_cons_self b hb (p1 b z) (q1 a y)
      subst e
      rw [sorted_one l m (List.perm_cons a |>.mp h) p2 q2 fun x hx y hy => anti x (List.mem_cons_of_mem _ hx) y (List.mem_cons_of_mem _ hy)]
theorem sort_perm {xs bs : List D} {ds : List PyData} (pm : bs.Perm xs) (e : D.pys xs = some ds) (al : alikeP ds = true) (hh : ∀ a ∈ xs, D.hash a = true) : bs.mergeSort (W.dataLe false D.pyD) = xs.mergeSort (W.dataLe false D.pyD) := by
  refine sorted_one _ _ ?_ (List.pairwise_mergeSort (le_trans3 _) (le_total2 _) _) (List.pairwise_mergeSort (le_trans3 _) (le_total2 _) _) fun a ha b hb h1 h2 => ?_
  · exact (List.mergeSort_perm bs _).trans (pm.trans (List.mergeSort_perm xs _).symm)
  · have ma : a ∈ xs := pm.mem_iff.mp ((List.mergeSort_perm bs _).mem_iff.mp ha)
    have mb : b ∈ xs := pm.mem_iff.mp ((List.mergeSort_perm bs _).mem_iff.mp hb)
    exact le_antisymm e al hh ma mb h1 h2
end MP
end
section
set_option linter.all false
/-! FPa: defs in the small language. Printed by gen_fds.py. -/
namespace MP
open PySem
def fd_witnesses : FD := ⟨["log"], 2, false, [
    .ret (.bf .tuple [.bf .sorted [.bf .set [.comp false (.idx (.var 1) (.lit (.int 0))) (.nm 1) 0 [.var 0] [.cmp .ne (.idx (.var 1) (.lit (.int 0))) (.lit (.str "sure"))] [1]]]])]⟩
def fd_told_cases : FD := ⟨["log", "word"], 5, false, [
    .ret (.bf .tuple [.bf .sorted [.bf .set [.comp false (.var 3) (.tp [.nm 2, .nm 3, .nm 4]) 0 [.var 0] [.cmp .eq (.var 4) (.var 1)] [2, 3, 4]]]])]⟩
def fd_let_cases : FD := ⟨["log"], 1, false, [
    .ret (.call "told_cases" [.var 0, .lit (.str "let")])]⟩
def fd_refused_cases : FD := ⟨["log"], 1, false, [
    .ret (.call "told_cases" [.var 0, .lit (.str "refused")])]⟩
def fd_is_let : FD := ⟨["condition", "value"], 2, false, [
    .ite (.isi (.var 1) .str) [.ret (.cmp .in_ (.var 1) (.var 0))] [],
    .ret (.cmp2 .le .le (.idx (.var 0) (.lit (.int 0))) (.var 1) (.idx (.var 0) (.lit (.int 1))))]⟩
def fd_lets : FD := ⟨["rule", "case"], 4, false, [
    .ite (.cmp .is (.var 0) (.lit (.non))) [.ret (.lit (.bl false))] [],
    .ret (.bf .all [.comp false (.call "is_let" [.var 2, .var 3]) (.tp [.nm 2, .nm 3]) 4 [.var 0, .var 1] [] [2, 3]])]⟩
def fd_value_condition : FD := ⟨["value"], 1, false, [
    .ret (.ite (.isi (.var 0) .str) (.tup [.var 0]) (.tup [.var 0, .var 0]))]⟩
def fd_case_rule : FD := ⟨["case"], 2, false, [
    .ret (.bf .tuple [.comp false (.call "value_condition" [.var 1]) (.nm 1) 0 [.var 0] [] [1]])]⟩
def fd_is_against : FD := ⟨["rule", "case", "word"], 3, false, [
    .ret (.cmp .ne (.call "lets" [.var 0, .var 1]) (.cmp .eq (.var 2) (.lit (.str "let"))))]⟩
def fd_joined_condition : FD := ⟨["one", "other"], 2, false, [
    .ite (.isi (.idx (.var 0) (.lit (.int 0))) .str) [.ret (.bf .tuple [.bf .sorted [.bin .or (.bf .set [.var 0]) (.bf .set [.var 1])]])] [],
    .ret (.tup [.bf .min2 [.idx (.var 0) (.lit (.int 0)), .idx (.var 1) (.lit (.int 0))], .bf .max2 [.idx (.var 0) (.lit (.int 1)), .idx (.var 1) (.lit (.int 1))]])]⟩
def fd_join : FD := ⟨["one", "other"], 4, false, [
    .ite (.or (.cmp .is (.var 0) (.lit (.non))) (.cmp .is (.var 1) (.lit (.non)))) [.ret (.ite (.cmp .is (.var 0) (.lit (.non))) (.var 1) (.var 0))] [],
    .ret (.bf .tuple [.comp false (.call "joined_condition" [.var 2, .var 3]) (.tp [.nm 2, .nm 3]) 4 [.var 0, .var 1] [] [2, 3]])]⟩
def fd_hull : FD := ⟨["cases"], 3, false, [
    .set (.nm 1) (.lit (.non)),
    .for_ (.nm 2) 0 [.var 0] [.set (.nm 1) (.call "join" [.var 1, .call "case_rule" [.var 2]])],
    .ret (.var 1)]⟩
def fd_without_witnesses : FD := ⟨["log", "names"], 3, false, [
    .ret (.bf .tuple [.comp false (.var 2) (.nm 2) 0 [.var 0] [.cmp .notin (.idx (.var 2) (.lit (.int 0))) (.var 1)] [2]])]⟩
def fd_without_records : FD := ⟨["log", "places"], 4, false, [
    .ret (.bf .tuple [.comp false (.var 3) (.tp [.nm 2, .nm 3]) 3 [.var 0] [.cmp .notin (.var 2) (.var 1)] [2, 3]])]⟩
def fd_claimed : FD := ⟨["claims", "word"], 4, false, [
    .ret (.comp false (.var 2) (.tp [.nm 2, .nm 3]) 0 [.var 0] [.cmp .eq (.var 3) (.var 1)] [2, 3])]⟩
def fd_World___init__ : FD := ⟨["self", "log", "names"], 4, false, [
    .set (.nm 3) (.call "without_witnesses" [.var 1, .var 2]),
    .setF (.var 0) "names" (.var 2),
    .setF (.var 0) "least" (.call "hull" [.call "let_cases" [.var 3]]),
    .setF (.var 0) "refused" (.call "refused_cases" [.var 3])]⟩
def fd_World_rule_for : FD := ⟨["self", "claims"], 2, false, [
    .ret (.call "join" [.fld (.var 0) "least", .call "hull" [.call "claimed" [.var 1, .lit (.str "let")]]])]⟩
def fd_World_bears : FD := ⟨["self", "claims"], 5, false, [
    .set (.nm 2) (.meth "World" "rule_for" "World.rule_for" (.var 0) [.var 1]),
    .ite (.bf .any [.comp false (.call "lets" [.var 2, .var 3]) (.nm 3) 0 [.fld (.var 0) "refused"] [] [3]]) [.ret (.lit (.bl false))] [],
    .ret (.not (.bf .any [.comp false (.call "is_against" [.var 2, .var 3, .var 4]) (.tp [.nm 3, .nm 4]) 0 [.var 1] [] [3, 4]]))]⟩
def fd_all_worlds : FD := ⟨["log"], 6, false, [
    .set (.nm 1) (.call "witnesses" [.var 0]),
    .set (.nm 2) (.lst true []),
    .for_ (.nm 3) 1 [.bin .add (.bf .len [.var 1]) (.lit (.int 1))] [.for_ (.nm 4) 5 [.var 1, .var 3] [.set (.nm 5) (.mk "World" [.var 0, .var 4]), .ite (.meth "World" "bears" "World.bears" (.var 5) [.tup []]) [.ex (.mt .append (.var 2) [.var 5])] []]],
    .ret (.var 2)]⟩
def fd_price_in : FD := ⟨["worlds", "claims"], 3, false, [
    .for_ (.nm 2) 0 [.var 0] [.ite (.meth "World" "bears" "World.bears" (.var 2) [.var 1]) [.ret (.bf .len [.fld (.var 2) "names"])] []],
    .ret (.lit (.non))]⟩
def fd_fewest_errs : FD := ⟨["log"], 1, false, [
    .ret (.call "price_in" [.call "all_worlds" [.var 0], .tup []])]⟩
def fd_price : FD := ⟨["log", "claims"], 2, false, [
    .ret (.call "price_in" [.call "all_worlds" [.var 0], .var 1])]⟩
def fd_is_beyond : FD := ⟨["price", "k"], 2, false, [
    .ret (.or (.cmp .is (.var 0) (.lit (.non))) (.cmp .gt (.var 0) (.var 1)))]⟩
def fd_growth : FD := ⟨["log"], 2, false, [
    .ret (.bf .tuple [.comp false (.call "fewest_errs" [.sl (.var 0) none (some (.bin .add (.var 1) (.lit (.int 1))))]) (.nm 1) 1 [.bf .len [.var 0]] [] [1]])]⟩
def fd_first_broken : FD := ⟨["log", "k"], 4, false, [
    .for_ (.tp [.nm 2, .nm 3]) 3 [.call "growth" [.var 0]] [.ite (.call "is_beyond" [.var 3, .var 1]) [.ret (.var 2)] []],
    .ret (.lit (.non))]⟩
def fd_needed_records : FD := ⟨["log", "claims"], 4, false, [
    .set (.nm 2) (.call "price" [.var 0, .var 1]),
    .ret (.bf .tuple [.comp false (.var 3) (.nm 3) 1 [.bf .len [.var 0]] [.cmp .ne (.call "price" [.call "without_records" [.var 0, .tup [.var 3]], .var 1]) (.var 2)] [3]])]⟩
/-- these defs stand in a table -/
structure La (T : Tx) : Prop where
  x_witnesses : T.fn "witnesses" = some fd_witnesses
  x_told_cases : T.fn "told_cases" = some fd_told_cases
  x_let_cases : T.fn "let_cases" = some fd_let_cases
  x_refused_cases : T.fn "refused_cases" = some fd_refused_cases
  x_is_let : T.fn "is_let" = some fd_is_let
  x_lets : T.fn "lets" = some fd_lets
  x_value_condition : T.fn "value_condition" = some fd_value_condition
  x_case_rule : T.fn "case_rule" = some fd_case_rule
  x_is_against : T.fn "is_against" = some fd_is_against
  x_joined_condition : T.fn "joined_condition" = some fd_joined_condition
  x_join : T.fn "join" = some fd_join
  x_hull : T.fn "hull" = some fd_hull
  x_without_witnesses : T.fn "without_witnesses" = some fd_without_witnesses
  x_without_records : T.fn "without_records" = some fd_without_records
  x_claimed : T.fn "claimed" = some fd_claimed
  x_World___init__ : T.fn "World.__init__" = some fd_World___init__
  x_World_rule_for : T.fn "World.rule_for" = some fd_World_rule_for
  x_World_bears : T.fn "World.bears" = some fd_World_bears
  x_all_worlds : T.fn "all_worlds" = some fd_all_worlds
  x_price_in : T.fn "price_in" = some fd_price_in
  x_fewest_errs : T.fn "fewest_errs" = some fd_fewest_errs
  x_price : T.fn "price" = some fd_price
  x_is_beyond : T.fn "is_beyond" = some fd_is_beyond
  x_growth : T.fn "growth" = some fd_growth
  x_first_broken : T.fn "first_broken" = some fd_first_broken
  x_needed_records : T.fn "needed_records" = some fd_needed_records
end MP
end
section
set_option Elab.async false
set_option linter.all false
set_option maxRecDepth 100000
set_option maxHeartbeats 4000000
/-! LPa: plain values: what == and in say of them; how a def's run is read. -/
namespace MP
open PySem
/-! ### plain values -/
mutual
/-- none, ints, texts, tuples and lists of such -/
def D.pl : D → Bool
  | .non => true
  | .int _ => true
  | .str s => PyData.strOk s
  | .tup xs => D.pls xs
  | .lst xs => D.pls xs
  | _ => false
def D.pls : List D → Bool
  | [] => true
  | x :: xs => D.pl x && D.pls xs
end
mutual
def D.dp : D → Nat
  | .tup xs => D.dps xs + 1
  | .lst xs => D.dps xs + 1
  | _ => 0
def D.dps : List D → Nat
  | [] => 0
  | x :: xs => max (D.dp x) (D.dps xs)
end
mutual
theorem pl_py : ∀ d : D, d.pl = true → ∃ p, D.py d = some p ∧ p.canLay0 = true ∧ p.depth = d.dp
  | .non, _ => ⟨.none, rfl, rfl, rfl⟩
  | .int i, _ => ⟨.int i, rfl, rfl, rfl⟩
  | .str s, h => ⟨.str s, rfl, by rw [D.pl] at h; exact h, rfl⟩
  | .tup xs, h => by
    rw [D.pl] at h
    obtain ⟨ps, h1, h2, h3⟩ := pls_py xs h
    exact ⟨.tuple ps, by rw [D.py, h1]; rfl, h2, by rw [PyData.depth, D.dp, h3]⟩
  | .lst xs, h => by
    rw [D.pl] at h
    obtain ⟨ps, h1, h2, h3⟩ := pls_py xs h
    exact ⟨.list ps, by rw [D.py, h1]; rfl, h2, by rw [PyData.depth, D.dp, h3]⟩
  | .bl _, h | .scr _, h | .set _, h | .ins _ _ _, h | .ref _, h => by simp [D.pl] at h
theorem pls_py : ∀ ds : List D, D.pls ds = true → ∃ ps, D.pys ds = some ps ∧ PyData.canLayAll0 ps = true ∧ PyData.depthAll ps = D.dps ds
  | [], _ => ⟨[], rfl, rfl, rfl⟩
  | d :: ds, h => by
    rw [D.pls, Bool.and_eq_true] at h
    obtain ⟨p, h1, h2, h3⟩ := pl_py d h.1
    obtain ⟨ps, h4, h5, h6⟩ := pls_py ds h.2
    refine ⟨p :: ps, by rw [D.pys, h1, h4], ?_, by rw [PyData.depthAll, D.dps, h3, h6]⟩
    rw [PyData.canLayAll0, h2, h5]; rfl
end
mutual
theorem eqv_pl : ∀ (a b : D) (p q : PyData), a.pl = true → b.pl = true → D.py a = some p → D.py b = some q → (PyData.eqv p q = true ↔ a = b)
  | .non, b, p, q, ha, hb, hp, hq => by
    cases hp
    cases b <;> simp only [D.pl, Bool.false_eq_true] at hb <;> simp only [D.py, Option.some.injEq, Option.map_eq_some_iff] at hq <;> first
      | (subst hq; simp [PyData.eqv])
      | (obtain ⟨_, _, rfl⟩ := hq; simp [PyData.eqv])
  | .int i, b, p, q, ha, hb, hp, hq => by
    cases hp
    cases b <;> simp only [D.pl, Bool.false_eq_true] at hb <;> simp only [D.py, Option.some.injEq, Option.map_eq_some_iff] at hq <;> first
      | (subst hq; simp [PyData.eqv])
      | (obtain ⟨_, _, rfl⟩ := hq; simp [PyData.eqv])
  | .str i, b, p, q, ha, hb, hp, hq => by
    cases hp
    cases b <;> simp only [D.pl, Bool.false_eq_true] at hb <;> simp only [D.py, Option.some.injEq, Option.map_eq_some_iff] at hq <;> first
      | (subst hq; simp [PyData.eqv])
      | (obtain ⟨_, _, rfl⟩ := hq; simp [PyData.eqv])
  | .tup xs, b, p, q, ha, hb, hp, hq => by
    simp only [D.py, Option.map_eq_some_iff] at hp
    obtain ⟨ps, hps, rfl⟩ := hp
    cases b <;> simp only [D.pl, Bool.false_eq_true] at hb ha <;> simp only [D.py, Option.some.injEq, Option.map_eq_some_iff] at hq <;> first
      | (subst hq; simp [PyData.eqv]; done)
      | (obtain ⟨qs, hqs, rfl⟩ := hq; simp only [PyData.eqv, eqvs_pl xs _ ps qs ha hb hps hqs, D.tup.injEq]; done)
      | (obtain ⟨_, _, rfl⟩ := hq; simp [PyData.eqv])
  | .lst xs, b, p, q, ha, hb, hp, hq => by
    simp only [D.py, Option.map_eq_some_iff] at hp
    obtain ⟨ps, hps, rfl⟩ := hp
    cases b <;> simp only [D.pl, Bool.false_eq_true] at hb ha <;> simp only [D.py, Option.some.injEq, Option.map_eq_some_iff] at hq <;> first
      | (subst hq; simp [PyData.eqv]; done)
      | (obtain ⟨qs, hqs, rfl⟩ := hq; simp only [PyData.eqv, eqvs_pl xs _ ps qs ha hb hps hqs, D.lst.injEq]; done)
      | (obtain ⟨_, _, rfl⟩ := hq; simp [PyData.eqv])
  | .bl _, _, _, _, ha, _, _, _ | .scr _, _, _, _, ha, _, _, _ | .set _, _, _, _, ha, _, _, _ | .ins _ _ _, _, _, _, ha, _, _, _ | .ref _, _, _, _, ha, _, _, _ => by simp [D.pl] at ha
theorem eqvs_pl : ∀ (a b : List D) (p q : List PyData), D.pls a = true → D.pls b = true → D.pys a = some p → D.pys b = some q → (PyData.eqvAll p q = true ↔ a = b)
  | [], [], _, _, _, _, hp, hq => by cases hp; cases hq; simp [PyData.eqvAll]
  | [], y :: ys, p, q, _, hb, hp, hq => by
    cases hp
    rw [D.pls, Bool.and_eq_true] at hb
    obtain ⟨u, h1, _⟩ := pl_py y hb.1
    obtain ⟨us, h2, _⟩ := pls_py ys hb.2
    rw [D.pys, h1, h2] at hq
    cases hq
    simp [PyData.eqvAll]
  | x :: xs, [], p, q, ha, _, hp, hq => by
    cases hq
    rw [D.pls, Bool.and_eq_true] at ha
    obtain ⟨u, h1, _⟩ := pl_py x ha.1
    obtain ⟨us, h2, _⟩ := pls_py xs ha.2
    rw [D.pys, h1, h2] at hp
    cases hp
    simp [PyData.eqvAll]
  | x :: xs, y :: ys, p, q, ha, hb, hp, hq => by
    rw [D.pls, Bool.and_eq_true] at ha hb
    obtain ⟨u, h1, _⟩ := pl_py x ha.1
    obtain ⟨us, h2, _⟩ := pls_py xs ha.2
    obtain ⟨v, h3, _⟩ := pl_py y hb.1
    obtain ⟨vs, h4, _⟩ := pls_py ys hb.2
    rw [D.pys, h1, h2] at hp
    rw [D.pys, h3, h4] at hq
    cases hp; cases hq
    simp only [PyData.eqvAll, Bool.and_eq_true, eqv_pl x y u v ha.1 hb.1 h1 h3, eqvs_pl xs ys us vs ha.2 hb.2 h2 h4, List.cons.injEq]
end
theorem eqD_pl {a b : D} (ha : a.pl = true) (hb : b.pl = true) (da : a.dp ≤ 64) (db : b.dp ≤ 64) : eqD a b = some (decide (a = b)) := by
  obtain ⟨p, h1, h2, h3⟩ := pl_py a ha
  obtain ⟨q, h4, h5, h6⟩ := pl_py b hb
  unfold eqD
  simp only [h1, h4]
  rw [if_pos (by unfold SeqAt.shaped; rw [h2, h5, h3, h6]; simp [da, db])]
  congr 1
  rw [Bool.eq_iff_iff, decide_eq_true_eq]
  exact eqv_pl a b p q ha hb h1 h4
theorem pls_mem : ∀ {xs : List D} {x : D}, D.pls xs = true → x ∈ xs → x.pl = true
  | y :: ys, x, h, m => by
    rw [D.pls, Bool.and_eq_true] at h
    rcases List.mem_cons.mp m with e | e
    · rw [e]; exact h.1
    · exact pls_mem h.2 e
theorem pls_iff : ∀ {xs : List D}, D.pls xs = true ↔ ∀ x ∈ xs, x.pl = true
  | [] => by simp [D.pls]
  | y :: ys => by rw [D.pls, Bool.and_eq_true, pls_iff]; simp
theorem dps_le : ∀ {xs : List D} {n : Nat}, D.dps xs ≤ n ↔ ∀ x ∈ xs, x.dp ≤ n
  | [], n => by simp [D.dps]
  | y :: ys, n => by rw [D.dps, Nat.max_le, dps_le]; simp
theorem any_pl {x : D} {d : PyData} (hx : x.pl = true) (hd : D.py x = some d) : ∀ {ys : List D} {ds : List PyData}, D.pls ys = true → D.pys ys = some ds → (ds.any fun z => PyData.eqv z d) = decide (x ∈ ys)
  | [], ds, _, h => by cases h; simp
  | y :: ys, ds, hp, h => by
    rw [D.pls, Bool.and_eq_true] at hp
    obtain ⟨u, h1, _⟩ := pl_py y hp.1
    obtain ⟨us, h2, _⟩ := pls_py ys hp.2
    rw [D.pys, h1, h2] at h
    cases h
    rw [List.any_cons, any_pl hx hd hp.2 h2, Bool.eq_iff_iff, Bool.or_eq_true, decide_eq_true_eq, decide_eq_true_eq, eqv_pl y x u d hp.1 hx h1 hd, List.mem_cons, eq_comm]
theorem memD_pl {x : D} {ys : List D} (hx : x.pl = true) (hy : D.pls ys = true) (dx : x.dp ≤ 64) (dy : D.dps ys ≤ 63) : memD x ys = some (decide (x ∈ ys)) := by
  obtain ⟨p, h1, h2, h3⟩ := pl_py x hx
  obtain ⟨q, h4, h5, h6⟩ := pls_py ys hy
  unfold memD
  simp only [h1, h4]
  rw [if_pos, any_pl hx h1 hy h4]
  unfold SeqAt.shaped
  rw [h2, PyData.canLay0, h5, h3, PyData.depth, h6]
  simp [dx]; omega
end MP
end
section
set_option Elab.async false
set_option linter.all false
set_option maxRecDepth 100000
set_option maxHeartbeats 4000000
/-! LPb: how a def's run is read; loops and comprehensions. -/
namespace MP
open PySem
/-! ### runs -/
def W {α : Type} (r : Option α) (Q : α → Prop) : Prop := ∃ a, r = some a ∧ Q a
@[simp] theorem W_some {α : Type} {a : α} {Q : α → Prop} : W (some a) Q ↔ Q a := ⟨fun ⟨b, e, h⟩ => by cases e; exact h, fun h => ⟨a, rfl, h⟩⟩
@[simp] theorem W_none {α : Type} {Q : α → Prop} : W none Q ↔ False := ⟨fun ⟨b, e, h⟩ => (by cases e), fun h => False.elim h⟩
theorem W.mono {α : Type} {r : Option α} {Q Q' : α → Prop} (h : W r Q) (k : ∀ a, Q a → Q' a) : W r Q' := let ⟨a, e, q⟩ := h; ⟨a, e, k a q⟩
theorem W.of_eq {α : Type} {r : Option α} {a : α} {Q : α → Prop} (h : r = some a) (q : Q a) : W r Q := ⟨a, h, q⟩
theorem W_eq {α : Type} {r : Option α} {a : α} : W r (fun b => b = a) ↔ r = some a := ⟨fun ⟨b, e, h⟩ => by rw [e, h], fun h => ⟨a, h, rfl⟩⟩
theorem W_map {α β : Type} {f : α → β} {r : Option α} {Q : β → Prop} : W (r.map f) Q ↔ W r fun a => Q (f a) := by
  cases r <;> simp
def clD (T : Tx) (n : Nat) : Cl := ⟨callD T n, fun k ws st => match T.cl k with
  | some i => runMk (prv T n) k i ws st
  | none => none, T.lap, T.att⟩
@[simp] theorem clD_call {T : Tx} {n : Nat} : (clD T n).call = callD T n := rfl
@[simp] theorem clD_lap {T : Tx} {n : Nat} : (clD T n).lap = T.lap := rfl
@[simp] theorem clD_att {T : Tx} {n : Nat} : (clD T n).att = T.att := rfl
theorem clD_make {T : Tx} {n : Nat} {k i : Str} (h : T.cl k = some i) (ws : List D) (st : Sto) : (clD T (n + 1)).make k ws st = runMk (callD T n) k i ws st := by
  show (match T.cl k with | some i => runMk (prv T (n + 1)) k i ws st | none => none) = _
  rw [h]; rfl
theorem callD_eq {T : Tx} {f : Str} {fd : FD} (h : T.fn f = some fd) (n : Nat) (vs : List D) (st : Sto) : callD T (n + 1) f vs st = runF (clD T n) fd vs st := by
  unfold callD
  rw [h]
  cases n <;> rfl
mutual
theorem low_pl {n : Nat} : ∀ d : D, d.pl = true → d.low n = true
  | .non, _ | .int _, _ | .str _, _ => rfl
  | .tup xs, h => by rw [D.pl] at h; rw [D.low]; exact lows_pl xs h
  | .lst xs, h => by rw [D.pl] at h; rw [D.low]; exact lows_pl xs h
  | .bl _, h | .scr _, h | .set _, h | .ins _ _ _, h | .ref _, h => by simp [D.pl] at h
theorem lows_pl {n : Nat} : ∀ ds : List D, D.pls ds = true → D.lows n ds = true
  | [], _ => rfl
  | d :: ds, h => by
    rw [D.pls, Bool.and_eq_true] at h
    rw [D.lows, low_pl d h.1, lows_pl ds h.2]; rfl
end
theorem lows_iff {n : Nat} : ∀ {xs : List D}, D.lows n xs = true ↔ ∀ x ∈ xs, x.low n = true
  | [] => by simp [D.lows]
  | y :: ys => by rw [D.lows, Bool.and_eq_true, lows_iff]; simp
theorem frz_low {st : Sto} {n k : Nat} {d : D} (h : d.low n = true) : frz st n (k + 1) d = some d := by
  unfold frz
  cases d with
  | ref m => rw [D.low, decide_eq_true_eq] at h; simp only; rw [if_pos h]
  | tup xs => rw [D.low] at h; simp only; rw [if_pos h]
  | lst xs => rw [D.low] at h; simp only; rw [if_pos h]
  | _ => simp only; rw [if_pos h]
theorem lowSt_of {n : Nat} {st st' : Sto} (h : ∀ i, i < n → st'[i]? = st[i]? ∨ ∃ ob, st'[i]? = some ob ∧ Ob.low n ob = true) : lowSt n st st' = true := by
  unfold lowSt
  rw [List.all_eq_true]
  intro i hi
  rw [Bool.or_eq_true, decide_eq_true_eq]
  rcases h i (List.mem_range.mp hi) with h | ⟨ob, e, h⟩
  · exact .inl h
  · right; rw [e]; exact h
theorem lowSt_app (st ex : Sto) : lowSt st.length st (st ++ ex) = true := lowSt_of fun i hi => .inl (by rw [List.getElem?_append_left hi])
/-- a def that leaves the store (but for new things) and gives back a value -/
theorem run_ret {c : Cl} {fd : FD} {vs : List D} {st : Sto} {d : D} (hl : vs.length = fd.ps.length) (hd : d.low st.length = true) (hk : fd.keep = false)
    (hb : W (evSs c fd.body (vs.map some ++ List.replicate (fd.n - vs.length) none) st) fun r => r.1 = .ret d ∧ ∃ ex, r.2.2 = st ++ ex) : runF c fd vs st = some (d, st) := by
  obtain ⟨⟨fl, env, st'⟩, e, h1, ex, h2⟩ := hb
  simp only at h1 h2
  subst h1 h2
  unfold runF
  rw [if_pos hl, e]
  simp only [hk]
  rw [frz_low hd, lowSt_app]
  simp
theorem run_non {c : Cl} {fd : FD} {vs : List D} {st : Sto} (hl : vs.length = fd.ps.length) (hk : fd.keep = false)
    (hb : W (evSs c fd.body (vs.map some ++ List.replicate (fd.n - vs.length) none) st) fun r => r.1 = .nx ∧ ∃ ex, r.2.2 = st ++ ex) : runF c fd vs st = some (.non, st) := by
  obtain ⟨⟨fl, env, st'⟩, e, h1, ex, h2⟩ := hb
  simp only at h1 h2
  subst h1 h2
  unfold runF
  rw [if_pos hl, e]
  simp only [hk]
  rw [frz_low rfl, lowSt_app]
  simp
/-- in general -/
theorem run_gen {c : Cl} {fd : FD} {vs : List D} {st : Sto} {Q : D × Sto → Prop} (hl : vs.length = fd.ps.length) (hk : fd.keep = false)
    (hb : W (evSs c fd.body (vs.map some ++ List.replicate (fd.n - vs.length) none) st) fun r => ∃ d d', (r.1 = .ret d ∨ r.1 = .nx ∧ d = .non) ∧ frz r.2.2 st.length 6 d = some d' ∧ lowSt st.length st r.2.2 = true ∧ Q (d', r.2.2.take st.length)) : W (runF c fd vs st) Q := by
  obtain ⟨⟨fl, env, st'⟩, e, d, d', h1, h2, h3, h4⟩ := hb
  simp only at h1 h2 h3 h4
  refine ⟨_, ?_, h4⟩
  unfold runF
  rw [if_pos hl, e]
  rcases h1 with h1 | ⟨h1, h5⟩
  · subst h1
    simp only [hk, h2, h3]
    simp
  · subst h1 h5
    simp only [hk, h2, h3]
    simp
theorem run_keep {c : Cl} {fd : FD} {vs : List D} {st : Sto} {Q : D × Sto → Prop} (hl : vs.length = fd.ps.length) (hk : fd.keep = true)
    (hb : W (evSs c fd.body (vs.map some ++ List.replicate (fd.n - vs.length) none) st) fun r => ∃ d, (r.1 = .ret d ∨ r.1 = .nx ∧ d = .non) ∧ Q (d, r.2.2)) : W (runF c fd vs st) Q := by
  obtain ⟨⟨fl, env, st'⟩, e, d, h1, h4⟩ := hb
  simp only at h1 h4
  refine ⟨_, ?_, h4⟩
  unfold runF
  rw [if_pos hl, e]
  rcases h1 with h1 | ⟨h1, h5⟩
  · subst h1; simp only [hk]; simp
  · subst h1 h5; simp only [hk]; simp
/-! ### one behind the other -/
theorem seq_of {c : Cl} {s : St} {r : List St} {env env1 : Env} {st st1 : Sto} (h : evS c s env st = some (.nx, env1, st1)) : evSs c (s :: r) env st = evSs c r env1 st1 := by
  rw [evSs, h]
theorem W.eq1 {α : Type} {r : Option α} {a : α} (h : W r fun p => p = a) : r = some a := W_eq.mp h
/-! ### comprehensions -/
theorem sameAt_self (ns : List Nat) (st : Sto) : sameAt ns st st = true := by unfold sameAt; simp
/-- each turn leaves the store -/
theorem comp_pure {α : Type} {ns : List Nat} {st : Sto} {f : D → Sto → Option (Option D × Sto)} {e : α → D} {g : α → Option D} : ∀ {xs : List α}, (∀ x ∈ xs, f (e x) st = some (g x, st)) → compD ns st f (xs.map e) st = some (xs.filterMap g, st)
  | [], _ => by rw [List.map_nil, compD, if_pos (sameAt_self _ _)]; rfl
  | x :: xs, h => by
    rw [List.map_cons, compD, if_pos (sameAt_self _ _), h x List.mem_cons_self]
    simp only
    rw [comp_pure fun y hy => h y (List.mem_cons_of_mem _ hy)]
    rw [List.filterMap_cons]
    cases g x <;> rfl
theorem comp_map {α : Type} {ns : List Nat} {st : Sto} {f : D → Sto → Option (Option D × Sto)} {e : α → D} {g : α → D} {xs : List α} (h : ∀ x ∈ xs, f (e x) st = some (some (g x), st)) : compD ns st f (xs.map e) st = some (xs.map g, st) := by
  rw [comp_pure (g := fun x => some (g x)) h]
  congr 2
  induction xs with
  | nil => rfl
  | cons x xs ih => rw [List.filterMap_cons, List.map_cons, ih fun y hy => h y (List.mem_cons_of_mem _ hy)]
theorem comp_filter {α : Type} {ns : List Nat} {st : Sto} {f : D → Sto → Option (Option D × Sto)} {e g : α → D} {p : α → Bool} {xs : List α} (h : ∀ x ∈ xs, f (e x) st = some (if p x then some (g x) else none, st)) : compD ns st f (xs.map e) st = some ((xs.filter p).map g, st) := by
  rw [comp_pure (g := fun x => if p x then some (g x) else none) h]
  congr 2
  clear h
  induction xs with
  | nil => rfl
  | cons x xs ih =>
    rw [List.filterMap_cons, List.filter_cons]
    cases p x <;> simp [ih]
/-- with an invariant of the store: what is made and how it stands -/
theorem comp_inv {ns : List Nat} {st0 : Sto} {f : D → Sto → Option (Option D × Sto)} (I : List D → List D → Sto → Prop) (hs : ∀ dn ys st, I dn ys st → sameAt ns st0 st = true) {xs : List D}
    (step : ∀ dn x r ys st, dn ++ x :: r = xs → I dn ys st → W (f x st) fun p => I (dn ++ [x]) (ys ++ p.1.toList) p.2) : ∀ {st}, I [] [] st → W (compD ns st0 f xs st) fun p => I xs p.1 p.2 := by
  have main : ∀ (r dn ys : List D) (st : Sto), dn ++ r = xs → I dn ys st → W (compD ns st0 f r st) fun p => I xs (ys ++ p.1) p.2 := by
    intro r
    induction r with
    | nil =>
      intro dn ys st e h
      rw [compD, if_pos (hs _ _ _ h), W_some]
      simp at e; subst e
      simpa using h
    | cons x r ih =>
      intro dn ys st e h
      rw [compD, if_pos (hs _ _ _ h)]
      obtain ⟨⟨o, st1⟩, e1, h1⟩ := step dn x r ys st e h
      obtain ⟨⟨zs, st2⟩, e2, h2⟩ := ih (dn ++ [x]) _ st1 (by simpa using e) h1
      rw [e1]
      simp only
      rw [e2]
      simp only [W_some]
      cases o <;> simpa using h2
  intro st h
  exact (main xs [] [] st rfl h).mono fun p hp => by simpa using hp
/-! ### loops -/
/-- a for whose turns keep an invariant (of what is done, the slots, the store), or end it -/
theorem for_inv {ns : List Nat} {st0 : Sto} {f : D → Env → Sto → Option (Fl × Env × Sto)} (I : List D → Env → Sto → Prop) (R : Fl × Env × Sto → Prop) (hs : ∀ dn env st, I dn env st → sameAt ns st0 st = true) {xs : List D}
    (step : ∀ dn x r env st, dn ++ x :: r = xs → I dn env st → W (f x env st) fun p => (p.1 = .nx ∨ p.1 = .cont) ∧ I (dn ++ [x]) p.2.1 p.2.2 ∨ (∃ d, p.1 = .ret d) ∧ R p ∨ p.1 = .brk ∧ R (.nx, p.2))
    (fin : ∀ env st, I xs env st → R (.nx, env, st)) {env : Env} {st : Sto} (h : I [] env st) : W (forD ns st0 f xs env st) R := by
  have main : ∀ (r dn : List D) (env : Env) (st : Sto), dn ++ r = xs → I dn env st → W (forD ns st0 f r env st) R := by
    intro r
    induction r with
    | nil =>
      intro dn env st e h
      rw [forD, if_pos (hs _ _ _ h), W_some]
      simp at e; subst e
      exact fin _ _ h
    | cons x r ih =>
      intro dn env st e h
      rw [forD, if_pos (hs _ _ _ h)]
      obtain ⟨⟨fl, env1, st1⟩, e1, h1⟩ := step dn x r env st e h
      rw [e1]
      rcases h1 with ⟨h1 | h1, h2⟩ | ⟨⟨d, h1⟩, h2⟩ | ⟨h1, h2⟩
      · simp only at h1; subst h1
        exact ih (dn ++ [x]) env1 st1 (by simpa using e) h2
      · simp only at h1; subst h1
        exact ih (dn ++ [x]) env1 st1 (by simpa using e) h2
      · simp only at h1; subst h1
        exact ⟨_, rfl, h2⟩
      · simp only at h1; subst h1
        exact ⟨_, rfl, h2⟩
  exact main xs [] env st rfl h
/-- a while with a measure -/
theorem whl_inv {c : Env → Sto → Option (Bool × Sto)} {f : Env → Sto → Option (Fl × Env × Sto)} (I : Nat → Env → Sto → Prop) (R : Fl × Env × Sto → Prop)
    (step : ∀ m env st, I m env st → W (c env st) fun p => p.1 = false ∧ R (.nx, env, p.2) ∨ p.1 = true ∧ W (f env p.2) fun q => (q.1 = .nx ∨ q.1 = .cont) ∧ (∃ m', m' < m ∧ I m' q.2.1 q.2.2) ∨ (∃ d, q.1 = .ret d) ∧ R q ∨ q.1 = .brk ∧ R (.nx, q.2)) :
    ∀ (m n : Nat) (env : Env) (st : Sto), m < n → I m env st → W (whlD c f n env st) R := by
  intro m
  induction m using Nat.strongRecOn with
  | ind m ih =>
    intro n env st hn h
    obtain ⟨n, rfl⟩ : ∃ k, n = k + 1 := ⟨n - 1, by omega⟩
    rw [whlD]
    obtain ⟨⟨b, st1⟩, e1, h1⟩ := step m env st h
    rw [e1]
    rcases h1 with ⟨h1, h2⟩ | ⟨h1, ⟨fl, env2, st2⟩, e2, h2⟩
    · simp only at h1; subst h1
      exact ⟨_, rfl, h2⟩
    · simp only at h1; subst h1
      simp only at e2
      simp only [e2]
      rcases h2 with ⟨h2 | h2, m', hm, h3⟩ | ⟨⟨d, h2⟩, h3⟩ | ⟨h2, h3⟩
      · simp only at h2; subst h2
        exact ih m' hm n env2 st2 (by omega) h3
      · simp only at h2; subst h2
        exact ih m' hm n env2 st2 (by omega) h3
      · simp only at h2; subst h2
        exact ⟨_, rfl, h3⟩
      · simp only at h2; subst h2
        exact ⟨_, rfl, h3⟩
end MP
end
section
set_option Elab.async false
set_option linter.all false
set_option maxRecDepth 100000
set_option maxHeartbeats 4000000
/-! LPc: what each piece of text asks. -/
namespace MP
open PySem
variable {c : Cl} {env : Env} {st : Sto}
def asBl : D → Option Bool
  | .bl b => some b
  | _ => none
def asI : D → Option Int
  | .int b => some b
  | _ => none
@[simp] theorem asBl_bl {b : Bool} : asBl (.bl b) = some b := rfl
@[simp] theorem asI_int {b : Int} : asI (.int b) = some b := rfl
section
variable {Q : D × Sto → Prop}
theorem W_match {α β : Type} {r : Option α} {f : α → Option β} {Q : β → Prop} : W (match r with | some a => f a | none => none) Q ↔ W r fun a => W (f a) Q := by
  cases r <;> simp
@[simp] theorem w_var {i : Nat} : W (evE c (.var i) env st) Q ↔ ∃ d, env[i]? = some (some d) ∧ Q (d, st) := by
  rw [evE]
  split
  · rename_i d h
    rw [W_some, h]
    simp
  · rename_i h
    simp only [W_none, false_iff]
    rintro ⟨d, e, _⟩
    exact h d e
@[simp] theorem w_lit {d : D} : W (evE c (.lit d) env st) Q ↔ Q (d, st) := by rw [evE, W_some]
@[simp] theorem w_tup {es : List Ex} : W (evE c (.tup es) env st) Q ↔ W (evEs c es env st) fun p => Q (.tup p.1, p.2) := by
  rw [evE]; cases evEs c es env st <;> simp
@[simp] theorem w_lst {bx : Bool} {es : List Ex} : W (evE c (.lst bx es) env st) Q ↔ W (evEs c es env st) fun p => Q (boxD bx p.1 p.2) := by
  rw [evE]; cases evEs c es env st <;> simp
@[simp] theorem w_dct : W (evE c (.dct [] []) env st) Q ↔ Q (.ref st.length, st ++ [.dct []]) := by rw [evE, W_some]
@[simp] theorem w_bin {op : BOp} {a b : Ex} : W (evE c (.bin op a b) env st) Q ↔ W (evE c a env st) fun p => W (evE c b env p.2) fun q => W (binD op q.2 p.1 q.1) fun d => Q (d, q.2) := by
  rw [evE]
  cases evE c a env st with
  | none => simp
  | some p =>
    obtain ⟨x, s1⟩ := p
    simp only [W_some]
    cases evE c b env s1 with
    | none => simp
    | some q => simp [W_map]
@[simp] theorem w_neg {a : Ex} : W (evE c (.neg a) env st) Q ↔ W (evE c a env st) fun p => W (asI p.1) fun i => Q (.int (-i), p.2) := by
  rw [evE]
  cases evE c a env st with
  | none => simp
  | some p => obtain ⟨x, s1⟩ := p; cases x <;> simp [asBl, asI]
@[simp] theorem w_cmp {op : COp} {a b : Ex} : W (evE c (.cmp op a b) env st) Q ↔ W (evE c a env st) fun p => W (evE c b env p.2) fun q => W (cmpD op q.2 p.1 q.1) fun d => Q (.bl d, q.2) := by
  rw [evE]
  cases evE c a env st with
  | none => simp
  | some p =>
    obtain ⟨x, s1⟩ := p
    simp only [W_some]
    cases evE c b env s1 with
    | none => simp
    | some q => simp [W_map]
@[simp] theorem w_cmp2 {op op2 : COp} {a b d : Ex} : W (evE c (.cmp2 op op2 a b d) env st) Q ↔ W (evE c a env st) fun p => W (evE c b env p.2) fun q => W (cmpD op q.2 p.1 q.1) fun r => if r = true then W (evE c d env q.2) fun z => W (cmpD op2 z.2 q.1 z.1) fun r => Q (.bl r, z.2) else Q (.bl false, q.2) := by
  rw [evE]
  cases evE c a env st with
  | none => simp
  | some p =>
    obtain ⟨x, s1⟩ := p
    simp only [W_some]
    cases evE c b env s1 with
    | none => simp
    | some q =>
      obtain ⟨y, s2⟩ := q
      simp only [W_some]
      cases cmpD op s2 x y with
      | none => simp
      | some r =>
        cases r with
        | false => simp
        | true =>
          simp only [W_some, if_true]
          cases evE c d env s2 with
          | none => simp
          | some z => simp [W_map]
@[simp] theorem w_and {a b : Ex} : W (evE c (.and a b) env st) Q ↔ W (evE c a env st) fun p => W (asBl p.1) fun r => if r = true then W (evE c b env p.2) fun q => W (asBl q.1) fun z => Q (.bl z, q.2) else Q (.bl false, p.2) := by
  rw [evE]
  cases evE c a env st with
  | none => simp
  | some p =>
    obtain ⟨x, s1⟩ := p
    cases x with
    | bl r =>
      cases r with
      | false => simp
      | true =>
        simp only [W_some]
        cases evE c b env s1 with
        | none => simp
        | some q => obtain ⟨y, s2⟩ := q; cases y <;> simp [asBl, asI]
    | _ => simp [asBl, asI]
@[simp] theorem w_or {a b : Ex} : W (evE c (.or a b) env st) Q ↔ W (evE c a env st) fun p => W (asBl p.1) fun r => if r = true then Q (.bl true, p.2) else W (evE c b env p.2) fun q => W (asBl q.1) fun z => Q (.bl z, q.2) := by
  rw [evE]
  cases evE c a env st with
  | none => simp
  | some p =>
    obtain ⟨x, s1⟩ := p
    cases x with
    | bl r =>
      cases r with
      | true => simp
      | false =>
        simp only [W_some]
        cases evE c b env s1 with
        | none => simp
        | some q => obtain ⟨y, s2⟩ := q; cases y <;> simp [asBl, asI]
    | _ => simp [asBl, asI]
@[simp] theorem w_not {a : Ex} : W (evE c (.not a) env st) Q ↔ W (evE c a env st) fun p => W (asBl p.1) fun r => Q (.bl (!r), p.2) := by
  rw [evE]
  cases evE c a env st with
  | none => simp
  | some p => obtain ⟨x, s1⟩ := p; cases x <;> simp [asBl, asI]
@[simp] theorem w_ite {t a b : Ex} : W (evE c (.ite t a b) env st) Q ↔ W (evE c t env st) fun p => W (truD p.2 p.1) fun r => if r = true then W (evE c a env p.2) Q else W (evE c b env p.2) Q := by
  rw [evE]
  cases evE c t env st with
  | none => simp
  | some p =>
    obtain ⟨x, s1⟩ := p
    simp only [W_some]
    cases truD s1 x with
    | none => simp
    | some r => cases r <;> simp
@[simp] theorem w_idx {a b : Ex} : W (evE c (.idx a b) env st) Q ↔ W (evE c a env st) fun p => W (evE c b env p.2) fun q => W (ixD q.2 p.1 q.1) fun d => Q (d, q.2) := by
  rw [evE]
  cases evE c a env st with
  | none => simp
  | some p =>
    obtain ⟨x, s1⟩ := p
    simp only [W_some]
    cases evE c b env s1 with
    | none => simp
    | some q => simp [W_map]
@[simp] theorem w_sl {a : Ex} {lo hi : Option Ex} : W (evE c (.sl a lo hi) env st) Q ↔ W (evE c a env st) fun p => W (evO c lo env p.2) fun q => W (evO c hi env q.2) fun r => W (slD r.2 p.1 q.1 r.1) fun d => Q (d, r.2) := by
  rw [evE]
  cases evE c a env st with
  | none => simp
  | some p =>
    obtain ⟨x, s1⟩ := p
    simp only [W_some]
    cases evO c lo env s1 with
    | none => simp
    | some q =>
      obtain ⟨y, s2⟩ := q
      simp only [W_some]
      cases evO c hi env s2 with
      | none => simp
      | some q => simp [W_map]
@[simp] theorem w_isi {a : Ex} {t : Ty} : W (evE c (.isi a t) env st) Q ↔ W (evE c a env st) fun p => W (isiD p.2 t p.1) fun r => Q (.bl r, p.2) := by
  rw [evE]
  cases evE c a env st with
  | none => simp
  | some p => simp [W_map]
@[simp] theorem w_bf {f : Bf} {es : List Ex} : W (evE c (.bf f es) env st) Q ↔ W (evEs c es env st) fun p => W (bfD f p.2 p.1) fun d => Q (d, p.2) := by
  rw [evE]
  cases evEs c es env st with
  | none => simp
  | some p => simp [W_map]
@[simp] theorem w_mt {m : Mt} {o : Ex} {es : List Ex} : W (evE c (.mt m o es) env st) Q ↔ W (evE c o env st) fun p => mtOk m p.2 p.1 = true ∧ W (evEs c es env p.2) fun q => W (mtD m q.2 p.1 q.1) Q := by
  rw [evE]
  cases evE c o env st with
  | none => simp
  | some p =>
    obtain ⟨x, s1⟩ := p
    simp only [W_some]
    cases mtOk m s1 x with
    | false => simp
    | true =>
      simp only [if_true, true_and]
      cases evEs c es env s1 <;> simp
@[simp] theorem w_fld {o : Ex} {f : Str} : W (evE c (.fld o f) env st) Q ↔ W (evE c o env st) fun p => W (fldD c.att p.2 f p.1) fun d => Q (d, p.2) := by
  rw [evE]
  cases evE c o env st with
  | none => simp
  | some p => simp [W_map]
@[simp] theorem w_call {f : Str} {es : List Ex} : W (evE c (.call f es) env st) Q ↔ W (evEs c es env st) fun p => W (c.call f p.1 p.2) Q := by
  rw [evE]
  cases evEs c es env st <;> simp
@[simp] theorem w_callk {f : Str} {es zs : List Ex} {pm : List Nat} : W (evE c (.callk f es zs pm) env st) Q ↔ W (evEs c es env st) fun p => W (evEs c zs env p.2) fun q => W (c.call f (pick pm (p.1 ++ q.1)) q.2) Q := by
  rw [evE]
  cases evEs c es env st with
  | none => simp
  | some p =>
    obtain ⟨x, s1⟩ := p
    simp only [W_some]
    cases evEs c zs env s1 <;> simp
@[simp] theorem w_meth {k m q : Str} {o : Ex} {es : List Ex} : W (evE c (.meth k m q o es) env st) Q ↔ W (evE c o env st) fun p => recvOk p.2 k m p.1 = true ∧ W (evEs c es env p.2) fun r => W (c.call q (p.1 :: r.1) r.2) Q := by
  rw [evE]
  cases evE c o env st with
  | none => simp
  | some p =>
    obtain ⟨x, s1⟩ := p
    simp only [W_some]
    cases recvOk s1 k m x with
    | false => simp
    | true =>
      simp only [if_true, true_and]
      cases evEs c es env s1 <;> simp
@[simp] theorem w_mk {k : Str} {es : List Ex} : W (evE c (.mk k es) env st) Q ↔ W (evEs c es env st) fun p => W (c.make k p.1 p.2) Q := by
  rw [evE]
  cases evEs c es env st <;> simp
@[simp] theorem w_rg {tl : Bool} {es : List Ex} : W (evE c (.rg tl es) env st) Q ↔ W (evEs c es env st) fun p => W (rgD p.1) fun r => Q (if tl = true then .tup (rangeD r.1 (r.2 - r.1).toNat) else .lst (rangeD r.1 (r.2 - r.1).toNat), p.2) := by
  rw [evE]
  cases evEs c es env st with
  | none => simp
  | some p =>
    obtain ⟨x, s1⟩ := p
    simp only [W_some]
    cases rgD x <;> simp
/-- a turn of a comprehension -/
def compB (c : Cl) (elt : Ex) (tg : Tg) (ifs : List Ex) (own : List Nat) (env : Env) (x : D) (st : Sto) : Option (Option D × Sto) := match bindT tg x (wipeD env own) with
  | some env => match evT c ifs env st with
    | some (true, st) => match evE c elt env st with
      | some (y, st) => some (some y, st)
      | none => none
    | some (false, st) => some (none, st)
    | none => none
  | none => none
@[simp] theorem w_comp {bx : Bool} {elt : Ex} {tg : Tg} {src : Nat} {it ifs : List Ex} {own : List Nat} : W (evE c (.comp bx elt tg src it ifs own) env st) Q ↔ W (evEs c it env st) fun p => W (srcD p.2 src p.1) fun xs => xs.length ≤ sizeLine ∧ W (compD (srcRefs p.1) p.2 (compB c elt tg ifs own env) xs p.2) fun r => Q (boxD bx r.1 r.2) := by
  rw [evE]
  cases evEs c it env st with
  | none => simp
  | some p =>
    obtain ⟨x, s1⟩ := p
    simp only [W_some]
    cases srcD s1 src x with
    | none => simp
    | some xs =>
      simp only [W_some]
      by_cases h : xs.length ≤ sizeLine
      · rw [if_pos h]
        simp only [h, true_and]
        show W (match compD (srcRefs x) s1 (compB c elt tg ifs own env) xs s1 with | some (ys, st) => some (boxD bx ys st) | none => none) Q ↔ _
        cases compD (srcRefs x) s1 (compB c elt tg ifs own env) xs s1 <;> simp
      · rw [if_neg h]; simp [h]
end
@[simp] theorem w_nil {Q : List D × Sto → Prop} : W (evEs c [] env st) Q ↔ Q ([], st) := by rw [evEs, W_some]
@[simp] theorem w_cons {e : Ex} {es : List Ex} {Q : List D × Sto → Prop} : W (evEs c (e :: es) env st) Q ↔ W (evE c e env st) fun p => W (evEs c es env p.2) fun q => Q (p.1 :: q.1, q.2) := by
  rw [evEs]
  cases evE c e env st with
  | none => simp
  | some p =>
    obtain ⟨x, s1⟩ := p
    simp only [W_some]
    cases evEs c es env s1 <;> simp
@[simp] theorem w_ono {Q : Option Int × Sto → Prop} : W (evO c none env st) Q ↔ Q (none, st) := by rw [evO, W_some]
@[simp] theorem w_oso {e : Ex} {Q : Option Int × Sto → Prop} : W (evO c (some e) env st) Q ↔ W (evE c e env st) fun p => W (asI p.1) fun i => Q (some i, p.2) := by
  rw [evO]
  cases evE c e env st with
  | none => simp
  | some p => obtain ⟨x, s1⟩ := p; cases x <;> simp [asBl, asI]
@[simp] theorem w_tnil {Q : Bool × Sto → Prop} : W (evT c [] env st) Q ↔ Q (true, st) := by rw [evT, W_some]
@[simp] theorem w_tcons {e : Ex} {es : List Ex} {Q : Bool × Sto → Prop} : W (evT c (e :: es) env st) Q ↔ W (evE c e env st) fun p => W (truD p.2 p.1) fun r => if r = true then W (evT c es env p.2) Q else Q (false, p.2) := by
  rw [evT]
  cases evE c e env st with
  | none => simp
  | some p =>
    obtain ⟨x, s1⟩ := p
    simp only [W_some]
    cases truD s1 x with
    | none => simp
    | some r => cases r <;> simp
@[simp] theorem w_compB {elt : Ex} {tg : Tg} {ifs : List Ex} {own : List Nat} {x : D} {Q : Option D × Sto → Prop} : W (compB c elt tg ifs own env x st) Q ↔ W (bindT tg x (wipeD env own)) fun env => W (evT c ifs env st) fun p => if p.1 = true then W (evE c elt env p.2) fun q => Q (some q.1, q.2) else Q (none, p.2) := by
  unfold compB
  cases bindT tg x (wipeD env own) with
  | none => simp
  | some e2 =>
    simp only [W_some]
    cases evT c ifs e2 st with
    | none => simp
    | some p =>
      obtain ⟨b, s1⟩ := p
      cases b with
      | false => simp
      | true =>
        simp only [W_some, if_true]
        cases evE c elt e2 s1 <;> simp
@[simp] theorem w_bnm {i : Nat} {d : D} {Q : Env → Prop} : W (bindT (.nm i) d env) Q ↔ Q (env.set i (some d)) := by rw [bindT, W_some]
@[simp] theorem w_btp {ts : List Tg} {d : D} {Q : Env → Prop} : W (bindT (.tp ts) d env) Q ↔ ∃ xs, d = .tup xs ∧ W (bindTs ts xs env) Q := by
  cases d <;> simp [bindT]
@[simp] theorem w_bnil {Q : Env → Prop} : W (bindTs [] [] env) Q ↔ Q env := by rw [bindTs, W_some]
@[simp] theorem w_bcons {t : Tg} {ts : List Tg} {x : D} {xs : List D} {Q : Env → Prop} : W (bindTs (t :: ts) (x :: xs) env) Q ↔ W (bindT t x env) fun env => W (bindTs ts xs env) Q := by
  rw [bindTs]
  cases bindT t x env <;> simp
/-! ### statements -/
section
variable {Q : Fl × Env × Sto → Prop}
/-- go on behind what went through -/
def nxt (p : Fl × Env × Sto) (k : Env → Sto → Prop) (Q : Fl × Env × Sto → Prop) : Prop := match p with
  | (.nx, env, st) => k env st
  | p => Q p
@[simp] theorem nxt_nx {k : Env → Sto → Prop} : nxt (.nx, env, st) k Q ↔ k env st := Iff.rfl
@[simp] theorem nxt_ret {d : D} {k : Env → Sto → Prop} : nxt (.ret d, env, st) k Q ↔ Q (.ret d, env, st) := Iff.rfl
@[simp] theorem nxt_brk {k : Env → Sto → Prop} : nxt (.brk, env, st) k Q ↔ Q (.brk, env, st) := Iff.rfl
@[simp] theorem nxt_cont {k : Env → Sto → Prop} : nxt (.cont, env, st) k Q ↔ Q (.cont, env, st) := Iff.rfl
@[simp] theorem w_snil : W (evSs c [] env st) Q ↔ Q (.nx, env, st) := by rw [evSs, W_some]
theorem w_scons {s : St} {r : List St} : W (evSs c (s :: r) env st) Q ↔ W (evS c s env st) fun p => nxt p (fun env st => W (evSs c r env st) Q) Q := by
  rw [evSs]
  cases evS c s env st with
  | none => simp
  | some p => obtain ⟨fl, e2, s2⟩ := p; cases fl <;> simp
@[simp] theorem w_set {t : Tg} {e : Ex} : W (evS c (.set t e) env st) Q ↔ W (evE c e env st) fun p => W (bindT t p.1 env) fun env => Q (.nx, env, p.2) := by
  rw [evS]
  cases evE c e env st with
  | none => simp
  | some p =>
    obtain ⟨x, s1⟩ := p
    simp only [W_some]
    cases bindT t x env <;> simp
@[simp] theorem w_setI {o k e : Ex} : W (evS c (.setI o k e) env st) Q ↔ W (evE c e env st) fun p => W (evE c o env p.2) fun q => W (evE c k env q.2) fun r => W (putD r.2 q.1 r.1 p.1) fun st => Q (.nx, env, st) := by
  rw [evS]
  cases evE c e env st with
  | none => simp
  | some p =>
    obtain ⟨x, s1⟩ := p
    simp only [W_some]
    cases evE c o env s1 with
    | none => simp
    | some q =>
      obtain ⟨y, s2⟩ := q
      simp only [W_some]
      cases evE c k env s2 with
      | none => simp
      | some r =>
        obtain ⟨z, s3⟩ := r
        simp only [W_some]
        cases putD s3 y z x <;> simp
@[simp] theorem w_setF {o e : Ex} {f : Str} : W (evS c (.setF o f e) env st) Q ↔ W (evE c e env st) fun p => W (evE c o env p.2) fun q => W (setFld c.att q.2 q.1 f p.1) fun st => Q (.nx, env, st) := by
  rw [evS]
  cases evE c e env st with
  | none => simp
  | some p =>
    obtain ⟨x, s1⟩ := p
    simp only [W_some]
    cases evE c o env s1 with
    | none => simp
    | some q =>
      obtain ⟨y, s2⟩ := q
      simp only [W_some]
      cases setFld c.att s2 y f x <;> simp
@[simp] theorem w_ex {e : Ex} : W (evS c (.ex e) env st) Q ↔ W (evE c e env st) fun p => Q (.nx, env, p.2) := by
  rw [evS]
  cases evE c e env st <;> simp
@[simp] theorem w_ret {e : Ex} : W (evS c (.ret e) env st) Q ↔ W (evE c e env st) fun p => Q (.ret p.1, env, p.2) := by
  rw [evS]
  cases evE c e env st <;> simp
@[simp] theorem w_retN : W (evS c .retN env st) Q ↔ Q (.ret .non, env, st) := by rw [evS, W_some]
@[simp] theorem w_brk : W (evS c .brk env st) Q ↔ Q (.brk, env, st) := by rw [evS, W_some]
@[simp] theorem w_cont : W (evS c .cont env st) Q ↔ Q (.cont, env, st) := by rw [evS, W_some]
@[simp] theorem w_pass : W (evS c .pass env st) Q ↔ Q (.nx, env, st) := by rw [evS, W_some]
@[simp] theorem w_if {t : Ex} {a b : List St} : W (evS c (.ite t a b) env st) Q ↔ W (evE c t env st) fun p => W (truD p.2 p.1) fun r => if r = true then W (evSs c a env p.2) Q else W (evSs c b env p.2) Q := by
  rw [evS]
  cases evE c t env st with
  | none => simp
  | some p =>
    obtain ⟨x, s1⟩ := p
    simp only [W_some]
    cases truD s1 x with
    | none => simp
    | some r => cases r <;> simp
/-- a turn of a for -/
def forB (c : Cl) (t : Tg) (b : List St) (x : D) (env : Env) (st : Sto) : Option (Fl × Env × Sto) := match bindT t x env with
  | some env => evSs c b env st
  | none => none
@[simp] theorem w_forB {t : Tg} {b : List St} {x : D} : W (forB c t b x env st) Q ↔ W (bindT t x env) fun env => W (evSs c b env st) Q := by
  unfold forB
  cases bindT t x env <;> simp
@[simp] theorem w_for {t : Tg} {src : Nat} {it : List Ex} {b : List St} : W (evS c (.for_ t src it b) env st) Q ↔ W (evEs c it env st) fun p => W (srcD p.2 src p.1) fun xs => W (forD (srcRefs p.1) p.2 (forB c t b) xs env p.2) Q := by
  rw [evS]
  cases evEs c it env st with
  | none => simp
  | some p =>
    obtain ⟨x, s1⟩ := p
    simp only [W_some]
    cases srcD s1 src x with
    | none => simp
    | some xs =>
      simp only [W_some]
      rfl
/-- a test of a while -/
def whlC (c : Cl) (t : Ex) (env : Env) (st : Sto) : Option (Bool × Sto) := match evE c t env st with
  | some (v, st) => match truD st v with
    | some b => some (b, st)
    | none => none
  | none => none
@[simp] theorem w_whlC {t : Ex} {Q : Bool × Sto → Prop} : W (whlC c t env st) Q ↔ W (evE c t env st) fun p => W (truD p.2 p.1) fun b => Q (b, p.2) := by
  unfold whlC
  cases evE c t env st with
  | none => simp
  | some p =>
    obtain ⟨x, s1⟩ := p
    simp only [W_some]
    cases truD s1 x <;> simp
@[simp] theorem w_whl {t : Ex} {b : List St} : W (evS c (.whl t b) env st) Q ↔ W (whlD (whlC c t) (evSs c b) c.lap env st) Q := by
  rw [evS]; rfl
end
end MP
end
section
set_option Elab.async false
set_option linter.all false
set_option maxRecDepth 100000
set_option maxHeartbeats 4000000
/-! LPd: values, conditions, rules, cases, records by their kinds; sets and sorting of them. -/
namespace MP
open PySem
/-! ### two lists side by side -/
inductive All2 {α β : Type} (R : α → β → Prop) : List α → List β → Prop
  | nil : All2 R [] []
  | cons {a : α} {b : β} {as : List α} {bs : List β} (h : R a b) (t : All2 R as bs) : All2 R (a :: as) (b :: bs)
theorem All2.len {α β : Type} {R : α → β → Prop} {as : List α} {bs : List β} (h : All2 R as bs) : as.length = bs.length := by
  induction h with
  | nil => rfl
  | cons _ _ ih => simp [ih]
theorem all2_cons {α β : Type} {R : α → β → Prop} {a : α} {b : β} {as : List α} {bs : List β} : All2 R (a :: as) (b :: bs) ↔ R a b ∧ All2 R as bs := ⟨fun h => by cases h with | cons h t => exact ⟨h, t⟩, fun ⟨h, t⟩ => .cons h t⟩
theorem all2_nil_left {α β : Type} {R : α → β → Prop} {bs : List β} : All2 R [] bs ↔ bs = [] := ⟨fun h => by cases h; rfl, fun h => by subst h; exact .nil⟩
theorem all2_cons_left {α β : Type} {R : α → β → Prop} {a : α} {as : List α} {bs : List β} (h : All2 R (a :: as) bs) : ∃ b bs', bs = b :: bs' ∧ R a b ∧ All2 R as bs' := by
  cases h with
  | cons h t => exact ⟨_, _, rfl, h, t⟩
theorem All2.get {α β : Type} {R : α → β → Prop} {as : List α} {bs : List β} (h : All2 R as bs) : ∀ {i : Nat} {a : α} {b : β}, as[i]? = some a → bs[i]? = some b → R a b := by
  induction h with
  | nil => intro i a b e; simp at e
  | cons h t ih =>
    intro i a b e1 e2
    cases i with
    | zero => simp at e1 e2; subst e1 e2; exact h
    | succ i => simp at e1 e2; exact ih e1 e2
theorem All2.mono {α β : Type} {R S : α → β → Prop} {as : List α} {bs : List β} (h : All2 R as bs) (k : ∀ a b, a ∈ as → b ∈ bs → R a b → S a b) : All2 S as bs := by
  induction h with
  | nil => exact .nil
  | cons h t ih => exact .cons (k _ _ List.mem_cons_self List.mem_cons_self h) (ih fun a b ha hb => k a b (List.mem_cons_of_mem _ ha) (List.mem_cons_of_mem _ hb))
/-! ### values -/
inductive Vl where
  | i (n : Int)
  | s (x : Str)
  deriving DecidableEq
def Vl.d : Vl → D
  | .i n => .int n
  | .s x => .str x
/-- a condition, a span -/
inductive Cn where
  | r (a b : Int)
  | n (xs : List Str)
  deriving DecidableEq
def Cn.d : Cn → D
  | .r a b => .tup [.int a, .int b]
  | .n xs => .tup (xs.map .str)
abbrev Cs := List Vl
abbrev Rl := Option (List Cn)
abbrev Fm := List Cn
def eC (c : Cs) : D := .tup (c.map Vl.d)
def eR : Rl → D
  | none => .non
  | some r => .tup (r.map Cn.d)
def eN (ns : List Str) : D := .tup (ns.map .str)
def letV : Cn → Vl → Bool
  | .r a b, .i n => decide (a ≤ n) && decide (n ≤ b)
  | .n xs, .s x => decide (x ∈ xs)
  | _, _ => false
def letL : List Cn → Cs → Bool
  | k :: r, v :: c => letV k v && letL r c
  | _, _ => true
def letR : Rl → Cs → Bool
  | none, _ => false
  | some r, c => letL r c
/-- a span of a form -/
def SpOk : Cn → Prop
  | .r a b => a ≤ b ∧ -100000 ≤ a ∧ b ≤ 100000
  | .n xs => (∀ x ∈ xs, PyData.strOk x = true) ∧ xs.length ≤ 4 ∧ xs.Nodup ∧ xs ≠ []
def FmOk (fm : Fm) : Prop := fm ≠ [] ∧ fm.length ≤ 4 ∧ ∀ sp ∈ fm, SpOk sp
/-- a condition of a span -/
def cin : Cn → Cn → Prop
  | .r lo hi, .r a b => lo ≤ a ∧ a ≤ b ∧ b ≤ hi
  | .n ns, .n xs => xs ≠ [] ∧ (∀ x ∈ xs, x ∈ ns) ∧ xs.Nodup
  | _, _ => False
def COf (fm : Fm) (c : Cs) : Prop := All2 (fun sp v => letV sp v = true) fm c
def LOf (fm : Fm) (r : List Cn) : Prop := All2 cin fm r
def ROf (fm : Fm) : Rl → Prop
  | none => True
  | some r => LOf fm r
/-- a record -/
structure Rec where
  who : Str
  case : Cs
  word : Str
  deriving DecidableEq
def Rec.d (r : Rec) : D := .tup [.str r.who, eC r.case, .str r.word]
abbrev Log := List Rec
def eL (l : Log) : D := .tup (l.map Rec.d)
abbrev Clm := Cs × Str
def eClm (c : Clm) : D := .tup [eC c.1, .str c.2]
def eCl (l : List Clm) : D := .tup (l.map eClm)
structure RecOk (fm : Fm) (r : Rec) : Prop where
  who : PyData.strOk r.who = true
  case : COf fm r.case
  word : PyData.strOk r.word = true
def LogOk (fm : Fm) (l : Log) : Prop := l.length ≤ 20 ∧ ∀ r ∈ l, RecOk fm r
def ClsOk (fm : Fm) (l : List Clm) : Prop := l.length < 60 ∧ ∀ c ∈ l, COf fm c.1 ∧ PyData.strOk c.2 = true
/-! ### plain -/
theorem letV_s {sp : Cn} {x : Str} (h : letV sp (.s x) = true) (o : SpOk sp) : PyData.strOk x = true := by
  cases sp with
  | r a b => simp [letV] at h
  | n xs => simp [letV] at h; exact o.1 x h
theorem vl_pl {sp : Cn} {v : Vl} (h : letV sp v = true) (o : SpOk sp) : v.d.pl = true := by
  cases v with
  | i n => rfl
  | s x => exact letV_s h o
theorem vl_dp (v : Vl) : v.d.dp = 0 := by cases v <;> rfl
theorem cs_pls {fm : Fm} {c : Cs} (o : ∀ sp ∈ fm, SpOk sp) (h : COf fm c) : D.pls (c.map Vl.d) = true := by
  induction h with
  | nil => rfl
  | cons h t ih => rw [List.map_cons, D.pls, vl_pl h (o _ List.mem_cons_self), ih fun sp hs => o sp (List.mem_cons_of_mem _ hs)]; rfl
theorem cs_dps (c : Cs) : D.dps (c.map Vl.d) = 0 := by
  induction c with
  | nil => rfl
  | cons v c ih => rw [List.map_cons, D.dps, vl_dp, ih]; rfl
theorem eC_pl {fm : Fm} {c : Cs} (o : FmOk fm) (h : COf fm c) : (eC c).pl = true := cs_pls o.2.2 h
theorem eC_dp (c : Cs) : (eC c).dp = 1 := by rw [eC, D.dp, cs_dps]
theorem strs_pl {xs : List Str} (h : ∀ x ∈ xs, PyData.strOk x = true) : D.pls (xs.map .str) = true := by
  rw [pls_iff]
  intro d hd
  obtain ⟨x, hx, rfl⟩ := List.mem_map.mp hd
  exact h x hx
theorem strs_dp (xs : List Str) : D.dps (xs.map .str) = 0 := by
  induction xs with
  | nil => rfl
  | cons x xs ih => rw [List.map_cons, D.dps, ih]; rfl
theorem cn_pl {sp k : Cn} (h : cin sp k) (o : SpOk sp) : k.d.pl = true := by
  cases k with
  | r a b => rfl
  | n xs =>
    cases sp with
    | r a b => exact h.elim
    | n ns => exact strs_pl fun x hx => o.1 x (h.2.1 x hx)
theorem cn_dp (k : Cn) : k.d.dp = 1 := by
  cases k with
  | r a b => rfl
  | n xs => rw [Cn.d, D.dp, strs_dp]
theorem cns_pls {fm : Fm} {r : List Cn} (o : ∀ sp ∈ fm, SpOk sp) (h : LOf fm r) : D.pls (r.map Cn.d) = true := by
  induction h with
  | nil => rfl
  | cons h t ih => rw [List.map_cons, D.pls, cn_pl h (o _ List.mem_cons_self), ih fun sp hs => o sp (List.mem_cons_of_mem _ hs)]; rfl
theorem cns_dps (r : List Cn) : D.dps (r.map Cn.d) ≤ 1 := by
  rw [dps_le]
  intro d hd
  obtain ⟨k, _, rfl⟩ := List.mem_map.mp hd
  rw [cn_dp]; exact Nat.le_refl _
theorem eR_pl {fm : Fm} {r : Rl} (o : FmOk fm) (h : ROf fm r) : (eR r).pl = true := by
  cases r with
  | none => rfl
  | some r => exact cns_pls o.2.2 h
theorem eR_dp (r : Rl) : (eR r).dp ≤ 2 := by
  cases r with
  | none => simp [eR, D.dp]
  | some r => rw [eR, D.dp]; have := cns_dps r; omega
theorem rec_pl {fm : Fm} {r : Rec} (o : FmOk fm) (h : RecOk fm r) : r.d.pl = true := by
  rw [Rec.d, D.pl, D.pls, D.pls, D.pls, eC_pl o h.case]
  simp only [D.pl, h.who, h.word, D.pls]; rfl
theorem rec_dp (r : Rec) : r.d.dp = 2 := by
  rw [Rec.d, D.dp, D.dps, D.dps, D.dps, eC_dp]; rfl
theorem eL_pl {fm : Fm} {l : Log} (o : FmOk fm) (h : LogOk fm l) : (eL l).pl = true := by
  rw [eL, D.pl, pls_iff]
  intro d hd
  obtain ⟨r, hr, rfl⟩ := List.mem_map.mp hd
  exact rec_pl o (h.2 r hr)
theorem eL_dp (l : Log) : (eL l).dp ≤ 3 := by
  rw [eL, D.dp]
  have : D.dps (l.map Rec.d) ≤ 2 := by
    rw [dps_le]
    intro d hd
    obtain ⟨r, _, rfl⟩ := List.mem_map.mp hd
    rw [rec_dp]; exact Nat.le_refl _
  omega
/-! ### encodings tell apart -/
theorem vl_inj {a b : Vl} (h : a.d = b.d) : a = b := by
  cases a <;> cases b <;> simp [Vl.d] at h <;> simp [h]
theorem map_inj {α β : Type} {f : α → β} (hf : ∀ a b, f a = f b → a = b) : ∀ {xs ys : List α}, xs.map f = ys.map f → xs = ys
  | [], [], _ => rfl
  | [], _ :: _, h => by simp at h
  | _ :: _, [], h => by simp at h
  | x :: xs, y :: ys, h => by
    simp only [List.map_cons, List.cons.injEq] at h
    rw [hf x y h.1, map_inj hf h.2]
theorem str_inj (a b : Str) (h : D.str a = D.str b) : a = b := by simpa using h
theorem eC_inj (a b : Cs) (h : eC a = eC b) : a = b := by
  simp only [eC, D.tup.injEq] at h
  exact map_inj (fun _ _ => vl_inj) h
theorem eN_inj {a b : List Str} (h : eN a = eN b) : a = b := by
  simp only [eN, D.tup.injEq] at h
  exact map_inj str_inj h
theorem mem_map_inj {α β : Type} {f : α → β} (hf : ∀ a b, f a = f b → a = b) {x : α} {xs : List α} : f x ∈ xs.map f ↔ x ∈ xs := by
  rw [List.mem_map]
  exact ⟨fun ⟨y, hy, e⟩ => hf y x e ▸ hy, fun h => ⟨x, h, rfl⟩⟩
/-! ### sets, sorted -/
def ddp {α : Type} [DecidableEq α] : List α → List α
  | [] => []
  | x :: r => if x ∈ r then ddp r else x :: ddp r
def dle (a b : D) : Bool := PySem.W.dataLe false D.pyD a b
/-- the set of some things, ascending -/
def srt {α : Type} [DecidableEq α] (e : α → D) (xs : List α) : List α := (ddp xs).mergeSort fun a b => dle (e a) (e b)
section
variable {α : Type} [DecidableEq α] {e : α → D}
theorem mem_ddp {x : α} : ∀ {xs : List α}, x ∈ ddp xs ↔ x ∈ xs
  | [] => by simp [ddp]
  | y :: r => by
    unfold ddp
    split
    · rename_i h
      rw [mem_ddp, List.mem_cons]
      exact ⟨.inr, fun z => z.elim (fun q => q ▸ h) id⟩
    · rw [List.mem_cons, List.mem_cons, mem_ddp]
theorem nodup_ddp : ∀ xs : List α, (ddp xs).Nodup
  | [] => List.nodup_nil
  | y :: r => by
    unfold ddp
    split
    · exact nodup_ddp r
    · rename_i h
      rw [List.nodup_cons, mem_ddp]
      exact ⟨h, nodup_ddp r⟩
theorem ddp_map (he : ∀ a b, e a = e b → a = b) : ∀ xs : List α, dedup (xs.map e) = (ddp xs).map e
  | [] => rfl
  | x :: r => by
    rw [List.map_cons, dedup, ddp]
    by_cases h : x ∈ r
    · rw [if_pos h, if_pos ((mem_map_inj he).mpr h), ddp_map he r]
    · rw [if_neg h, if_neg (fun z => h ((mem_map_inj he).mp z)), ddp_map he r]; rfl
theorem mem_srt {x : α} {xs : List α} : x ∈ srt e xs ↔ x ∈ xs := by
  unfold srt
  rw [List.mem_mergeSort, mem_ddp]
theorem nodup_srt (xs : List α) : (srt e xs).Nodup := by
  unfold srt
  exact (List.mergeSort_perm _ _).nodup_iff.mpr (nodup_ddp xs)
theorem length_srt (xs : List α) : (srt e xs).length = (ddp xs).length := by
  unfold srt; exact List.length_mergeSort _
theorem length_ddp : ∀ xs : List α, (ddp xs).length ≤ xs.length
  | [] => Nat.le_refl _
  | x :: r => by
    unfold ddp
    have := length_ddp r
    split <;> simp <;> omega
/-- what is sorted of the same members is the same -/
theorem perm_of_mem : ∀ {l m : List α}, l.Nodup → m.Nodup → (∀ x, x ∈ l ↔ x ∈ m) → l.Perm m := by
  intro l m hl hm h
  exact List.perm_iff_count.mpr fun a => by
    rw [hl.count, hm.count]
    simp only [h a]
theorem srt_sorted (xs : List α) : (srt e xs).Pairwise fun a b => dle (e a) (e b) = true := by
  unfold srt
  exact List.pairwise_mergeSort (le := fun a b => dle (e a) (e b)) (fun a b c h1 h2 => le_trans3 D.pyD (e a) (e b) (e c) h1 h2) (fun a b => le_total2 D.pyD (e a) (e b)) _
/-- the encodings are told apart by the order -/
def Anti (e : α → D) (xs : List α) : Prop := ∀ a ∈ xs, ∀ b ∈ xs, dle (e a) (e b) = true → dle (e b) (e a) = true → a = b
theorem srt_uniq {xs ys : List α} (an : Anti e xs) (h : ys.Pairwise fun a b => dle (e a) (e b) = true) (hn : ys.Nodup) (hm : ∀ x, x ∈ ys ↔ x ∈ xs) : srt e xs = ys := by
  refine sorted_one (le := fun a b => dle (e a) (e b)) _ _ (perm_of_mem (nodup_srt xs) hn fun x => ?_) (srt_sorted xs) h fun a ha b hb => an a (mem_srt.mp ha) b (mem_srt.mp hb)
  rw [mem_srt, hm]
theorem srt_congr {xs ys : List α} (an : Anti e xs) (h : ∀ x, x ∈ xs ↔ x ∈ ys) : srt e xs = srt e ys := srt_uniq an (srt_sorted ys) (nodup_srt ys) fun x => by rw [mem_srt, h]
end
/-! #### what the evaluator does -/
theorem pys_map {α : Type} {e : α → D} {p : α → PyData} : ∀ {xs : List α}, (∀ x ∈ xs, D.py (e x) = some (p x)) → D.pys (xs.map e) = some (xs.map p)
  | [], _ => rfl
  | x :: xs, h => by rw [List.map_cons, D.pys, h x List.mem_cons_self, pys_map fun y hy => h y (List.mem_cons_of_mem _ hy)]; rfl
theorem sort_map {α : Type} {e : α → D} (xs : List α) : (xs.map e).mergeSort (PySem.W.dataLe false D.pyD) = (xs.mergeSort fun a b => dle (e a) (e b)).map e :=
  (List.map_mergeSort (r := fun a b => dle (e a) (e b)) (s := PySem.W.dataLe false D.pyD) (f := e) fun _ _ _ _ => rfl).symm
theorem sortD_map {α : Type} {e : α → D} {p : α → PyData} {xs : List α} (hp : ∀ x ∈ xs, D.py (e x) = some (p x)) (al : ∀ x ∈ xs, ∀ y ∈ xs, PySem.W.alike (p x) (p y) = true) (so : sortableP (xs.map p) = true) (ok : ∀ x ∈ xs, (p x).canLay0 = true ∧ (p x).depth ≤ 20) (hl : xs.length ≤ sizeLine) :
    sortD (xs.map e) = some ((xs.mergeSort fun a b => dle (e a) (e b)).map e) := by
  unfold sortD
  rw [pys_map hp]
  simp only
  rw [if_pos, sort_map]
  simp only [Bool.and_eq_true, List.length_map, decide_eq_true_eq]
  refine ⟨⟨⟨?_, so⟩, ?_⟩, hl⟩
  · unfold alikeP
    simp only [List.all_eq_true, List.mem_map]
    rintro d ⟨x, hx, rfl⟩ d2 ⟨y, hy, rfl⟩
    exact al x hx y hy
  · simp only [List.all_eq_true, List.mem_map, Bool.and_eq_true, decide_eq_true_eq]
    rintro d ⟨x, hx, rfl⟩
    obtain ⟨h1, h2⟩ := ok x hx
    exact ⟨by unfold SeqAt.shaped; rw [h1]; simp; omega, h2⟩
theorem sortable_strs (xs : List Str) : sortableP (xs.map .str) = true := by
  unfold sortableP
  rw [Bool.or_eq_true]
  right
  simp
theorem py_anti {α : Type} {e : α → D} {p : α → PyData} {xs : List α} (hp : ∀ x ∈ xs, D.py (e x) = some (p x)) (al : ∀ x ∈ xs, ∀ y ∈ xs, PySem.W.alike (p x) (p y) = true) (hh : ∀ x ∈ xs, D.hash (e x) = true) (he : ∀ a b, e a = e b → a = b) : Anti e xs := by
  intro a ha b hb h1 h2
  refine he a b (le_antisymm (xs := xs.map e) (pys_map hp) ?_ ?_ (List.mem_map_of_mem ha) (List.mem_map_of_mem hb) h1 h2)
  · unfold alikeP
    simp only [List.all_eq_true, List.mem_map]
    rintro d ⟨x, hx, rfl⟩ d2 ⟨y, hy, rfl⟩
    exact al x hx y hy
  · intro d hd
    obtain ⟨x, hx, rfl⟩ := List.mem_map.mp hd
    exact hh x hx
theorem strs_anti (xs : List Str) : Anti D.str xs := py_anti (p := .str) (fun _ _ => rfl) (fun _ _ _ _ => rfl) (fun _ _ => rfl) str_inj
def Vl.py : Vl → PyData
  | .i n => .int n
  | .s x => .str x
theorem vl_py (v : Vl) : D.py v.d = some v.py := by cases v <;> rfl
theorem cs_py (c : Cs) : D.py (eC c) = some (.tuple (c.map Vl.py)) := by
  rw [eC, D.py, pys_map (p := Vl.py) fun v _ => vl_py v]; rfl
theorem cs_hash (c : Cs) : D.hash (eC c) = true := by
  rw [eC, D.hash]
  induction c with
  | nil => rfl
  | cons v c ih => rw [List.map_cons, D.hashes, ih]; cases v <;> rfl
theorem cs_deps (c : Cs) : D.deps (c.map Vl.d) = 0 := by
  induction c with
  | nil => rfl
  | cons v c ih => rw [List.map_cons, D.deps, ih]; cases v <;> rfl
theorem cs_tupH (c : Cs) : (eC c).tupH = true := by
  have := cs_hash c
  rw [eC, D.hash] at this
  rw [eC, D.tupH, this, cs_deps]; rfl
theorem cs_alike {fm : Fm} {c d : Cs} (h : COf fm c) (k : COf fm d) : PySem.W.alike (.tuple (c.map Vl.py)) (.tuple (d.map Vl.py)) = true := by
  rw [PySem.W.alike]
  induction h generalizing d with
  | nil => rw [List.map_nil, PySem.W.alikeAll]
  | @cons sp v fm c h t ih =>
    cases k with
    | @cons _ w _ d k1 k2 =>
      rw [List.map_cons, List.map_cons, PySem.W.alikeAll, ih k2]
      cases sp <;> cases v <;> cases w <;> first | rfl | (simp [letV] at h; done) | (simp [letV] at k1; done)
theorem cs_anti {fm : Fm} {xs : List Cs} (h : ∀ c ∈ xs, COf fm c) : Anti eC xs := py_anti (fun c _ => cs_py c) (fun c hc d hd => cs_alike (h c hc) (h d hd)) (fun c _ => cs_hash c) eC_inj
/-- set(..) of texts, sorted -/
theorem set_strs {st : Sto} {xs : List Str} (hl : xs.length < 64) : setD (xs.map .str) = some (.set (xs.map .str)) := by
  unfold setD
  rw [if_pos]
  rw [Bool.and_eq_true, Bool.or_eq_true]
  refine ⟨.inl ?_, by simpa using hl⟩
  simp [D.scal]
theorem hashes_map {α : Type} {e : α → D} : ∀ {xs : List α}, (∀ x ∈ xs, D.hash (e x) = true) → D.hashes (xs.map e) = true
  | [], _ => rfl
  | x :: xs, h => by rw [List.map_cons, D.hashes, h x List.mem_cons_self, hashes_map fun y hy => h y (List.mem_cons_of_mem _ hy)]; rfl
theorem sorted_strs {st : Sto} {xs : List Str} (h : ∀ x ∈ xs, PyData.strOk x = true) (hl : xs.length < 64) : bfD .sorted st [.set (xs.map .str)] = some (.lst ((srt .str xs).map .str)) := by
  show (if D.hashes (xs.map .str) = true then (sortD (dedup (xs.map .str))).map D.lst else none) = _
  rw [if_pos (hashes_map fun _ _ => rfl), ddp_map str_inj, sortD_map (p := .str) (fun _ _ => rfl) (fun _ _ _ _ => rfl) (sortable_strs _) (fun x hx => ⟨h x (mem_ddp.mp hx), by rw [PyData.depth]; omega⟩) (by have := length_ddp xs; rw [sizeLine_eq]; omega)]
  rfl
theorem cs_depth (c : Cs) : PyData.depth (.tuple (c.map Vl.py)) ≤ 1 := by
  rw [PyData.depth]
  have : PyData.depthAll (c.map Vl.py) = 0 := by
    induction c with
    | nil => rfl
    | cons v c ih => rw [List.map_cons, PyData.depthAll, ih]; cases v <;> rfl
  omega
theorem cs_lay {fm : Fm} {c : Cs} (o : FmOk fm) (h : COf fm c) : PyData.canLay0 (.tuple (c.map Vl.py)) = true := by
  obtain ⟨p, h1, h2, _⟩ := pl_py _ (eC_pl o h)
  rw [cs_py] at h1
  cases h1; exact h2
theorem sortable_cs {fm : Fm} {xs : List Cs} (o : FmOk fm) (h : ∀ c ∈ xs, COf fm c) : sortableP (xs.map fun c => .tuple (c.map Vl.py)) = true := by
  unfold sortableP
  rw [Bool.or_eq_true]
  left
  simp only [List.all_eq_true, List.mem_map]
  rintro d ⟨c, hc, rfl⟩
  have := h c hc
  cases c with
  | nil =>
    have e := this.len
    exact absurd (List.length_eq_zero_iff.mp e) o.1
  | cons v c => rfl
theorem set_cs {xs : List Cs} (hl : xs.length < 64) : setD (xs.map eC) = some (.set (xs.map eC)) := by
  unfold setD
  rw [if_pos]
  rw [Bool.and_eq_true, Bool.or_eq_true]
  refine ⟨.inr ?_, by simpa using hl⟩
  simp [cs_tupH]
theorem sorted_cs {fm : Fm} {st : Sto} {xs : List Cs} (o : FmOk fm) (h : ∀ c ∈ xs, COf fm c) (hl : xs.length < 64) : bfD .sorted st [.set (xs.map eC)] = some (.lst ((srt eC xs).map eC)) := by
  show (if D.hashes (xs.map eC) = true then (sortD (dedup (xs.map eC))).map D.lst else none) = _
  rw [if_pos (hashes_map fun c _ => cs_hash c), ddp_map eC_inj, sortD_map (p := fun c => .tuple (c.map Vl.py)) (fun c _ => cs_py c) (fun c hc d hd => cs_alike (h c (mem_ddp.mp hc)) (h d (mem_ddp.mp hd))) (sortable_cs o fun c hc => h c (mem_ddp.mp hc)) (fun c hc => ⟨cs_lay o (h c (mem_ddp.mp hc)), by have := cs_depth c; omega⟩) (by have := length_ddp xs; rw [sizeLine_eq]; omega)]
  rfl
end MP
end
section
set_option Elab.async false
set_option linter.all false
set_option maxRecDepth 100000
set_option maxHeartbeats 4000000
/-! LPo: operations on values. -/
namespace MP
open PySem
variable {st : Sto}
@[simp] theorem tru_bl {b : Bool} : truD st (.bl b) = some b := rfl
@[simp] theorem tru_int {i : Int} : truD st (.int i) = some (decide (i ≠ 0)) := rfl
@[simp] theorem tru_non : truD st .non = some false := rfl
@[simp] theorem isi_non {t : Ty} : isiD st t .non = some false := rfl
@[simp] theorem isi_bl {t : Ty} {b : Bool} : isiD st t (.bl b) = some (t == .bool || t == .int) := rfl
@[simp] theorem isi_int {t : Ty} {b : Int} : isiD st t (.int b) = some (t == .int) := rfl
@[simp] theorem isi_str {t : Ty} {b : Str} : isiD st t (.str b) = some (t == .str) := rfl
@[simp] theorem isi_tup {t : Ty} {b : List D} : isiD st t (.tup b) = some (t == .tuple) := rfl
@[simp] theorem isi_lst {t : Ty} {b : List D} : isiD st t (.lst b) = some (t == .list) := rfl
@[simp] theorem ty_self (t : Ty) : (t == t) = true := by cases t <;> rfl
@[simp] theorem ty_int_str : (Ty.int == Ty.str) = false := rfl
@[simp] theorem ty_str_int : (Ty.str == Ty.int) = false := rfl
@[simp] theorem ty_str_tup : (Ty.str == Ty.tuple) = false := rfl
@[simp] theorem ty_int_tup : (Ty.int == Ty.tuple) = false := rfl
@[simp] theorem ty_tup_int : (Ty.tuple == Ty.int) = false := rfl
@[simp] theorem ty_tup_str : (Ty.tuple == Ty.str) = false := rfl
@[simp] theorem ty_tup_bool : (Ty.tuple == Ty.bool) = false := rfl
@[simp] theorem ty_bool_tup : (Ty.bool == Ty.tuple) = false := rfl
@[simp] theorem ty_bool_int : (Ty.bool == Ty.int) = false := rfl
@[simp] theorem ty_bool_str : (Ty.bool == Ty.str) = false := rfl
@[simp] theorem ty_int_bool : (Ty.int == Ty.bool) = false := rfl
@[simp] theorem ty_str_bool : (Ty.str == Ty.bool) = false := rfl
@[simp] theorem le_int {i j : Int} : cmpD .le st (.int i) (.int j) = some (decide (i ≤ j)) := rfl
@[simp] theorem lt_int {i j : Int} : cmpD .lt st (.int i) (.int j) = some (decide (i < j)) := rfl
@[simp] theorem ge_int {i j : Int} : cmpD .ge st (.int i) (.int j) = some (decide (j ≤ i)) := rfl
@[simp] theorem gt_int {i j : Int} : cmpD .gt st (.int i) (.int j) = some (decide (j < i)) := rfl
@[simp] theorem is_non {a : D} : cmpD .is st a .non = some (decide (a = .non)) := rfl
@[simp] theorem isnt_non {a : D} : cmpD .isnt st a .non = some (!decide (a = .non)) := rfl
theorem eq_pl {a b : D} (ha : a.pl = true) (hb : b.pl = true) (da : a.dp ≤ 64) (db : b.dp ≤ 64) : cmpD .eq st a b = some (decide (a = b)) := eqD_pl ha hb da db
theorem ne_pl {a b : D} (ha : a.pl = true) (hb : b.pl = true) (da : a.dp ≤ 64) (db : b.dp ≤ 64) : cmpD .ne st a b = some (!decide (a = b)) := by
  show (eqD a b).map (!·) = _
  rw [eqD_pl ha hb da db]; rfl
@[simp] theorem eq_int {i j : Int} : cmpD .eq st (.int i) (.int j) = some (decide (i = j)) := by
  rw [eq_pl rfl rfl (by simp [D.dp]) (by simp [D.dp])]; simp
@[simp] theorem ne_int {i j : Int} : cmpD .ne st (.int i) (.int j) = some (!decide (i = j)) := by
  rw [ne_pl rfl rfl (by simp [D.dp]) (by simp [D.dp])]; simp
theorem eq_str {x y : Str} (hx : PyData.strOk x = true) (hy : PyData.strOk y = true) : cmpD .eq st (.str x) (.str y) = some (decide (x = y)) := by
  rw [eq_pl (a := .str x) (b := .str y) hx hy (by simp [D.dp]) (by simp [D.dp])]; simp
theorem ne_str {x y : Str} (hx : PyData.strOk x = true) (hy : PyData.strOk y = true) : cmpD .ne st (.str x) (.str y) = some (!decide (x = y)) := by
  rw [ne_pl (a := .str x) (b := .str y) hx hy (by simp [D.dp]) (by simp [D.dp])]; simp
@[simp] theorem eq_bl {x y : Bool} : cmpD .eq st (.bl x) (.bl y) = some (x == y) := by
  cases x <;> cases y <;> rfl
@[simp] theorem ne_bl {x y : Bool} : cmpD .ne st (.bl x) (.bl y) = some (x != y) := by
  cases x <;> cases y <;> rfl
theorem eq_blD {x : D} {y : Bool} (h : x = .bl y) : True := trivial
@[simp] theorem memo_tup {a : D} {xs : List D} : memO st a (.tup xs) = memD a xs := rfl
@[simp] theorem memo_lst {a : D} {xs : List D} : memO st a (.lst xs) = memD a xs := rfl
@[simp] theorem in_tup {a : D} {xs : List D} : cmpD .in_ st a (.tup xs) = memD a xs := rfl
@[simp] theorem in_lst {a : D} {xs : List D} : cmpD .in_ st a (.lst xs) = memD a xs := rfl
@[simp] theorem notin_tup {a : D} {xs : List D} : cmpD .notin st a (.tup xs) = (memD a xs).map (!·) := rfl
@[simp] theorem notin_lst {a : D} {xs : List D} : cmpD .notin st a (.lst xs) = (memD a xs).map (!·) := rfl
theorem at_nat {α : Type} (xs : List α) (k : Nat) : L2.atI xs (k : Int) = xs[k]? := by
  unfold L2.atI L2.ixN
  rw [if_pos (by omega)]
  by_cases h : k < xs.length
  · rw [if_pos (by omega)]; simp
  · rw [if_neg (by omega), List.getElem?_eq_none (by omega)]; rfl
@[simp] theorem ix_tup {xs : List D} {i : Int} : ixD st (.tup xs) (.int i) = L2.atI xs i := rfl
@[simp] theorem ix_lst {xs : List D} {i : Int} : ixD st (.lst xs) (.int i) = L2.atI xs i := rfl
@[simp] theorem at_0 {α : Type} {x : α} {xs : List α} : L2.atI (x :: xs) 0 = some x := by simpa using at_nat (x :: xs) 0
@[simp] theorem at_1 {α : Type} {x y : α} {xs : List α} : L2.atI (x :: y :: xs) 1 = some y := by simpa using at_nat (x :: y :: xs) 1
@[simp] theorem at_2 {α : Type} {x y z : α} {xs : List α} : L2.atI (x :: y :: z :: xs) 2 = some z := by simpa using at_nat (x :: y :: z :: xs) 2
@[simp] theorem at_3 {α : Type} {x y z u : α} {xs : List α} : L2.atI (x :: y :: z :: u :: xs) 3 = some u := by simpa using at_nat (x :: y :: z :: u :: xs) 3
@[simp] theorem at_4 {α : Type} {x y z u v : α} {xs : List α} : L2.atI (x :: y :: z :: u :: v :: xs) 4 = some v := by simpa using at_nat (x :: y :: z :: u :: v :: xs) 4
/-- an item by an open place -/
theorem at_lt {α : Type} {xs : List α} {i : Int} (h0 : 0 ≤ i) (h1 : i < xs.length) : ∃ h : i.toNat < xs.length, L2.atI xs i = some (xs[i.toNat]'h) := by
  have h : i.toNat < xs.length := by omega
  refine ⟨h, ?_⟩
  have := at_nat xs i.toNat
  rw [show ((i.toNat : Nat) : Int) = i by omega] at this
  rw [this, List.getElem?_eq_getElem h]
@[simp] theorem add_int {i j : Int} : binD .add st (.int i) (.int j) = some (.int (i + j)) := rfl
@[simp] theorem sub_int {i j : Int} : binD .sub st (.int i) (.int j) = some (.int (i - j)) := rfl
theorem mul_int {i j : Int} (h : -(2 ^ 64) < i ∧ i < 2 ^ 64 ∨ -(2 ^ 64) < j ∧ j < 2 ^ 64) : binD .mul st (.int i) (.int j) = some (.int (i * j)) := by
  show (if mulOk i j = true then _ else _) = _
  rw [if_pos (by unfold mulOk; rw [decide_eq_true_eq]; exact h)]
theorem mod_int {i j : Int} (h : 0 < j) : binD .mod st (.int i) (.int j) = some (.int (i % j)) := by
  show (if 0 < j then _ else _) = _
  rw [if_pos h]
theorem fdiv_int {i j : Int} (h : 0 < j) (h2 : j < 1073741824) : binD .fdiv st (.int i) (.int j) = some (.int (i / j)) := by
  show (if 0 < j ∧ j < 1073741824 then _ else _) = _
  rw [if_pos ⟨h, h2⟩]
theorem add_tup {xs ys : List D} (h : xs.length + ys.length ≤ sizeLine) : binD .add st (.tup xs) (.tup ys) = some (.tup (xs ++ ys)) := by
  show (if xs.length + ys.length ≤ sizeLine then _ else _) = _
  rw [if_pos h]
theorem add_lst {xs ys : List D} (h : xs.length + ys.length ≤ sizeLine) : binD .add st (.lst xs) (.lst ys) = some (.lst (xs ++ ys)) := by
  show (if xs.length + ys.length ≤ sizeLine then _ else _) = _
  rw [if_pos h]
@[simp] theorem items_tup {xs : List D} : itemsOf st (.tup xs) = some xs := rfl
@[simp] theorem items_lst {xs : List D} : itemsOf st (.lst xs) = some xs := rfl
@[simp] theorem items_scr {ns : List Int} : itemsOf st (.scr ns) = some (ns.map .int) := rfl
@[simp] theorem list_lst {xs : List D} : listOf st (.lst xs) = some xs := rfl
@[simp] theorem len_set {xs : List D} : bfD .len st [.set xs] = some (.int (dedup xs).length) := rfl
@[simp] theorem len_tup {xs : List D} : bfD .len st [.tup xs] = some (.int xs.length) := rfl
@[simp] theorem len_lst {xs : List D} : bfD .len st [.lst xs] = some (.int xs.length) := rfl
@[simp] theorem tuple_tup {xs : List D} : bfD .tuple st [.tup xs] = some (.tup xs) := rfl
@[simp] theorem tuple_lst {xs : List D} : bfD .tuple st [.lst xs] = some (.tup xs) := rfl
@[simp] theorem list_tup {xs : List D} : bfD .list st [.tup xs] = some (.lst xs) := rfl
@[simp] theorem list_lst2 {xs : List D} : bfD .list st [.lst xs] = some (.lst xs) := rfl
@[simp] theorem abs_int {i : Int} : bfD .abs st [.int i] = some (.int (if i < 0 then -i else i)) := rfl
@[simp] theorem int_int {i : Int} : bfD .int st [.int i] = some (.int i) := rfl
@[simp] theorem int_bl {b : Bool} : bfD .int st [.bl b] = some (.int (if b then 1 else 0)) := rfl
@[simp] theorem min2_int {i j : Int} : bfD .min2 st [.int i, .int j] = some (.int (if j < i then j else i)) := rfl
@[simp] theorem max2_int {i j : Int} : bfD .max2 st [.int i, .int j] = some (.int (if j > i then j else i)) := rfl
@[simp] theorem set_lst {xs : List D} : bfD .set st [.lst xs] = setD xs := rfl
@[simp] theorem set_tup {xs : List D} : bfD .set st [.tup xs] = setD xs := rfl
theorem allBl_map {α : Type} {g : α → Bool} : ∀ {xs : List α}, allBl (xs.map fun x => .bl (g x)) = some (xs.map g)
  | [] => rfl
  | x :: xs => by rw [List.map_cons, allBl, allBl_map]; rfl
theorem all_map {α : Type} {g : α → Bool} {xs : List α} : bfD .all st [.lst (xs.map fun x => .bl (g x))] = some (.bl (xs.all g)) := by
  show ((listOf st (.lst _)).bind allBl).map _ = _
  rw [list_lst, Option.bind_some, allBl_map]
  simp [List.all_map]
theorem any_map {α : Type} {g : α → Bool} {xs : List α} : bfD .any st [.lst (xs.map fun x => .bl (g x))] = some (.bl (xs.any g)) := by
  show ((listOf st (.lst _)).bind allBl).map _ = _
  rw [list_lst, Option.bind_some, allBl_map]
  simp [List.any_map]
@[simp] theorem src0_tup {xs : List D} : srcD st 0 [.tup xs] = some xs := rfl
@[simp] theorem src0_lst {xs : List D} : srcD st 0 [.lst xs] = some xs := rfl
@[simp] theorem src0_scr {xs : List Int} : srcD st 0 [.scr xs] = some (xs.map .int) := rfl
@[simp] theorem src3_tup {xs : List D} : srcD st 3 [.tup xs] = some (zipD (rangeD 0 xs.length) xs) := rfl
@[simp] theorem src3_lst {xs : List D} : srcD st 3 [.lst xs] = some (zipD (rangeD 0 xs.length) xs) := rfl
@[simp] theorem src4_tup {xs ys : List D} : srcD st 4 [.tup xs, .tup ys] = some (zipD xs ys) := rfl
theorem src1 {j : Int} (h : small62 j = true) : srcD st 1 [.int j] = some (rangeD 0 j.toNat) := by
  show (if small62 j = true then _ else _) = _
  rw [if_pos h]
theorem src2 {i j : Int} (h : small62 i = true) (k : small62 j = true) : srcD st 2 [.int i, .int j] = some (rangeD i (j - i).toNat) := by
  show (if (small62 i && small62 j) = true then _ else _) = _
  rw [if_pos (by rw [h, k]; rfl)]
theorem small_of {i : Int} (h : -4000000000000000000 ≤ i) (k : i ≤ 4000000000000000000) : small62 i = true := by
  unfold small62; rw [decide_eq_true_eq]; omega
@[simp] theorem range_len2 {lo : Int} {n : Nat} : (rangeD lo n).length = n := by simp [rangeD]
theorem cut_to {xs : List D} {i : Int} (h : 0 ≤ i) : cutD xs none (some i) = xs.take i.toNat := by
  unfold cutD HT.sIx
  simp only [List.drop_zero]
  rw [if_neg (by omega), Nat.sub_zero]
  by_cases k : i.toNat ≤ xs.length
  · rw [Nat.min_eq_left k]
  · rw [Nat.min_eq_right (by omega), List.take_of_length_le (Nat.le_refl _), List.take_of_length_le (by omega)]
theorem sl_tup {xs : List D} {lo hi : Option Int} : slD st (.tup xs) lo hi = some (.tup (cutD xs lo hi)) := rfl
theorem sl_lst {xs : List D} {lo hi : Option Int} : slD st (.lst xs) lo hi = some (.lst (cutD xs lo hi)) := rfl
@[simp] theorem refs_nil : srcRefs [] = [] := rfl
@[simp] theorem refs_tup {xs r : List D} : srcRefs (.tup xs :: r) = srcRefs r := rfl
@[simp] theorem refs_lst {xs r : List D} : srcRefs (.lst xs :: r) = srcRefs r := rfl
@[simp] theorem refs_int {i : Int} {r : List D} : srcRefs (.int i :: r) = srcRefs r := rfl
@[simp] theorem refs_scr {i : List Int} {r : List D} : srcRefs (.scr i :: r) = srcRefs r := rfl
@[simp] theorem refs_ref {i : Nat} {r : List D} : srcRefs (.ref i :: r) = i :: srcRefs r := rfl
@[simp] theorem same_nil {st st' : Sto} : sameAt [] st st' = true := rfl
@[simp] theorem box_f {xs : List D} : boxD false xs st = (.lst xs, st) := rfl
@[simp] theorem box_t {xs : List D} : boxD true xs st = (.ref st.length, st ++ [.lst xs]) := rfl
@[simp] theorem wipe_nil {env : Env} : wipeD env [] = env := rfl
@[simp] theorem wipe_cons {env : Env} {v : Nat} {vs : List Nat} : wipeD env (v :: vs) = (wipeD env vs).set v none := rfl
end MP
end
section
set_option Elab.async false
set_option linter.all false
set_option maxRecDepth 100000
set_option maxHeartbeats 4000000
/-! LPe: the program's defs: rules, hulls. -/
namespace MP
open PySem
/-! ### what they reckon -/
def Cn.join : Cn → Cn → Cn
  | .r a b, .r c d => .r (if c < a then c else a) (if d > b then d else b)
  | .n xs, .n ys => .n (srt .str (xs ++ ys))
  | k, _ => k
def joinL : List Cn → List Cn → List Cn
  | a :: as, b :: bs => a.join b :: joinL as bs
  | _, _ => []
def joinR : Rl → Rl → Rl
  | Option.none, r => r
  | some a, Option.none => some a
  | some a, some b => some (joinL a b)
def Cn.one : Vl → Cn
  | .i m => .r m m
  | .s x => .n [x]
def caseR (c : Cs) : Rl := some (c.map Cn.one)
def hullFrom (r : Rl) (cs : List Cs) : Rl := cs.foldl (fun r c => joinR r (caseR c)) r
def hullR (cs : List Cs) : Rl := hullFrom none cs
def againstR (r : Rl) (c : Cs) (w : Str) : Bool := letR r c != decide (w = ("let" : Str))
theorem cin_join {sp a b : Cn} (o : SpOk sp) (ha : cin sp a) (hb : cin sp b) : cin sp (a.join b) := by
  cases sp with
  | r lo hi =>
    cases a with
    | n _ => exact ha.elim
    | r a1 a2 =>
      cases b with
      | n _ => exact hb.elim
      | r b1 b2 =>
        simp only [cin, Cn.join] at *
        split <;> split <;> omega
  | n ns =>
    cases a with
    | r _ _ => exact ha.elim
    | n xs =>
      cases b with
      | r _ _ => exact hb.elim
      | n ys =>
        obtain ⟨h1, h2, h3⟩ := ha
        obtain ⟨h4, h5, h6⟩ := hb
        refine ⟨?_, fun x hx => ?_, nodup_srt _⟩
        · intro e
          obtain ⟨x, r, rfl⟩ := List.exists_cons_of_ne_nil h1
          have : x ∈ srt D.str (x :: r ++ ys) := mem_srt.mpr (by simp)
          rw [e] at this
          simp at this
        · rcases List.mem_append.mp (mem_srt.mp hx) with z | z
          · exact h2 x z
          · exact h5 x z
theorem LOf_join : ∀ {fm : Fm} {a b : List Cn}, (∀ sp ∈ fm, SpOk sp) → LOf fm a → LOf fm b → LOf fm (joinL a b)
  | [], _, _, _, .nil, .nil => .nil
  | sp :: fm, _, _, o, .cons h t, .cons k u => .cons (cin_join (o sp List.mem_cons_self) h k) (LOf_join (fun s hs => o s (List.mem_cons_of_mem _ hs)) t u)
theorem ROf_join {fm : Fm} {a b : Rl} (o : FmOk fm) (ha : ROf fm a) (hb : ROf fm b) : ROf fm (joinR a b) := by
  cases a with
  | none => exact hb
  | some a =>
    cases b with
    | none => exact ha
    | some b => exact LOf_join o.2.2 ha hb
theorem cin_one {sp : Cn} {v : Vl} (h : letV sp v = true) : cin sp (Cn.one v) := by
  cases sp with
  | r lo hi =>
    cases v with
    | s x => simp [letV] at h
    | i n => simp [letV] at h; exact (⟨h.1, Int.le_refl _, h.2⟩ : lo ≤ n ∧ n ≤ n ∧ n ≤ hi)
  | n ns =>
    cases v with
    | i n => simp [letV] at h
    | s x => simp [letV] at h; simp [Cn.one, cin, h]
theorem ROf_case {fm : Fm} {c : Cs} (h : COf fm c) : ROf fm (caseR c) := by
  show LOf fm (c.map Cn.one)
  induction h with
  | nil => exact .nil
  | cons h t ih => exact .cons (cin_one h) ih
theorem ROf_from {fm : Fm} (o : FmOk fm) : ∀ {cs : List Cs} {r : Rl}, ROf fm r → (∀ c ∈ cs, COf fm c) → ROf fm (hullFrom r cs)
  | [], _, h, _ => h
  | c :: cs, r, h, k => ROf_from o (cs := cs) (r := joinR r (caseR c)) (ROf_join o h (ROf_case (k c List.mem_cons_self))) fun d hd => k d (List.mem_cons_of_mem _ hd)
theorem ROf_hull {fm : Fm} (o : FmOk fm) {cs : List Cs} (h : ∀ c ∈ cs, COf fm c) : ROf fm (hullR cs) := ROf_from o (r := none) trivial h
/-! ### the defs -/
theorem zip_map {α β : Type} {f : α → D} {g : β → D} : ∀ (xs : List α) (ys : List β), zipD (xs.map f) (ys.map g) = (xs.zip ys).map fun p => .tup [f p.1, g p.2]
  | [], _ => rfl
  | _ :: _, [] => rfl
  | x :: xs, y :: ys => by rw [List.map_cons, List.map_cons, zipD, zip_map xs ys]; rfl
theorem zip_in {α β γ : Type} {R : γ → α → Prop} {S : γ → β → Prop} : ∀ {cs : List γ} {xs : List α} {ys : List β}, All2 R cs xs → All2 S cs ys → ∀ p ∈ xs.zip ys, ∃ c ∈ cs, R c p.1 ∧ S c p.2
  | [], _, _, .nil, .nil, p, h => by simp at h
  | c :: cs, _, _, .cons h t, .cons k u, p, hp => by
    rw [List.zip_cons_cons] at hp
    rcases List.mem_cons.mp hp with e | e
    · subst e; exact ⟨c, List.mem_cons_self, h, k⟩
    · obtain ⟨d, h1, h2⟩ := zip_in t u p e
      exact ⟨d, List.mem_cons_of_mem _ h1, h2⟩
theorem letL_zip : ∀ (r : List Cn) (c : Cs), (r.zip c).all (fun p => letV p.1 p.2) = letL r c
  | [], _ => by simp [letL]
  | _ :: _, [] => by simp [letL]
  | k :: r, v :: c => by rw [List.zip_cons_cons, List.all_cons, letL_zip r c]; rfl
section
variable {T : Tx} (L : La T) {n : Nat} {st : Sto} {fm : Fm} (o : FmOk fm)
include L
theorem is_let_ok {sp k : Cn} {v : Vl} (os : SpOk sp) (hk : cin sp k) (hv : letV sp v = true) : callD T (n + 1) "is_let" [k.d, v.d] st = some (.bl (letV k v), st) := by
  rw [callD_eq L.x_is_let]
  refine run_ret rfl rfl rfl ?_
  cases sp with
  | r lo hi =>
    cases k with
    | n xs => exact hk.elim
    | r a b =>
      cases v with
      | s x => simp [letV] at hv
      | i m =>
        simp [fd_is_let, w_scons, Cn.d, Vl.d, letV]
        grind
  | n ns =>
    cases k with
    | r _ _ => exact hk.elim
    | n xs =>
      cases v with
      | i m => simp [letV] at hv
      | s x =>
        have hx : PyData.strOk x = true := letV_s hv os
        have hm : memD (.str x) (xs.map .str) = some (decide (x ∈ xs)) := by
          rw [memD_pl (x := .str x) hx (strs_pl fun y hy => os.1 y (hk.2.1 y hy)) (by simp [D.dp]) (by rw [strs_dp]; omega)]
          simp [mem_map_inj str_inj]
        simp [fd_is_let, w_scons, Cn.d, Vl.d, letV, hm]
include o
theorem lets_ok {r : Rl} {c : Cs} (hr : ROf fm r) (hc : COf fm c) : callD T (n + 2) "lets" [eR r, eC c] st = some (.bl (letR r c), st) := by
  rw [callD_eq L.x_lets]
  refine run_ret rfl rfl rfl ?_
  cases r with
  | none => simp [fd_lets, w_scons, eR, letR]
  | some r =>
    have hcomp : compD [] st (compB (clD T (n + 1)) (.call "is_let" [.var 2, .var 3]) (.tp [.nm 2, .nm 3]) [] [2, 3] [some (eR (some r)), some (eC c), none, none]) (zipD (r.map Cn.d) (c.map Vl.d)) st = some ((r.zip c).map fun p => .bl (letV p.1 p.2), st) := by
      rw [zip_map]
      refine comp_map fun p hp => ?_
      obtain ⟨sp, hs, h1, h2⟩ := zip_in hr hc p hp
      rw [← W_eq]
      simp [is_let_ok L (o.2.2 sp hs) h1 h2]
    simp only [eR, eC] at hcomp
    have hlen := hr.len
    have hlen2 := o.2.1
    simp [fd_lets, w_scons, eR, eC, hcomp, all_map, letL_zip, letR, sizeLine_eq]
    have : (zipD (r.map Cn.d) (c.map Vl.d)).length ≤ 16777216 := by rw [zip_map]; simp; omega
    omega
end
end MP
end
section
set_option Elab.async false
set_option linter.all false
set_option maxRecDepth 100000
set_option maxHeartbeats 4000000
/-! LPf: the program's defs: joins, hulls, logs. -/
namespace MP
open PySem
theorem strOk_let : PyData.strOk ("let" : Str) = true := by decide +kernel
theorem strOk_refused : PyData.strOk ("refused" : Str) = true := by decide +kernel
theorem strOk_sure : PyData.strOk ("sure" : Str) = true := by decide +kernel
theorem nodup_len {α : Type} [DecidableEq α] : ∀ {xs ns : List α}, xs.Nodup → (∀ x ∈ xs, x ∈ ns) → xs.length ≤ ns.length
  | [], _, _, _ => Nat.zero_le _
  | x :: xs, ns, h, k => by
    rw [List.nodup_cons] at h
    have h1 := nodup_len (xs := xs) (ns := ns.erase x) h.2 fun y hy => (List.mem_erase_of_ne (fun e : y = x => h.1 (by rw [← e]; exact hy))).mpr (k y (List.mem_cons_of_mem _ hy))
    have h2 := List.length_erase_of_mem (k x List.mem_cons_self)
    have h3 := List.length_pos_of_mem (k x List.mem_cons_self)
    simp; omega
/-! ### what they reckon -/
def wits (l : Log) : List Str := srt .str ((l.filter fun r => !decide (r.who = ("sure" : Str))).map Rec.who)
def toldC (l : Log) (w : Str) : List Cs := srt eC ((l.filter fun r => decide (r.word = w)).map Rec.case)
def withoutW (l : Log) (ns : List Str) : Log := l.filter fun r => !decide (r.who ∈ ns)
def claimedC (l : List Clm) (w : Str) : List Cs := (l.filter fun c => decide (c.2 = w)).map Prod.fst
theorem toldC_of {fm : Fm} {l : Log} {w : Str} (h : LogOk fm l) : ∀ c ∈ toldC l w, COf fm c := by
  intro c hc
  obtain ⟨r, hr, rfl⟩ := List.mem_map.mp (mem_srt.mp hc)
  exact (h.2 r (List.mem_filter.mp hr).1).case
theorem wits_ok {fm : Fm} {l : Log} (h : LogOk fm l) : ∀ x ∈ wits l, PyData.strOk x = true := by
  intro x hx
  obtain ⟨r, hr, rfl⟩ := List.mem_map.mp (mem_srt.mp hx)
  exact (h.2 r (List.mem_filter.mp hr).1).who
theorem wits_len {fm : Fm} {l : Log} (h : LogOk fm l) : (wits l).length ≤ 20 := by
  unfold wits
  rw [length_srt]
  have h1 := length_ddp ((l.filter fun r => !decide (r.who = ("sure" : Str))).map Rec.who)
  have h2 := List.length_filter_le (fun r : Rec => !decide (r.who = ("sure" : Str))) l
  have := h.1
  simp at h1
  omega
theorem toldC_len {fm : Fm} {l : Log} {w : Str} (h : LogOk fm l) : (toldC l w).length ≤ 20 := by
  unfold toldC
  rw [length_srt]
  have h1 := length_ddp ((l.filter fun r => decide (r.word = w)).map Rec.case)
  have h2 := List.length_filter_le (fun r : Rec => decide (r.word = w)) l
  have := h.1
  simp at h1
  omega
theorem LogOk.sub {fm : Fm} {l m : Log} (h : LogOk fm l) (k : m.Sublist l) : LogOk fm m := ⟨Nat.le_trans k.length_le h.1, fun r hr => h.2 r (k.subset hr)⟩
theorem withoutW_ok {fm : Fm} {l : Log} (h : LogOk fm l) (ns : List Str) : LogOk fm (withoutW l ns) := h.sub List.filter_sublist
theorem claimedC_of {fm : Fm} {l : List Clm} {w : Str} (h : ClsOk fm l) : ∀ c ∈ claimedC l w, COf fm c := by
  intro c hc
  obtain ⟨r, hr, rfl⟩ := List.mem_map.mp hc
  exact (h.2 r (List.mem_filter.mp hr).1).1
section
variable {T : Tx} (L : La T) {n : Nat} {st : Sto} {fm : Fm} (o : FmOk fm)
include L
theorem is_against_ok {r : Rl} {c : Cs} {w : Str} (o : FmOk fm) (hr : ROf fm r) (hc : COf fm c) (hw : PyData.strOk w = true) : callD T (n + 3) "is_against" [eR r, eC c, .str w] st = some (.bl (againstR r c w), st) := by
  rw [callD_eq L.x_is_against]
  refine run_ret rfl rfl rfl ?_
  simp [fd_is_against, w_scons, lets_ok L o hr hc, eq_str hw strOk_let, againstR]
theorem value_condition_ok {v : Vl} : callD T (n + 1) "value_condition" [v.d] st = some ((Cn.one v).d, st) := by
  rw [callD_eq L.x_value_condition]
  refine run_ret rfl (by cases v <;> rfl) rfl ?_
  cases v <;> simp [fd_value_condition, w_scons, Vl.d, Cn.one, Cn.d]
theorem case_rule_ok {c : Cs} (o : FmOk fm) (hc : COf fm c) : callD T (n + 2) "case_rule" [eC c] st = some (eR (caseR c), st) := by
  rw [callD_eq L.x_case_rule]
  refine run_ret rfl (low_pl _ (eR_pl o (ROf_case hc))) rfl ?_
  have hcomp : compD [] st (compB (clD T (n + 1)) (.call "value_condition" [.var 1]) (.nm 1) [] [1] [some (eC c), none]) (c.map Vl.d) st = some (c.map fun v => (Cn.one v).d, st) := by
    refine comp_map fun v hv => ?_
    rw [← W_eq]
    simp [value_condition_ok L]
  have := hc.len
  have := o.2.1
  simp only [eC] at hcomp ⊢
  simp [fd_case_rule, w_scons, hcomp, sizeLine_eq, eR, caseR]
  omega
theorem joined_condition_ok {sp a b : Cn} (os : SpOk sp) (ha : cin sp a) (hb : cin sp b) : callD T (n + 1) "joined_condition" [a.d, b.d] st = some ((a.join b).d, st) := by
  rw [callD_eq L.x_joined_condition]
  refine run_ret rfl (low_pl _ (cn_pl (cin_join os ha hb) os)) rfl ?_
  cases sp with
  | r lo hi =>
    cases a with
    | n _ => exact ha.elim
    | r a1 a2 =>
      cases b with
      | n _ => exact hb.elim
      | r b1 b2 => simp [fd_joined_condition, w_scons, Cn.d, Cn.join]
  | n ns =>
    cases a with
    | r _ _ => exact ha.elim
    | n xs =>
      cases b with
      | r _ _ => exact hb.elim
      | n ys =>
        have lx : xs.length ≤ 4 := Nat.le_trans (nodup_len ha.2.2 ha.2.1) os.2.1
        have ly : ys.length ≤ 4 := Nat.le_trans (nodup_len hb.2.2 hb.2.1) os.2.1
        have h1 : binD .or st (.set (xs.map .str)) (.set (ys.map .str)) = some (.set ((xs ++ ys).map .str)) := by
          show (if _ then _ else _) = _
          rw [if_pos ⟨by simp [D.scal], by simpa using lx, by simpa using ly⟩, List.map_append]
        have h2 : ∀ z ∈ xs ++ ys, PyData.strOk z = true := fun z hz => by
          rcases List.mem_append.mp hz with z | z
          · exact os.1 _ (ha.2.1 _ z)
          · exact os.1 _ (hb.2.1 _ z)
        obtain ⟨x, r, rfl⟩ := List.exists_cons_of_ne_nil ha.1
        have s1 := set_strs (st := st) (xs := x :: r) (by omega)
        have s2 := set_strs (st := st) (xs := ys) (by omega)
        have s3 := sorted_strs (st := st) h2 (by simp at lx ⊢; omega)
        simp only [List.map_cons, List.map_append, List.cons_append] at s1 s2 s3 h1
        simp [fd_joined_condition, w_scons, Cn.d, Cn.join, s1, s2, h1, s3]
include o
theorem join_ok {a b : Rl} (ha : ROf fm a) (hb : ROf fm b) : callD T (n + 2) "join" [eR a, eR b] st = some (eR (joinR a b), st) := by
  rw [callD_eq L.x_join]
  refine run_ret rfl (low_pl _ (eR_pl o (ROf_join o ha hb))) rfl ?_
  cases a with
  | none => simp [fd_join, w_scons, eR, joinR]
  | some a =>
    cases b with
    | none => simp [fd_join, w_scons, eR, joinR]
    | some b =>
      have hcomp : compD [] st (compB (clD T (n + 1)) (.call "joined_condition" [.var 2, .var 3]) (.tp [.nm 2, .nm 3]) [] [2, 3] [some (eR (some a)), some (eR (some b)), none, none]) (zipD (a.map Cn.d) (b.map Cn.d)) st = some ((a.zip b).map fun p => (p.1.join p.2).d, st) := by
        rw [zip_map]
        refine comp_map fun p hp => ?_
        obtain ⟨sp, hs, h1, h2⟩ := zip_in ha hb p hp
        rw [← W_eq]
        simp [joined_condition_ok L (o.2.2 sp hs) h1 h2]
      have hz : ∀ (a b : List Cn), ((a.zip b).map fun p => (p.1.join p.2).d) = (joinL a b).map Cn.d := by
        intro a
        induction a with
        | nil => intro b; simp [joinL]
        | cons x a ih => intro b; cases b <;> simp [joinL, ih]
      rw [hz] at hcomp
      simp only [eR] at hcomp
      have hlen := All2.len ha
      have hlen2 := o.2.1
      have : (zipD (a.map Cn.d) (b.map Cn.d)).length ≤ 16777216 := by rw [zip_map]; simp; omega
      simp [fd_join, w_scons, eR, joinR, hcomp, sizeLine_eq, this]
theorem hull_ok {cs : List Cs} {v : D} (hv : srcD st 0 [v] = some (cs.map eC)) (hr : srcRefs [v] = []) (h : ∀ c ∈ cs, COf fm c) : callD T (n + 3) "hull" [v] st = some (eR (hullR cs), st) := by
  rw [callD_eq L.x_hull]
  refine run_ret rfl (low_pl _ (eR_pl o (ROf_hull o h))) rfl ?_
  simp [fd_hull, w_scons, hv, hr]
  have h0 : ∀ (ds : List Cs) (r : Rl) (z : Option D), ROf fm r → (∀ c ∈ ds, COf fm c) → ∃ z', forD [] st (forB (clD T (n + 2)) (.nm 2) [.set (.nm 1) (.call "join" [.var 1, .call "case_rule" [.var 2]])]) (ds.map eC) [some v, some (eR r), z] st = some (.nx, [some v, some (eR (hullFrom r ds)), z'], st) := by
    intro ds
    induction ds with
    | nil => intro r z _ _; exact ⟨z, rfl⟩
    | cons c ds ih =>
      intro r z hr hd
      obtain ⟨z', e⟩ := ih (joinR r (caseR c)) (some (eC c)) (ROf_join o hr (ROf_case (hd c List.mem_cons_self))) fun d hd' => hd d (List.mem_cons_of_mem _ hd')
      refine ⟨z', ?_⟩
      have : forB (clD T (n + 2)) (.nm 2) [.set (.nm 1) (.call "join" [.var 1, .call "case_rule" [.var 2]])] (eC c) [some v, some (eR r), z] st = some (.nx, [some v, some (eR (joinR r (caseR c))), some (eC c)], st) := by
        rw [← W_eq]
        simp [w_scons, case_rule_ok L o (hd c List.mem_cons_self), join_ok L o hr (ROf_case (hd c List.mem_cons_self))]
      rw [List.map_cons, forD, if_pos same_nil, this]
      exact e
  obtain ⟨z', e⟩ := h0 cs none none trivial h
  rw [show (eR none : D) = .non from rfl] at e
  rw [e]
  simp [hullR]
theorem witnesses_ok {l : Log} (h : LogOk fm l) : callD T (n + 1) "witnesses" [eL l] st = some (eN (wits l), st) := by
  rw [callD_eq L.x_witnesses]
  refine run_ret rfl (low_pl _ (strs_pl (wits_ok h))) rfl ?_
  have hcomp : compD [] st (compB (clD T n) (.idx (.var 1) (.lit (.int 0))) (.nm 1) [.cmp .ne (.idx (.var 1) (.lit (.int 0))) (.lit (.str "sure"))] [1] [some (eL l), none]) (l.map Rec.d) st = some ((l.filter fun r => !decide (r.who = ("sure" : Str))).map fun r => .str r.who, st) := by
    refine comp_filter fun r hr => ?_
    rw [← W_eq]
    simp [Rec.d, ne_str (h.2 r hr).who strOk_sure]
  have h2 : ∀ x ∈ (l.filter fun r => !decide (r.who = ("sure" : Str))).map Rec.who, PyData.strOk x = true := fun x hx => by
    obtain ⟨r, hr, rfl⟩ := List.mem_map.mp hx
    exact (h.2 r (List.mem_filter.mp hr).1).who
  have hl := h.1
  have hl2 := List.length_filter_le (fun r : Rec => !decide (r.who = ("sure" : Str))) l
  have s1 := set_strs (st := st) (xs := (l.filter fun r => !decide (r.who = ("sure" : Str))).map Rec.who) (by rw [List.length_map]; omega)
  have s2 := sorted_strs (st := st) h2 (by rw [List.length_map]; omega)
  rw [List.map_map] at s1 s2
  have hc2 : compD [] st (compB (clD T n) (.idx (.var 1) (.lit (.int 0))) (.nm 1) [.cmp .ne (.idx (.var 1) (.lit (.int 0))) (.lit (.str "sure"))] [1] [some (eL l), none]) (l.map Rec.d) st = some ((l.filter fun r => !decide (r.who = ("sure" : Str))).map (D.str ∘ Rec.who), st) := hcomp
  simp only [eL] at hc2 ⊢
  simp [fd_witnesses, w_scons, hc2, sizeLine_eq, s1, s2, eN, wits]
  omega
theorem told_cases_ok {l : Log} {w : Str} (h : LogOk fm l) (hw : PyData.strOk w = true) : callD T (n + 1) "told_cases" [eL l, .str w] st = some (.tup ((toldC l w).map eC), st) := by
  rw [callD_eq L.x_told_cases]
  refine run_ret rfl ?_ rfl ?_
  · rw [D.low, lows_iff]
    intro d hd
    obtain ⟨c, hc, rfl⟩ := List.mem_map.mp hd
    exact low_pl _ (eC_pl o (toldC_of h c hc))
  have hcomp : compD [] st (compB (clD T n) (.var 3) (.tp [.nm 2, .nm 3, .nm 4]) [.cmp .eq (.var 4) (.var 1)] [2, 3, 4] [some (eL l), some (.str w), none, none, none]) (l.map Rec.d) st = some ((l.filter fun r => decide (r.word = w)).map (eC ∘ Rec.case), st) := by
    refine comp_filter fun r hr => ?_
    rw [← W_eq]
    simp [Rec.d, eq_str (h.2 r hr).word hw]
  have hl := h.1
  have hl2 := List.length_filter_le (fun r : Rec => decide (r.word = w)) l
  have h2 : ∀ x ∈ (l.filter fun r => decide (r.word = w)).map Rec.case, COf fm x := fun x hx => by
    obtain ⟨r, hr, rfl⟩ := List.mem_map.mp hx
    exact (h.2 r (List.mem_filter.mp hr).1).case
  have s1 := set_cs (xs := (l.filter fun r => decide (r.word = w)).map Rec.case) (by rw [List.length_map]; omega)
  have s2 := sorted_cs (st := st) o h2 (by rw [List.length_map]; omega)
  rw [List.map_map] at s1 s2
  simp only [eL] at hcomp ⊢
  simp [fd_told_cases, w_scons, hcomp, sizeLine_eq, s1, s2, toldC]
  omega
theorem let_cases_ok {l : Log} (h : LogOk fm l) : callD T (n + 2) "let_cases" [eL l] st = some (.tup ((toldC l "let").map eC), st) := by
  rw [callD_eq L.x_let_cases]
  refine run_ret rfl ?_ rfl ?_
  · rw [D.low, lows_iff]
    intro d hd
    obtain ⟨c, hc, rfl⟩ := List.mem_map.mp hd
    exact low_pl _ (eC_pl o (toldC_of h c hc))
  simp [fd_let_cases, w_scons, told_cases_ok L o h strOk_let]
theorem refused_cases_ok {l : Log} (h : LogOk fm l) : callD T (n + 2) "refused_cases" [eL l] st = some (.tup ((toldC l "refused").map eC), st) := by
  rw [callD_eq L.x_refused_cases]
  refine run_ret rfl ?_ rfl ?_
  · rw [D.low, lows_iff]
    intro d hd
    obtain ⟨c, hc, rfl⟩ := List.mem_map.mp hd
    exact low_pl _ (eC_pl o (toldC_of h c hc))
  simp [fd_refused_cases, w_scons, told_cases_ok L o h strOk_refused]
theorem without_witnesses_ok {l : Log} {ns : List Str} (h : LogOk fm l) (hn : ∀ x ∈ ns, PyData.strOk x = true) : callD T (n + 1) "without_witnesses" [eL l, eN ns] st = some (eL (withoutW l ns), st) := by
  rw [callD_eq L.x_without_witnesses]
  refine run_ret rfl (low_pl _ (eL_pl o (withoutW_ok h ns))) rfl ?_
  have hcomp : compD [] st (compB (clD T n) (.var 2) (.nm 2) [.cmp .notin (.idx (.var 2) (.lit (.int 0))) (.var 1)] [2] [some (eL l), some (eN ns), none]) (l.map Rec.d) st = some ((l.filter fun r => !decide (r.who ∈ ns)).map Rec.d, st) := by
    refine comp_filter fun r hr => ?_
    rw [← W_eq]
    have hm : memD (.str r.who) (ns.map .str) = some (decide (r.who ∈ ns)) := by
      rw [memD_pl (x := .str r.who) (h.2 r hr).who (strs_pl hn) (by simp [D.dp]) (by rw [strs_dp]; omega)]
      simp [mem_map_inj str_inj]
    simp [Rec.d, eN, hm]
  have hl := h.1
  simp only [eL] at hcomp ⊢
  simp [fd_without_witnesses, w_scons, hcomp, sizeLine_eq, withoutW]
  omega
theorem claimed_ok {l : List Clm} {w : Str} (h : ClsOk fm l) (hw : PyData.strOk w = true) : callD T (n + 1) "claimed" [eCl l, .str w] st = some (.lst ((claimedC l w).map eC), st) := by
  rw [callD_eq L.x_claimed]
  refine run_ret rfl ?_ rfl ?_
  · rw [D.low, lows_iff]
    intro d hd
    obtain ⟨c, hc, rfl⟩ := List.mem_map.mp hd
    exact low_pl _ (eC_pl o (claimedC_of h c hc))
  have hcomp : compD [] st (compB (clD T n) (.var 2) (.tp [.nm 2, .nm 3]) [.cmp .eq (.var 3) (.var 1)] [2, 3] [some (eCl l), some (.str w), none, none]) (l.map eClm) st = some ((l.filter fun c => decide (c.2 = w)).map (eC ∘ Prod.fst), st) := by
    refine comp_filter fun r hr => ?_
    rw [← W_eq]
    simp [eClm, eq_str (h.2 r hr).2 hw]
  have hl := h.1
  simp only [eCl] at hcomp ⊢
  simp [fd_claimed, w_scons, hcomp, sizeLine_eq, claimedC]
  omega
end
end MP
end
section
set_option Elab.async false
set_option linter.all false
set_option maxRecDepth 100000
set_option maxHeartbeats 4000000
/-! LPg: worlds and prices. -/
namespace MP
open PySem
/-! ### what they reckon -/
structure Wd where
  names : List Str
  least : Rl
  refused : List Cs
def mkW (l : Log) (ns : List Str) : Wd := ⟨ns, hullR (toldC (withoutW l ns) ("let" : Str)), toldC (withoutW l ns) ("refused" : Str)⟩
def Wd.rule (w : Wd) (cl : List Clm) : Rl := joinR w.least (hullR (claimedC cl ("let" : Str)))
def Wd.bears (w : Wd) (cl : List Clm) : Bool := !(w.refused.any fun c => letR (w.rule cl) c) && !(cl.any fun c => againstR (w.rule cl) c.1 c.2)
/-- a world's fields as the text has them -/
def wdF : List Str := [("names" : Str), ("least" : Str), ("refused" : Str)]
def Wd.vals (w : Wd) : List D := [eN w.names, eR w.least, .tup (w.refused.map eC)]
def Wd.d (w : Wd) : D := .ins ("World" : Str) wdF w.vals
def Wd.ob (w : Wd) : Ob := .ins ("World" : Str) (wdF.zip w.vals)
structure WdOk (fm : Fm) (w : Wd) : Prop where
  names : ∀ x ∈ w.names, PyData.strOk x = true
  least : ROf fm w.least
  refused : ∀ c ∈ w.refused, COf fm c
  len : w.refused.length ≤ 20
theorem mkW_ok {fm : Fm} (o : FmOk fm) {l : Log} (h : LogOk fm l) {ns : List Str} (hn : ∀ x ∈ ns, PyData.strOk x = true) : WdOk fm (mkW l ns) :=
  ⟨hn, ROf_hull o (toldC_of (withoutW_ok h ns)), toldC_of (withoutW_ok h ns), toldC_len (withoutW_ok h ns)⟩
theorem Wd.rule_of {fm : Fm} (o : FmOk fm) {w : Wd} (h : WdOk fm w) {cl : List Clm} (hc : ClsOk fm cl) : ROf fm (w.rule cl) := ROf_join o h.least (ROf_hull o (claimedC_of hc))
/-- the parts of a list, by their places -/
def combs {α : Type} : Nat → List α → List (List α)
  | 0, _ => [[]]
  | _ + 1, [] => []
  | r + 1, x :: xs => (combs r xs).map (x :: ·) ++ combs (r + 1) xs
theorem combos_map {α : Type} {e : α → D} : ∀ (r : Nat) (xs : List α), combosD r (xs.map e) = (combs r xs).map (List.map e)
  | 0, _ => by simp [combosD, combs]
  | _ + 1, [] => rfl
  | r + 1, x :: xs => by
    rw [List.map_cons, combosD, combs, combos_map r xs, combos_map (r + 1) xs, List.map_append, List.map_map, List.map_map]
    rfl
theorem combs_sub {α : Type} : ∀ {r : Nat} {xs c : List α}, c ∈ combs r xs → c.Sublist xs ∧ c.length = r
  | 0, xs, c, h => by
    have : c = [] := by simpa [combs] using h
    subst this; exact ⟨List.nil_sublist _, rfl⟩
  | _ + 1, [], c, h => by simp [combs] at h
  | r + 1, x :: xs, c, h => by
    unfold combs at h
    rcases List.mem_append.mp h with h | h
    · obtain ⟨d, hd, rfl⟩ := List.mem_map.mp h
      obtain ⟨h1, h2⟩ := combs_sub hd
      exact ⟨h1.cons_cons x, by simp [h2]⟩
    · obtain ⟨h1, h2⟩ := combs_sub h
      exact ⟨h1.cons x, h2⟩
theorem sub_combs {α : Type} : ∀ {xs c : List α}, c.Sublist xs → c ∈ combs c.length xs
  | [], c, h => by rw [List.sublist_nil.mp h]; simp [combs]
  | x :: xs, [], h => by simp [combs]
  | x :: xs, y :: c, h => by
    rw [List.length_cons, combs]
    cases h with
    | cons _ h => exact List.mem_append.mpr (.inr (by have := sub_combs h; simpa using this))
    | cons_cons _ h => exact List.mem_append.mpr (.inl (List.mem_map.mpr ⟨c, sub_combs h, rfl⟩))
/-- the sets of witnesses, the smaller ones first -/
def lots (ns : List Str) : List (List Str) := (List.range (ns.length + 1)).flatMap fun r => combs r ns
theorem flat_succ {α : Type} (f : Nat → List α) (k : Nat) : ((List.range (k + 1)).flatMap f).length = ((List.range k).flatMap f).length + (f k).length := by
  rw [List.range_succ, List.flatMap_append, List.length_append]; simp
theorem lots_len : ∀ (k : Nat) (ns : List Str), ((List.range k).flatMap fun r => combs r ns).length ≤ 2 ^ ns.length
  | 0, ns => by simp
  | k + 1, [] => by
    rw [List.range_succ_eq_map, List.flatMap_cons, List.flatMap_map]
    have : ((List.range k).flatMap fun r => combs (Nat.succ r) ([] : List Str)) = [] := by
      rw [List.flatMap_eq_nil_iff]; intro r _; rfl
    rw [List.length_append, this]; simp [combs]
  | k + 1, x :: xs => by
    have h1 := lots_len k xs
    have h2 := lots_len (k + 1) xs
    have e : ∀ k, ((List.range (k + 1)).flatMap fun r => combs r (x :: xs)).length = ((List.range k).flatMap fun r => combs r xs).length + ((List.range (k + 1)).flatMap fun r => combs r xs).length := by
      intro k
      induction k with
      | zero => simp [combs]
      | succ k ih =>
        have a1 := flat_succ (fun r => combs r (x :: xs)) (k + 1)
        have a2 := flat_succ (fun r => combs r xs) (k + 1)
        have a3 := flat_succ (fun r => combs r xs) k
        have a4 : (combs (k + 1) (x :: xs)).length = (combs k xs).length + (combs (k + 1) xs).length := by simp [combs]
        omega
    rw [e, List.length_cons, Nat.pow_succ]; omega
def worlds (l : Log) : List Wd := ((lots (wits l)).map (mkW l)).filter fun w => w.bears []
def priceW (ws : List Wd) (cl : List Clm) : Option Nat := (ws.find? fun w => w.bears cl).map fun w => w.names.length
def ePr : Option Nat → D
  | none => .non
  | some k => .int k
def priceL (l : Log) (cl : List Clm) : Option Nat := priceW (worlds l) cl
theorem strs_sub {ns c : List Str} (h : ∀ x ∈ ns, PyData.strOk x = true) (s : c.Sublist ns) : ∀ x ∈ c, PyData.strOk x = true := fun x hx => h x (s.subset hx)
theorem lots_sub {ns c : List Str} (h : c ∈ lots ns) : c.Sublist ns := by
  obtain ⟨r, _, hc⟩ := List.mem_flatMap.mp h
  exact (combs_sub hc).1
theorem worlds_ok {fm : Fm} (o : FmOk fm) {l : Log} (h : LogOk fm l) : ∀ w ∈ worlds l, WdOk fm w := by
  intro w hw
  obtain ⟨ns, hns, rfl⟩ := List.mem_map.mp (List.mem_filter.mp hw).1
  exact mkW_ok o h (strs_sub (wits_ok h) (lots_sub hns))
theorem nil_claims (fm : Fm) : ClsOk fm [] := ⟨by simp, fun c h => by simp at h⟩
/-! ### the classes -/
/-- what a table says of World -/
structure LaW (T : Tx) : Prop where
  cl : T.cl ("World" : Str) = some ("World.__init__" : Str)
  at1 : T.att ("World" : Str) ("names" : Str) = true
  at2 : T.att ("World" : Str) ("least" : Str) = true
  at3 : T.att ("World" : Str) ("refused" : Str) = true
/-- a value that is this world -/
structure IsW (T : Tx) (st : Sto) (w : Wd) (d : D) : Prop where
  f1 : fldD T.att st ("names" : Str) d = some (eN w.names)
  f2 : fldD T.att st ("least" : Str) d = some (eR w.least)
  f3 : fldD T.att st ("refused" : Str) d = some (.tup (w.refused.map eC))
  m1 : recvOk st ("World" : Str) ("rule_for" : Str) d = true
  m2 : recvOk st ("World" : Str) ("bears" : Str) d = true
theorem isW_ins {T : Tx} (V : LaW T) (st : Sto) (w : Wd) : IsW T st w w.d := by
  have e1 : (wdF.zip w.vals).lookup ("names" : Str) = some (eN w.names) := rfl
  have e2 : (wdF.zip w.vals).lookup ("least" : Str) = some (eR w.least) := rfl
  have e3 : (wdF.zip w.vals).lookup ("refused" : Str) = some (.tup (w.refused.map eC)) := rfl
  refine ⟨?_, ?_, ?_, ?_, ?_⟩
  · unfold fldD Wd.d; simp only [V.at1, if_true]; exact e1
  · unfold fldD Wd.d; simp only [V.at2, if_true]; exact e2
  · unfold fldD Wd.d; simp only [V.at3, if_true]; exact e3
  · unfold recvOk Wd.d; simp only; decide +kernel
  · unfold recvOk Wd.d; simp only; decide +kernel
theorem isW_ref {T : Tx} (V : LaW T) {st : Sto} {w : Wd} {n : Nat} (h : st[n]? = some w.ob) : IsW T st w (.ref n) := by
  have e1 : (wdF.zip w.vals).lookup ("names" : Str) = some (eN w.names) := rfl
  have e2 : (wdF.zip w.vals).lookup ("least" : Str) = some (eR w.least) := rfl
  have e3 : (wdF.zip w.vals).lookup ("refused" : Str) = some (.tup (w.refused.map eC)) := rfl
  refine ⟨?_, ?_, ?_, ?_, ?_⟩
  · unfold fldD; simp only [h, Wd.ob, V.at1, if_true]; exact e1
  · unfold fldD; simp only [h, Wd.ob, V.at2, if_true]; exact e2
  · unfold fldD; simp only [h, Wd.ob, V.at3, if_true]; exact e3
  · unfold recvOk; simp only [h, Wd.ob]
    show (decide _ && !((wdF.zip w.vals).map (·.1)).contains _) = true
    rw [show (wdF.zip w.vals).map (·.1) = wdF from rfl]; decide +kernel
  · unfold recvOk; simp only [h, Wd.ob]
    show (decide _ && !((wdF.zip w.vals).map (·.1)).contains _) = true
    rw [show (wdF.zip w.vals).map (·.1) = wdF from rfl]; decide +kernel
section
variable {T : Tx} (L : La T) (V : LaW T) {n : Nat} {st : Sto} {fm : Fm} (o : FmOk fm)
include L V o
theorem init_ok {l : Log} {ns : List Str} (h : LogOk fm l) (hn : ∀ x ∈ ns, PyData.strOk x = true) : callD T (n + 4) "World.__init__" [.ref st.length, eL l, eN ns] (st ++ [.ins ("World" : Str) []]) = some (.non, st ++ [(mkW l ns).ob]) := by
  rw [callD_eq L.x_World___init__]
  rw [← W_eq]
  refine run_gen rfl rfl ?_
  have h0 : ∀ (fs : List (Str × D)), (st ++ [Ob.ins ("World" : Str) fs])[st.length]? = some (.ins ("World" : Str) fs) := fun fs => by simp
  have h1 : ∀ (fs fs' : List (Str × D)), (st ++ [Ob.ins ("World" : Str) fs]).set st.length (.ins ("World" : Str) fs') = st ++ [.ins ("World" : Str) fs'] := fun fs fs' => by
    rw [List.set_append_right _ _ (Nat.le_refl _)]; simp
  have hw := withoutW_ok h ns
  have hu := hull_ok L o (n := n) (st := st ++ [Ob.ins ("World" : Str) [(("names" : Str), eN ns)]]) (cs := toldC (withoutW l ns) ("let" : Str)) (v := .tup ((toldC (withoutW l ns) ("let" : Str)).map eC)) rfl rfl (toldC_of hw)
  have p2 : putA ("least" : Str) (eR (hullR (toldC (withoutW l ns) ("let" : Str)))) [(("names" : Str), eN ns)] = [(("names" : Str), eN ns), (("least" : Str), eR (hullR (toldC (withoutW l ns) ("let" : Str))))] := rfl
  have p3 : putA ("refused" : Str) (.tup ((toldC (withoutW l ns) ("refused" : Str)).map eC)) [(("names" : Str), eN ns), (("least" : Str), eR (hullR (toldC (withoutW l ns) ("let" : Str))))] = [(("names" : Str), eN ns), (("least" : Str), eR (hullR (toldC (withoutW l ns) ("let" : Str)))), (("refused" : Str), .tup ((toldC (withoutW l ns) ("refused" : Str)).map eC))] := rfl
  have p1 : putA ("names" : Str) (eN ns) [] = [(("names" : Str), eN ns)] := rfl
  simp [fd_World___init__, w_scons, without_witnesses_ok L o h hn, let_cases_ok L o hw, hu, refused_cases_ok L o hw, setFld, h0, h1, V.at1, V.at2, V.at3, p1, p2, p3]
  refine ⟨.non, by rw [frz_low rfl], ?_, rfl, ?_⟩
  · refine lowSt_of fun i hi => ?_
    by_cases e : i < st.length
    · left; rw [List.getElem?_append_left e, List.getElem?_append_left e]
    · right
      have : i = st.length := by omega
      subst this
      refine ⟨_, List.getElem?_concat_length, ?_⟩
      have l1 : D.low (st.length + 1) (eN ns) = true := low_pl _ (strs_pl hn)
      have l2 : D.low (st.length + 1) (eR (hullR (toldC (withoutW l ns) ("let" : Str)))) = true := low_pl _ (eR_pl o (ROf_hull o (toldC_of hw)))
      have l3 : D.lows (st.length + 1) ((toldC (withoutW l ns) ("refused" : Str)).map eC) = true := by
        rw [lows_iff]
        intro d hd
        obtain ⟨c, hc, rfl⟩ := List.mem_map.mp hd
        exact low_pl _ (eC_pl o (toldC_of hw c hc))
      simp [Ob.low, D.lows, l1, l2, D.low, l3]
  · rw [List.take_of_length_le (by simp)]
    rfl
theorem rule_for_ok {w : Wd} {d : D} {cl : List Clm} (hw : WdOk fm w) (hd : IsW T st w d) (hc : ClsOk fm cl) : callD T (n + 4) "World.rule_for" [d, eCl cl] st = some (eR (w.rule cl), st) := by
  rw [callD_eq L.x_World_rule_for]
  refine run_ret rfl (low_pl _ (eR_pl o (w.rule_of o hw hc))) rfl ?_
  have hu := hull_ok L o (n := n) (st := st) (cs := claimedC cl ("let" : Str)) (v := .lst ((claimedC cl ("let" : Str)).map eC)) rfl rfl (claimedC_of hc)
  simp [fd_World_rule_for, w_scons, hd.f2, claimed_ok L o hc strOk_let, hu, join_ok L o hw.least (ROf_hull o (claimedC_of hc)), Wd.rule]
theorem bears_ok {w : Wd} {d : D} {cl : List Clm} (hw : WdOk fm w) (hd : IsW T st w d) (hc : ClsOk fm cl) : callD T (n + 5) "World.bears" [d, eCl cl] st = some (.bl (w.bears cl), st) := by
  rw [callD_eq L.x_World_bears]
  refine run_ret rfl rfl rfl ?_
  have hr := w.rule_of o hw hc
  have hc1 : compD [] st (compB (clD T (n + 4)) (.call "lets" [.var 2, .var 3]) (.nm 3) [] [3] [some d, some (eCl cl), some (eR (w.rule cl)), none, none]) (w.refused.map eC) st = some (w.refused.map fun c => .bl (letR (w.rule cl) c), st) := by
    refine comp_map fun c hc => ?_
    rw [← W_eq]
    simp [lets_ok L o hr (hw.refused c hc)]
  have hc2 : compD [] st (compB (clD T (n + 4)) (.call "is_against" [.var 2, .var 3, .var 4]) (.tp [.nm 3, .nm 4]) [] [3, 4] [some d, some (eCl cl), some (eR (w.rule cl)), none, none]) (cl.map eClm) st = some (cl.map fun c => .bl (againstR (w.rule cl) c.1 c.2), st) := by
    refine comp_map fun c hcm => ?_
    rw [← W_eq]
    simp [eClm, is_against_ok L o hr (hc.2 c hcm).1 (hc.2 c hcm).2]
  have l1 := hw.len
  have l2 := hc.1
  have e1 : w.refused.length ≤ sizeLine := by rw [sizeLine_eq]; omega
  have e2 : cl.length ≤ sizeLine := by rw [sizeLine_eq]; omega
  have hrf := rule_for_ok L V o (n := n) hw hd hc
  have hb : w.bears cl = (!(w.refused.any fun c => letR (w.rule cl) c) && !(cl.any fun c => againstR (w.rule cl) c.1 c.2)) := rfl
  simp only [eCl] at hc1 hc2 hrf
  cases q : w.refused.any fun c => letR (w.rule cl) c with
  | true =>
    simp [fd_World_bears, w_scons, hd.m1, hd.f3, hrf, hc1, any_map, q, hb, e1, eCl]
  | false =>
    simp [fd_World_bears, w_scons, hd.m1, hd.f3, hrf, hc1, hc2, any_map, q, hb, e1, e2, eCl]
end
end MP
end
section
set_option Elab.async false
set_option linter.all false
set_option maxRecDepth 100000
set_option maxHeartbeats 4000000
/-! LPh: all_worlds, price_in and what stands on them. -/
namespace MP
open PySem
theorem ePr_low {n : Nat} (p : Option Nat) : (ePr p).low n = true := by cases p <;> rfl
theorem ePr_pl (p : Option Nat) : (ePr p).pl = true := by cases p <;> rfl
theorem ePr_dp (p : Option Nat) : (ePr p).dp = 0 := by cases p <;> rfl
theorem range_map (n : Nat) : rangeD 0 n = (List.range n).map fun i => .int ((i : Nat) : Int) := by
  unfold rangeD; simp
theorem pre_flat {α : Type} (g : Nat → List α) {rs : List Nat} {k N : Nat} {r : List D} (e : rs.map (fun i => D.int ((i : Nat) : Int)) ++ .int (k : Int) :: r = (List.range N).map fun i => D.int ((i : Nat) : Int)) : (rs.flatMap g).length + (g k).length ≤ ((List.range N).flatMap g).length := by
  have e2 : r = ((List.range N).drop (rs.length + 1)).map fun i => D.int ((i : Nat) : Int) := by
    have := congrArg (List.drop (rs.length + 1)) e
    rw [← List.map_drop] at this
    rw [← this, List.drop_append]
    simp
  rw [e2, ← List.map_cons (f := fun i => D.int ((i : Nat) : Int)), ← List.map_append] at e
  rw [← map_inj (fun a b e => by simp at e; omega) e, List.flatMap_append, List.flatMap_cons]
  simp
theorem All2.append {α β : Type} {R : α → β → Prop} {as cs : List α} {bs ds : List β} (h : All2 R as bs) (k : All2 R cs ds) : All2 R (as ++ cs) (bs ++ ds) := by
  induction h with
  | nil => exact k
  | cons h t ih => exact .cons h ih
section
variable {T : Tx} (L : La T) (V : LaW T) {n : Nat} {st : Sto} {fm : Fm} (o : FmOk fm)
include L V o
/-- one set of witnesses in all_worlds: what stands in the store grows -/
structure AW (st : Sto) (ws : List Wd) (st' : Sto) : Prop where
  ex : ∃ (rs : List Nat) (objs : List Ob), st' = st ++ .lst (rs.map .ref) :: objs ∧ All2 (fun w r => st.length < r ∧ st'[r]? = some w.ob) ws rs
omit L V o in
theorem AW.get {ws : List Wd} {st' : Sto} (h : AW st ws st') : ∃ rs : List Nat, st'[st.length]? = some (.lst (rs.map .ref)) ∧ rs.length = ws.length := by
  obtain ⟨rs, objs, rfl, h2⟩ := h.ex
  exact ⟨rs, by simp, h2.len.symm⟩
theorem make_ok {l : Log} {ns : List Str} (h : LogOk fm l) (hn : ∀ x ∈ ns, PyData.strOk x = true) : (clD T (n + 5)).make "World" [eL l, eN ns] st = some (.ref st.length, st ++ [(mkW l ns).ob]) := by
  rw [clD_make V.cl]
  unfold runMk
  rw [init_ok L V o h hn]
omit L V in
theorem wd_low {w : Wd} (h : WdOk fm w) (m : Nat) : ∀ d ∈ w.vals, d.low m = true := by
  intro d hd
  simp only [Wd.vals, List.mem_cons, List.not_mem_nil, or_false] at hd
  rcases hd with rfl | rfl | rfl
  · exact low_pl _ (strs_pl h.names)
  · exact low_pl _ (eR_pl o h.least)
  · rw [D.low, lows_iff]
    intro d hd
    obtain ⟨c, hc, rfl⟩ := List.mem_map.mp hd
    exact low_pl _ (eC_pl o (h.refused c hc))
omit L V o in
theorem mapM_low {st' : Sto} {m k : Nat} : ∀ {ds : List D}, (∀ d ∈ ds, d.low m = true) → ds.mapM (frz st' m (k + 1)) = some ds
  | [], _ => rfl
  | d :: ds, h => by
    rw [List.mapM_cons, frz_low (h d List.mem_cons_self), mapM_low fun x hx => h x (List.mem_cons_of_mem _ hx)]; rfl
omit L V in
theorem frz_wd {w : Wd} (h : WdOk fm w) {st' : Sto} {m r k : Nat} (hr : m ≤ r) (e : st'[r]? = some w.ob) : frz st' m (k + 2) (.ref r) = some w.d := by
  unfold frz
  simp only
  rw [if_neg (by omega), e]
  simp only [Wd.ob]
  rw [show (wdF.zip w.vals).map (·.2) = w.vals from rfl, mapM_low (wd_low o h m)]
  rfl
omit L V in
theorem frz_wds {st' : Sto} {m k : Nat} : ∀ {ws : List Wd} {rs : List Nat}, (∀ w ∈ ws, WdOk fm w) → All2 (fun w r => m < r ∧ st'[r]? = some w.ob) ws rs → (rs.map D.ref).mapM (frz st' m (k + 2)) = some (ws.map Wd.d)
  | [], _, _, .nil => rfl
  | w :: ws, _, hw, .cons h t => by
    rw [List.map_cons, List.mapM_cons, frz_wd o (hw w List.mem_cons_self) (by omega) h.2, frz_wds (fun x hx => hw x (List.mem_cons_of_mem _ hx)) t]
    rfl
theorem all_worlds_ok {l : Log} (h : LogOk fm l) : callD T (n + 6) "all_worlds" [eL l] st = some (.lst ((worlds l).map Wd.d), st) := by
  rw [callD_eq L.x_all_worlds, ← W_eq]
  refine run_gen rfl rfl ?_
  have hwl := wits_len h
  have hwo := wits_ok h
  have hbin : small62 (((wits l).length : Int) + 1) = true := small_of (by omega) (by omega)
  simp [fd_all_worlds, w_scons, witnesses_ok L o h, eN, src1 hbin]
  rw [range_map]
  -- the outer loop
  let good (rs : List Nat) : List Wd := ((rs.flatMap fun r => combs r (wits l)).map (mkW l)).filter fun w => w.bears []
  refine (for_inv (I := fun dn env st' => ∃ rs : List Nat, dn = rs.map (fun i => D.int ((i : Nat) : Int)) ∧ (∃ z1 z2 z3, env = [some (eL l), some (.tup ((wits l).map .str)), some (.ref st.length), z1, z2, z3]) ∧ AW st (good rs) st') (R := fun p => p.1 = .nx ∧ (∃ z1 z2 z3, p.2.1 = [some (eL l), some (.tup ((wits l).map .str)), some (.ref st.length), z1, z2, z3]) ∧ AW st (worlds l) p.2.2) (fun _ _ _ _ => same_nil) (fun dn x r env st' e ⟨rs, hdn, ⟨z1, z2, z3, henv⟩, hA⟩ => ?step) (fun env st' ⟨rs, hdn, ⟨z1, z2, z3, henv⟩, hA⟩ => ?fin) ⟨[], rfl, ⟨_, _, _, rfl⟩, ⟨[], [], by simp, .nil⟩⟩).mono fun p hp => ?post
  case step =>
    have hx : ∃ k : Nat, x = .int (k : Int) ∧ k ≤ (wits l).length := by
      have : x ∈ (List.range ((wits l).length + 1)).map fun i => D.int ((i : Nat) : Int) := by rw [← e]; simp
      obtain ⟨k, hk, rfl⟩ := List.mem_map.mp this
      exact ⟨k, rfl, by have := List.mem_range.mp hk; omega⟩
    obtain ⟨k, rfl, hk⟩ := hx
    subst henv
    have hsrc : srcD st' 5 [.tup ((wits l).map .str), .int (k : Int)] = some ((combs k (wits l)).map eN) := by
      show (match itemsOf st' (.tup ((wits l).map .str)) with | some xs => if 0 ≤ (k : Int) ∧ (k : Int) ≤ 64 ∧ xs.length ≤ 64 then some ((combosD (k : Int).toNat xs).map D.tup) else none | none => none) = _
      simp only [items_tup]
      rw [if_pos (by simp; omega), show (k : Int).toNat = k by omega, combos_map, List.map_map]
      rfl
    simp [hsrc, w_scons]
    -- the inner loop
    refine (for_inv (I := fun dn2 env2 st2 => ∃ cs : List (List Str), dn2 = cs.map eN ∧ (∃ z1 z2, env2 = [some (eL l), some (.tup ((wits l).map .str)), some (.ref st.length), some (.int (k : Int)), z1, z2]) ∧ AW st (good rs ++ ((cs.map (mkW l)).filter fun w => w.bears [])) st2) (R := fun p => p.1 = .nx ∧ (∃ z1 z2, p.2.1 = [some (eL l), some (.tup ((wits l).map .str)), some (.ref st.length), some (.int (k : Int)), z1, z2]) ∧ AW st (good (rs ++ [k])) p.2.2) (fun _ _ _ _ => same_nil) (fun dn2 y r2 env2 st2 e2 ⟨cs, hdn2, ⟨y1, y2, henv2⟩, hA2⟩ => ?step2) (fun env2 st2 ⟨cs, hdn2, ⟨y1, y2, henv2⟩, hA2⟩ => ?fin2) ⟨[], rfl, ⟨_, _, rfl⟩, by simpa using hA⟩).mono fun p hp => ?post2
    case step2 =>
      have hy : ∃ c, y = eN c ∧ c ∈ combs k (wits l) := by
        have : y ∈ (combs k (wits l)).map eN := by rw [← e2]; simp
        obtain ⟨c, hc, rfl⟩ := List.mem_map.mp this
        exact ⟨c, rfl, hc⟩
      obtain ⟨c, rfl, hcm⟩ := hy
      have hco := strs_sub hwo (combs_sub hcm).1
      subst henv2
      have hwk := mkW_ok o h hco
      have hI : IsW T (st2 ++ [(mkW l c).ob]) (mkW l c) (.ref st2.length) := isW_ref V (by simp)
      have hb := bears_ok L V o (n := n) hwk hI (nil_claims fm)
      simp only [eCl, List.map_nil] at hb
      obtain ⟨rs2, objs, hst, hall⟩ := hA2.ex
      have hlen : st.length < st2.length := by rw [hst]; simp
      have hg : (st2 ++ [(mkW l c).ob])[st.length]? = some (.lst (rs2.map .ref)) := by
        rw [List.getElem?_append_left hlen, hst]; simp
      have hok : mtOk .append (st2 ++ [(mkW l c).ob]) (.ref st.length) = true := by
        simp [mtOk, listOf, hg]
      have hrl : rs2.length < sizeLine := by
        rw [← hall.len, List.length_append, sizeLine_eq]
        have b1 : (good rs).length ≤ (rs.flatMap fun r => combs r (wits l)).length := by
          refine Nat.le_trans (List.length_filter_le _ _) ?_
          rw [List.length_map]; exact Nat.le_refl _
        have b2 : ((cs.map (mkW l)).filter fun w => w.bears []).length ≤ cs.length := by
          refine Nat.le_trans (List.length_filter_le _ _) ?_
          rw [List.length_map]; exact Nat.le_refl _
        have b3 : cs.length ≤ (combs k (wits l)).length := by
          have := congrArg List.length e2
          rw [hdn2] at this
          simp at this; omega
        have b4 : (rs.flatMap fun r => combs r (wits l)).length + (combs k (wits l)).length ≤ 2 ^ (wits l).length := by
          have b5 := pre_flat (fun r => combs r (wits l)) (by rw [hdn] at e; exact e)
          exact Nat.le_trans b5 (lots_len _ _)
        have b6 : 2 ^ (wits l).length ≤ 2 ^ 20 := Nat.pow_le_pow_right (by omega) hwl
        omega
      have happ : mtD .append (st2 ++ [(mkW l c).ob]) (.ref st.length) [.ref st2.length] = some (.non, (st2 ++ [(mkW l c).ob]).set st.length (.lst ((rs2 ++ [st2.length]).map .ref))) := by
        simp [mtD, hg, hrl]
      cases q : (mkW l c).bears [] with
      | false =>
        simp [w_scons, make_ok L V o h hco, hI.m2, hb, q]
        refine ⟨cs ++ [c], by simp [hdn2], ?_⟩
        rw [List.map_append, List.filter_append]
        simp [q]
        refine ⟨⟨rs2, objs ++ [(mkW l c).ob], by rw [hst]; simp, hall.mono fun w r _ _ hh => ⟨hh.1, ?_⟩⟩⟩
        rw [List.getElem?_append_left (List.getElem?_eq_some_iff.mp hh.2).1]; exact hh.2
      | true =>
        simp [w_scons, make_ok L V o h hco, hI.m2, hb, q, hok, happ]
        refine ⟨cs ++ [c], by simp [hdn2], ?_⟩
        rw [List.map_append, List.filter_append]
        simp [q]
        rw [← List.append_assoc]
        have hset : (st2 ++ [(mkW l c).ob]).set st.length (.lst (rs2.map .ref ++ [.ref st2.length])) = st ++ .lst ((rs2 ++ [st2.length]).map .ref) :: (objs ++ [(mkW l c).ob]) := by
          rw [hst]; simp
        refine ⟨rs2 ++ [st2.length], objs ++ [(mkW l c).ob], by rw [← hset], ?_⟩
        have old : ∀ (w : Wd) (r : Nat), st.length < r → st2[r]? = some w.ob → ((st2 ++ [(mkW l c).ob]).set st.length (.lst (rs2.map .ref ++ [.ref st2.length])))[r]? = some w.ob := fun w r hr hh => by
          rw [List.getElem?_set_ne (by omega), List.getElem?_append_left (List.getElem?_eq_some_iff.mp hh).1]; exact hh
        refine All2.append (hall.mono fun w r _ _ hh => ⟨hh.1, ?_⟩) (.cons ⟨hlen, ?_⟩ .nil)
        · simpa using old w r hh.1 hh.2
        · have : ((st2 ++ [(mkW l c).ob]).set st.length (.lst (rs2.map .ref ++ [.ref st2.length])))[st2.length]? = some (mkW l c).ob := by
            rw [List.getElem?_set_ne (by omega)]; simp
          simpa using this
    case fin2 =>
      subst henv2
      refine ⟨rfl, ⟨_, _, rfl⟩, ?_⟩
      have : (combs k (wits l)) = cs := map_inj (fun a b => eN_inj) hdn2
      rw [← this] at hA2
      simpa [good, List.flatMap_append] using hA2
    case post2 =>
      obtain ⟨fl, env1, st1⟩ := p
      obtain ⟨h1, ⟨z1, z2, h2⟩, h3⟩ := hp
      simp only at h1 h2 h3
      subst h1 h2
      simp
      exact ⟨rs ++ [k], by simp [hdn], h3⟩
  case fin =>
    subst henv
    refine ⟨rfl, ⟨_, _, _, rfl⟩, ?_⟩
    have : List.range ((wits l).length + 1) = rs := map_inj (fun a b e => by simp at e; omega) hdn
    rw [← this] at hA
    exact hA
  case post =>
    obtain ⟨fl, env1, st1⟩ := p
    obtain ⟨h1, ⟨z1, z2, z3, h2⟩, h3⟩ := hp
    simp only at h1 h2 h3
    subst h1 h2
    obtain ⟨rs, objs, hst, hall⟩ := h3.ex
    simp
    refine ⟨_, ?_, ?_, rfl, ?_⟩
    · unfold frz
      simp only
      rw [if_neg (by omega)]
      have : st1[st.length]? = some (.lst (rs.map .ref)) := by rw [hst]; simp
      rw [this]
      simp only
      rw [frz_wds o (worlds_ok o h) hall]
      rfl
    · rw [hst]; exact lowSt_app st _
    · rw [hst]; simp
end
end MP
end
section
set_option Elab.async false
set_option linter.all false
set_option maxRecDepth 100000
set_option maxHeartbeats 4000000
/-! LPi: prices, growth, needed records. -/
namespace MP
open PySem
def beyond (p : Option Nat) (k : Int) : Bool := match p with
  | none => true
  | some m => decide (k < (m : Int))
def growthL (l : Log) : List (Option Nat) := (List.range l.length).map fun i => priceL (l.take (i + 1)) []
def firstB (g : List (Option Nat)) (k : Int) : Option Nat := g.findIdx? fun p => beyond p k
def withoutR (l : Log) (ps : List Int) : Log := ((List.range l.length).zip l |>.filter fun p => !decide ((p.1 : Int) ∈ ps)).map Prod.snd
def neededL (l : Log) (cl : List Clm) : List Nat := (List.range l.length).filter fun i : Nat => !decide (priceL (withoutR l [(i : Int)]) cl = priceL l cl)
def eI (ns : List Int) : D := .tup (ns.map .int)
theorem withoutR_sub (l : Log) (ps : List Int) : (withoutR l ps).Sublist l := by
  unfold withoutR
  have h := (List.filter_sublist (p := fun p : Nat × Rec => !decide ((p.1 : Int) ∈ ps)) (l := (List.range l.length).zip l)).map Prod.snd
  rw [List.map_snd_zip (by simp)] at h
  exact h
theorem ePr_inj {a b : Option Nat} (h : ePr a = ePr b) : a = b := by
  cases a <;> cases b <;> simp [ePr] at h <;> simp; omega
theorem zipD_map2 {α : Type} (e : α → D) (xs : List α) : zipD (rangeD 0 xs.length) (xs.map e) = ((List.range xs.length).zip xs).map fun p => .tup [.int ((p.1 : Nat) : Int), e p.2] := by
  rw [range_map, zip_map]
theorem ne_ePr {st : Sto} (a b : Option Nat) : cmpD .ne st (ePr a) (ePr b) = some (!decide (a = b)) := by
  rw [ne_pl (ePr_pl a) (ePr_pl b) (by rw [ePr_dp]; omega) (by rw [ePr_dp]; omega)]
  congr 2
  rw [decide_eq_decide]; exact ⟨ePr_inj, fun e => by rw [e]⟩
theorem eq_ePr {st : Sto} (a b : Option Nat) : cmpD .eq st (ePr a) (ePr b) = some (decide (a = b)) := by
  rw [eq_pl (ePr_pl a) (ePr_pl b) (by rw [ePr_dp]; omega) (by rw [ePr_dp]; omega)]
  congr 1
  rw [decide_eq_decide]; exact ⟨ePr_inj, fun e => by rw [e]⟩
section
variable {T : Tx} (L : La T) (V : LaW T) {n : Nat} {st : Sto} {fm : Fm} (o : FmOk fm)
include L V o
theorem price_in_ok {ws : List Wd} {cl : List Clm} (hw : ∀ w ∈ ws, WdOk fm w) (hc : ClsOk fm cl) : callD T (n + 6) "price_in" [.lst (ws.map Wd.d), eCl cl] st = some (ePr (priceW ws cl), st) := by
  rw [callD_eq L.x_price_in]
  refine run_ret rfl (ePr_low _) rfl ?_
  simp [fd_price_in, w_scons]
  have h0 : ∀ (vs : List Wd) (z : Option D), (∀ w ∈ vs, WdOk fm w) → W (forD [] st (forB (clD T (n + 5)) (.nm 2) [.ite (.meth "World" "bears" "World.bears" (.var 2) [.var 1]) [.ret (.bf .len [.fld (.var 2) "names"])] []]) (vs.map Wd.d) [some (.lst (ws.map Wd.d)), some (eCl cl), z] st)
      fun p => match priceW vs cl with
        | none => p.1 = .nx ∧ p.2.2 = st
        | some k => p.1 = .ret (.int (k : Int)) ∧ p.2.2 = st := by
    intro vs
    induction vs with
    | nil => intro z _; simp [forD, priceW]
    | cons w vs ih =>
      intro z hv
      have hI := isW_ins V st w
      have hb := bears_ok L V o (n := n) (hv w List.mem_cons_self) hI hc
      rw [List.map_cons, forD, if_pos same_nil]
      cases q : w.bears cl with
      | true =>
        have : forB (clD T (n + 5)) (.nm 2) [.ite (.meth "World" "bears" "World.bears" (.var 2) [.var 1]) [.ret (.bf .len [.fld (.var 2) "names"])] []] w.d [some (.lst (ws.map Wd.d)), some (eCl cl), z] st = some (.ret (.int (w.names.length : Int)), [some (.lst (ws.map Wd.d)), some (eCl cl), some w.d], st) := by
          rw [← W_eq]
          simp [w_scons, hb, q, hI.m2, hI.f1, eN]
        rw [this]
        simp [priceW, q]
      | false =>
        have : forB (clD T (n + 5)) (.nm 2) [.ite (.meth "World" "bears" "World.bears" (.var 2) [.var 1]) [.ret (.bf .len [.fld (.var 2) "names"])] []] w.d [some (.lst (ws.map Wd.d)), some (eCl cl), z] st = some (.nx, [some (.lst (ws.map Wd.d)), some (eCl cl), some w.d], st) := by
          rw [← W_eq]
          simp [w_scons, hb, q, hI.m2]
        rw [this]
        have e : priceW (w :: vs) cl = priceW vs cl := by simp [priceW, q]
        rw [e]
        exact ih (some w.d) fun x hx => hv x (List.mem_cons_of_mem _ hx)
  refine (h0 ws none hw).mono fun p hp => ?_
  obtain ⟨fl, env, st'⟩ := p
  cases q : priceW ws cl with
  | none =>
    rw [q] at hp
    obtain ⟨h1, h2⟩ := hp
    simp only at h1 h2
    subst h1 h2
    simp [ePr]
  | some k =>
    rw [q] at hp
    obtain ⟨h1, h2⟩ := hp
    simp only at h1 h2
    subst h1 h2
    simp [ePr]
theorem fewest_errs_ok {l : Log} (h : LogOk fm l) : callD T (n + 7) "fewest_errs" [eL l] st = some (ePr (priceL l []), st) := by
  rw [callD_eq L.x_fewest_errs]
  refine run_ret rfl (ePr_low _) rfl ?_
  have h2 := price_in_ok L V o (n := n) (st := st) (worlds_ok o h) (nil_claims fm)
  simp only [eCl, List.map_nil] at h2
  simp [fd_fewest_errs, w_scons, all_worlds_ok L V o h, h2, priceL]
theorem price_ok {l : Log} {cl : List Clm} (h : LogOk fm l) (hc : ClsOk fm cl) : callD T (n + 7) "price" [eL l, eCl cl] st = some (ePr (priceL l cl), st) := by
  rw [callD_eq L.x_price]
  refine run_ret rfl (ePr_low _) rfl ?_
  simp [fd_price, w_scons, all_worlds_ok L V o h, price_in_ok L V o (worlds_ok o h) hc, priceL]
omit V o in
theorem is_beyond_ok {p : Option Nat} {k : Int} : callD T (n + 1) "is_beyond" [ePr p, .int k] st = some (.bl (beyond p k), st) := by
  rw [callD_eq L.x_is_beyond]
  refine run_ret rfl rfl rfl ?_
  cases p <;> simp [fd_is_beyond, w_scons, ePr, beyond]
omit L V in
theorem growth_len (l : Log) : (growthL l).length = l.length := by simp [growthL]
theorem growth_ok {l : Log} (h : LogOk fm l) : callD T (n + 8) "growth" [eL l] st = some (.tup ((growthL l).map ePr), st) := by
  rw [callD_eq L.x_growth]
  refine run_ret rfl ?_ rfl ?_
  · rw [D.low, lows_iff]
    intro d hd
    obtain ⟨c, hc, rfl⟩ := List.mem_map.mp hd
    exact ePr_low _
  have hl := h.1
  have hs : small62 (l.length : Int) = true := small_of (by omega) (by omega)
  have hcomp : compD [] st (compB (clD T (n + 7)) (.call "fewest_errs" [.sl (.var 0) none (some (.bin .add (.var 1) (.lit (.int 1))))]) (.nm 1) [] [1] [some (eL l), none]) (rangeD 0 l.length) st = some ((List.range l.length).map fun i => ePr (priceL (l.take (i + 1)) []), st) := by
    rw [range_map]
    refine comp_map fun i hi => ?_
    rw [← W_eq]
    have hi := List.mem_range.mp hi
    have hsl : slD st (eL l) none (some ((i : Int) + 1)) = some (eL (l.take (i + 1))) := by
      rw [eL, sl_tup, cut_to (by omega), eL, List.map_take]
      rfl
    simp [hsl, fewest_errs_ok L V o (h.sub (List.take_sublist _ _))]
  have hb : l.length ≤ sizeLine := by rw [sizeLine_eq]; omega
  simp only [eL] at hcomp ⊢
  simp [fd_growth, w_scons, hcomp, src1 hs, hb, growthL]
theorem first_broken_ok {l : Log} {k : Int} (h : LogOk fm l) : callD T (n + 9) "first_broken" [eL l, .int k] st = some (ePr (firstB (growthL l) k), st) := by
  rw [callD_eq L.x_first_broken]
  refine run_ret rfl (ePr_low _) rfl ?_
  simp [fd_first_broken, w_scons, growth_ok L V o h]
  have hz := zipD_map2 ePr (growthL l)
  rw [hz]
  have h0 : ∀ (gs : List (Option Nat)) (j : Nat) (z1 z2 : Option D), W (forD [] st (forB (clD T (n + 8)) (.tp [.nm 2, .nm 3]) [.ite (.call "is_beyond" [.var 3, .var 1]) [.ret (.var 2)] []]) (((List.range' j gs.length).zip gs).map fun p => .tup [.int ((p.1 : Nat) : Int), ePr p.2]) [some (eL l), some (.int k), z1, z2] st)
      fun p => match firstB gs k with
        | none => p.1 = .nx ∧ p.2.2 = st
        | some i => p.1 = .ret (.int ((j + i : Nat) : Int)) ∧ p.2.2 = st := by
    intro gs
    induction gs with
    | nil => intro j z1 z2; simp [forD, firstB]
    | cons g gs ih =>
      intro j z1 z2
      rw [List.length_cons, List.range'_succ, List.zip_cons_cons, List.map_cons, forD, if_pos same_nil]
      cases q : beyond g k with
      | true =>
        have : forB (clD T (n + 8)) (.tp [.nm 2, .nm 3]) [.ite (.call "is_beyond" [.var 3, .var 1]) [.ret (.var 2)] []] (.tup [.int (j : Int), ePr g]) [some (eL l), some (.int k), z1, z2] st = some (.ret (.int (j : Int)), [some (eL l), some (.int k), some (.int (j : Int)), some (ePr g)], st) := by
          rw [← W_eq]
          simp [w_scons, is_beyond_ok L, q]
        rw [this]
        simp [firstB, List.findIdx?_cons, q]
      | false =>
        have : forB (clD T (n + 8)) (.tp [.nm 2, .nm 3]) [.ite (.call "is_beyond" [.var 3, .var 1]) [.ret (.var 2)] []] (.tup [.int (j : Int), ePr g]) [some (eL l), some (.int k), z1, z2] st = some (.nx, [some (eL l), some (.int k), some (.int (j : Int)), some (ePr g)], st) := by
          rw [← W_eq]
          simp [w_scons, is_beyond_ok L, q]
        rw [this]
        refine (ih (j + 1) _ _).mono fun p hp => ?_
        have e : firstB (g :: gs) k = (firstB gs k).map (· + 1) := by simp [firstB, List.findIdx?_cons, q]
        rw [e]
        cases q2 : firstB gs k with
        | none => rw [q2] at hp; exact hp
        | some i => rw [q2] at hp; simp only [Option.map_some] at *; rw [show j + (i + 1) = j + 1 + i by omega]; exact hp
  have h1 := h0 (growthL l) 0 none none
  rw [← List.range_eq_range'] at h1
  refine h1.mono fun p hp => ?_
  obtain ⟨fl, env, st'⟩ := p
  cases q : firstB (growthL l) k with
  | none =>
    rw [q] at hp
    obtain ⟨h1, h2⟩ := hp
    simp only at h1 h2
    subst h1 h2
    simp [ePr]
  | some i =>
    rw [q] at hp
    obtain ⟨h1, h2⟩ := hp
    simp only at h1 h2
    subst h1 h2
    simp [ePr]
theorem without_records_ok {l : Log} {ps : List Int} (h : LogOk fm l) : callD T (n + 1) "without_records" [eL l, eI ps] st = some (eL (withoutR l ps), st) := by
  rw [callD_eq L.x_without_records]
  refine run_ret rfl (low_pl _ (eL_pl o (h.sub (withoutR_sub l ps)))) rfl ?_
  have hcomp : compD [] st (compB (clD T n) (.var 3) (.tp [.nm 2, .nm 3]) [.cmp .notin (.var 2) (.var 1)] [2, 3] [some (eL l), some (eI ps), none, none]) (zipD (rangeD 0 l.length) (l.map Rec.d)) st = some ((((List.range l.length).zip l).filter fun p => !decide ((p.1 : Int) ∈ ps)).map fun p => p.2.d, st) := by
    rw [zipD_map2]
    refine comp_filter fun p hp => ?_
    rw [← W_eq]
    have hm : memD (.int (p.1 : Int)) (ps.map .int) = some (decide ((p.1 : Int) ∈ ps)) := by
      have h1 : D.pls (ps.map .int) = true := by
        rw [pls_iff]; intro d hd; obtain ⟨x, _, rfl⟩ := List.mem_map.mp hd; rfl
      have h2 : D.dps (ps.map .int) ≤ 63 := by
        rw [dps_le]; intro d hd; obtain ⟨x, _, rfl⟩ := List.mem_map.mp hd; simp [D.dp]
      rw [memD_pl (x := .int (p.1 : Int)) rfl h1 (by simp [D.dp]) h2]
      simp [mem_map_inj (f := D.int) (fun a b e => by simpa using e)]
    simp [eI, hm]
  have hb : l.length ≤ sizeLine := by have := h.1; rw [sizeLine_eq]; omega
  have hz : (zipD (rangeD 0 l.length) (l.map Rec.d)).length ≤ sizeLine := by rw [zipD_map2]; simpa using hb
  simp only [eL] at hcomp ⊢
  simp [fd_without_records, w_scons, hcomp, hz, withoutR]
theorem needed_records_ok {l : Log} {cl : List Clm} (h : LogOk fm l) (hc : ClsOk fm cl) : callD T (n + 8) "needed_records" [eL l, eCl cl] st = some (.tup ((neededL l cl).map fun i => .int ((i : Nat) : Int)), st) := by
  rw [callD_eq L.x_needed_records]
  refine run_ret rfl ?_ rfl ?_
  · rw [D.low, lows_iff]
    intro d hd
    obtain ⟨c, hc, rfl⟩ := List.mem_map.mp hd
    rfl
  have hl := h.1
  have hs : small62 (l.length : Int) = true := small_of (by omega) (by omega)
  have hb : l.length ≤ sizeLine := by rw [sizeLine_eq]; omega
  have hcomp : compD [] st (compB (clD T (n + 7)) (.var 3) (.nm 3) [.cmp .ne (.call "price" [.call "without_records" [.var 0, .tup [.var 3]], .var 1]) (.var 2)] [3] [some (eL l), some (eCl cl), some (ePr (priceL l cl)), none]) (rangeD 0 l.length) st = some (((List.range l.length).filter fun i : Nat => !decide (priceL (withoutR l [(i : Int)]) cl = priceL l cl)).map fun i => .int ((i : Nat) : Int), st) := by
    rw [range_map]
    refine comp_filter fun i hi => ?_
    rw [← W_eq]
    have h1 := without_records_ok L V o (n := n + 6) (st := st) (ps := [(i : Int)]) h
    simp only [eI, List.map_cons, List.map_nil] at h1
    have h2 := h.sub (withoutR_sub l [(i : Int)])
    simp [h1, price_ok L V o h2 hc, ne_ePr]
  simp only [eL] at hcomp ⊢
  have h4 := price_ok L V o (n := n) (st := st) h hc
  simp only [eL] at h4
  simp [fd_needed_records, w_scons, h4, hcomp, src1 hs, hb, neededL]
end
end MP
end
section
set_option Elab.async false
set_option linter.all false
set_option maxRecDepth 100000
set_option maxHeartbeats 4000000
/-! LPj: the price is the least number of errors of all rules. -/
namespace MP
open PySem
/-! ### within -/
def subC : Cn → Cn → Prop
  | .r a b, .r c d => c ≤ a ∧ b ≤ d
  | .n xs, .n ys => ∀ x ∈ xs, x ∈ ys
  | _, _ => False
def subR : Rl → Rl → Prop
  | none, _ => True
  | some _, none => False
  | some a, some b => All2 subC a b
theorem subC_let {a k : Cn} {v : Vl} (h : subC a k) (l : letV a v = true) : letV k v = true := by
  cases a <;> cases k <;> cases v <;> simp [subC, letV] at * <;> first | (exact h _ l) | omega
theorem subL_let : ∀ {a k : List Cn} {c : Cs}, All2 subC a k → letL a c = true → letL k c = true
  | _, _, [], .nil, _ => by simp [letL]
  | _, _, _ :: _, .nil, _ => by simp [letL]
  | _, _, [], .cons _ _, _ => by simp [letL]
  | _, _, v :: c, .cons h t, l => by
    simp only [letL, Bool.and_eq_true] at *
    exact ⟨subC_let h l.1, subL_let t l.2⟩
theorem subR_let {a r : Rl} {c : Cs} (h : subR a r) (l : letR a c = true) : letR r c = true := by
  cases a with
  | none => simp [letR] at l
  | some a =>
    cases r with
    | none => exact h.elim
    | some r => exact subL_let h l
theorem join_sub {sp a b k : Cn} (ha : cin sp a) (hb : cin sp b) (h1 : subC a k) (h2 : subC b k) : subC (a.join b) k := by
  cases sp <;> cases a <;> cases b <;> cases k <;> simp only [cin, subC, Cn.join] at *
  · split <;> split <;> omega
  · intro x hx
    rcases List.mem_append.mp (mem_srt.mp hx) with z | z
    · exact h1 x z
    · exact h2 x z
theorem joinL_sub : ∀ {fm : Fm} {a b k : List Cn}, LOf fm a → LOf fm b → All2 subC a k → All2 subC b k → All2 subC (joinL a b) k
  | _, _, _, _, .nil, .nil, .nil, .nil => .nil
  | _, _, _, _, .cons h t, .cons h2 t2, .cons h3 t3, .cons h4 t4 => .cons (join_sub h h2 h3 h4) (joinL_sub t t2 t3 t4)
theorem joinR_sub {fm : Fm} {a b r : Rl} (ha : ROf fm a) (hb : ROf fm b) (h1 : subR a r) (h2 : subR b r) : subR (joinR a b) r := by
  cases a with
  | none => exact h2
  | some a =>
    cases b with
    | none => exact h1
    | some b =>
      cases r with
      | none => exact h1.elim
      | some r => exact joinL_sub ha hb h1 h2
theorem one_sub {k : Cn} {v : Vl} (h : letV k v = true) : subC (Cn.one v) k := by
  cases k <;> cases v <;> simp [subC, letV, Cn.one] at * <;> first | exact h | exact ⟨h.1, h.2⟩
theorem caseL_sub : ∀ {fm : Fm} {r : List Cn} {c : Cs}, LOf fm r → COf fm c → letL r c = true → All2 subC (c.map Cn.one) r
  | _, _, _, .nil, .nil, _ => .nil
  | _, _, _, .cons _ t, .cons _ u, h => by
    simp only [letL, Bool.and_eq_true] at h
    exact .cons (one_sub h.1) (caseL_sub t u h.2)
theorem case_sub {fm : Fm} {r : Rl} {c : Cs} (hr : ROf fm r) (hc : COf fm c) (h : letR r c = true) : subR (caseR c) r := by
  cases r with
  | none => simp [letR] at h
  | some r => exact caseL_sub hr hc h
theorem from_sub {fm : Fm} (o : FmOk fm) {r : Rl} (hr : ROf fm r) : ∀ {cs : List Cs} {a : Rl}, ROf fm a → (∀ c ∈ cs, COf fm c ∧ letR r c = true) → subR a r → subR (hullFrom a cs) r
  | [], _, _, _, h => h
  | c :: cs, a, ha, hc, h => by
    have hcc := hc c List.mem_cons_self
    exact from_sub o hr (cs := cs) (a := joinR a (caseR c)) (ROf_join o ha (ROf_case hcc.1)) (fun d hd => hc d (List.mem_cons_of_mem _ hd)) (joinR_sub ha (ROf_case hcc.1) h (case_sub hr hcc.1 hcc.2))
theorem hull_sub {fm : Fm} (o : FmOk fm) {r : Rl} (hr : ROf fm r) {cs : List Cs} (hc : ∀ c ∈ cs, COf fm c ∧ letR r c = true) : subR (hullR cs) r := from_sub o hr (a := none) trivial hc trivial
/-! a join lets what one lets -/
theorem subC_refl (a : Cn) : subC a a := by
  cases a
  · exact ⟨Int.le_refl _, Int.le_refl _⟩
  · exact fun _ h => h
theorem sub_join1 {sp a b : Cn} (ha : cin sp a) (hb : cin sp b) : subC a (a.join b) := by
  cases sp <;> cases a <;> cases b <;> simp only [cin, subC, Cn.join] at *
  · split <;> split <;> omega
  · intro x hx; exact mem_srt.mpr (List.mem_append.mpr (.inl hx))
theorem sub_join2 {sp a b : Cn} (ha : cin sp a) (hb : cin sp b) : subC b (a.join b) := by
  cases sp <;> cases a <;> cases b <;> simp only [cin, subC, Cn.join] at *
  · split <;> split <;> omega
  · intro x hx; exact mem_srt.mpr (List.mem_append.mpr (.inr hx))
theorem subL_join1 : ∀ {fm : Fm} {a b : List Cn}, LOf fm a → LOf fm b → All2 subC a (joinL a b)
  | _, _, _, .nil, .nil => .nil
  | _, _, _, .cons h t, .cons h2 t2 => .cons (sub_join1 h h2) (subL_join1 t t2)
theorem subL_join2 : ∀ {fm : Fm} {a b : List Cn}, LOf fm a → LOf fm b → All2 subC b (joinL a b)
  | _, _, _, .nil, .nil => .nil
  | _, _, _, .cons h t, .cons h2 t2 => .cons (sub_join2 h h2) (subL_join2 t t2)
theorem subL_refl : ∀ a : List Cn, All2 subC a a
  | [] => .nil
  | a :: as => .cons (subC_refl a) (subL_refl as)
theorem subR_join1 {fm : Fm} {a b : Rl} (ha : ROf fm a) (hb : ROf fm b) : subR a (joinR a b) := by
  cases a with
  | none => trivial
  | some a =>
    cases b with
    | none => exact subL_refl a
    | some b => exact subL_join1 ha hb
theorem subR_join2 {fm : Fm} {a b : Rl} (ha : ROf fm a) (hb : ROf fm b) : subR b (joinR a b) := by
  cases a with
  | none => cases b with
    | none => trivial
    | some b => exact subL_refl b
  | some a =>
    cases b with
    | none => trivial
    | some b => exact subL_join2 ha hb
theorem case_let {c : Cs} : letR (caseR c) c = true := by
  show letL (c.map Cn.one) c = true
  induction c with
  | nil => rfl
  | cons v c ih => rw [List.map_cons, letL, ih]; cases v <;> simp [Cn.one, letV]
theorem from_let {fm : Fm} (o : FmOk fm) : ∀ {cs : List Cs} {a : Rl}, ROf fm a → (∀ c ∈ cs, COf fm c) → (∀ x, letR a x = true → letR (hullFrom a cs) x = true) ∧ ∀ c ∈ cs, letR (hullFrom a cs) c = true
  | [], _, _, _ => ⟨fun _ h => h, fun _ h => by simp at h⟩
  | c :: cs, a, ha, hc => by
    have hcc := hc c List.mem_cons_self
    obtain ⟨h1, h2⟩ := from_let o (cs := cs) (a := joinR a (caseR c)) (ROf_join o ha (ROf_case hcc)) (fun d hd => hc d (List.mem_cons_of_mem _ hd))
    refine ⟨fun x h => h1 x (subR_let (subR_join1 ha (ROf_case hcc)) h), fun d hd => ?_⟩
    rcases List.mem_cons.mp hd with e | e
    · subst e; exact h1 d (subR_let (subR_join2 ha (ROf_case hcc)) case_let)
    · exact h2 d e
theorem hull_let {fm : Fm} (o : FmOk fm) {cs : List Cs} (hc : ∀ c ∈ cs, COf fm c) : ∀ c ∈ cs, letR (hullR cs) c = true := (from_let o (a := none) trivial hc).2
/-! ### errors of a rule -/
def againstRec (r : Rl) (x : Rec) : Bool := againstR r x.case x.word
def errsL (l : Log) (r : Rl) : List Str := ddp ((l.filter fun x => againstRec r x && !decide (x.who = ("sure" : Str))).map Rec.who)
def possL (l : Log) (r : Rl) : Prop := ∀ x ∈ l, x.who = ("sure" : Str) → againstRec r x = false
def fitsL (r : Rl) (cl : List Clm) : Prop := ∀ c ∈ cl, againstR r c.1 c.2 = false
def LogW (l : Log) : Prop := ∀ x ∈ l, x.word = ("let" : Str) ∨ x.word = ("refused" : Str)
theorem mem_errs {l : Log} {r : Rl} {z : Str} : z ∈ errsL l r ↔ z ≠ ("sure" : Str) ∧ ∃ x ∈ l, x.who = z ∧ againstRec r x = true := by
  unfold errsL
  rw [mem_ddp, List.mem_map]
  constructor
  · rintro ⟨x, hx, rfl⟩
    rw [List.mem_filter, Bool.and_eq_true] at hx
    exact ⟨by simpa using hx.2.2, x, hx.1, rfl, hx.2.1⟩
  · rintro ⟨h1, x, hx, rfl, h2⟩
    exact ⟨x, by rw [List.mem_filter, Bool.and_eq_true]; exact ⟨hx, h2, by simpa using h1⟩, rfl⟩
theorem mem_wits {l : Log} {z : Str} : z ∈ wits l ↔ z ≠ ("sure" : Str) ∧ ∃ x ∈ l, x.who = z := by
  unfold wits
  rw [mem_srt, List.mem_map]
  constructor
  · rintro ⟨x, hx, rfl⟩
    rw [List.mem_filter] at hx
    exact ⟨by simpa using hx.2, x, hx.1, rfl⟩
  · rintro ⟨h1, x, hx, rfl⟩
    exact ⟨x, by rw [List.mem_filter]; exact ⟨hx, by simpa using h1⟩, rfl⟩
theorem mem_without {l : Log} {ns : List Str} {x : Rec} : x ∈ withoutW l ns ↔ x ∈ l ∧ x.who ∉ ns := by
  unfold withoutW; rw [List.mem_filter]; simp
theorem mem_told {l : Log} {w : Str} {c : Cs} : c ∈ toldC l w ↔ ∃ x ∈ l, x.word = w ∧ x.case = c := by
  unfold toldC
  rw [mem_srt, List.mem_map]
  constructor
  · rintro ⟨x, hx, rfl⟩
    rw [List.mem_filter] at hx
    exact ⟨x, hx.1, by simpa using hx.2, rfl⟩
  · rintro ⟨x, hx, h1, h2⟩
    exact ⟨x, by rw [List.mem_filter]; exact ⟨hx, by simpa using h1⟩, h2⟩
theorem mem_claimed {l : List Clm} {w : Str} {c : Cs} : c ∈ claimedC l w ↔ (c, w) ∈ l := by
  unfold claimedC
  rw [List.mem_map]
  constructor
  · rintro ⟨x, hx, rfl⟩
    rw [List.mem_filter] at hx
    have : x.2 = w := by simpa using hx.2
    rw [← this]; exact hx.1
  · intro h
    exact ⟨(c, w), by rw [List.mem_filter]; exact ⟨h, by simp⟩, rfl⟩
theorem let_ne_refused : ("let" : Str) ≠ ("refused" : Str) := by decide +kernel
section
variable {fm : Fm} (o : FmOk fm)
include o
/-- what is left with a rule's errors left out is borne -/
theorem bears_of {l : Log} {cl : List Clm} {ns : List Str} {r : Rl} (h : LogOk fm l) (hw : LogW l) (hc : ClsOk fm cl) (hr : ROf fm r) (hp : possL l r) (hf : fitsL r cl) (hn : ∀ z ∈ errsL l r, z ∈ ns) : (mkW l ns).bears cl = true := by
  have hwo := withoutW_ok h ns
  have ok : ∀ x ∈ withoutW l ns, againstRec r x = false := by
    intro x hx
    obtain ⟨h1, h2⟩ := mem_without.mp hx
    cases q : againstRec r x with
    | false => rfl
    | true =>
      by_cases e : x.who = ("sure" : Str)
      · rw [hp x h1 e] at q; cases q
      · exact absurd (hn x.who (mem_errs.mpr ⟨e, x, h1, rfl, q⟩)) h2
  have lets : ∀ c ∈ toldC (withoutW l ns) ("let" : Str), COf fm c ∧ letR r c = true := by
    intro c hcm
    refine ⟨toldC_of hwo c hcm, ?_⟩
    obtain ⟨x, hx, h1, rfl⟩ := mem_told.mp hcm
    have := ok x hx
    simpa [againstRec, againstR, h1] using this
  have clets : ∀ c ∈ claimedC cl ("let" : Str), COf fm c ∧ letR r c = true := by
    intro c hcm
    refine ⟨claimedC_of hc c hcm, ?_⟩
    have := hf _ (mem_claimed.mp hcm)
    simpa [againstR] using this
  have hsub : subR ((mkW l ns).rule cl) r := joinR_sub (ROf_hull o fun c hc => (lets c hc).1) (ROf_hull o fun c hc => (clets c hc).1) (hull_sub o hr lets) (hull_sub o hr clets)
  unfold Wd.bears
  rw [Bool.and_eq_true, Bool.not_eq_true', Bool.not_eq_true', List.any_eq_false, List.any_eq_false]
  refine ⟨fun c hcm hl => ?_, fun c hcm hl => ?_⟩
  · obtain ⟨x, hx, h1, rfl⟩ := mem_told.mp hcm
    have h2 := ok x hx
    have h3 := subR_let hsub hl
    simp [againstRec, againstR, h1, h3, Ne.symm let_ne_refused] at h2
  · have h2 := hf c hcm
    by_cases e : c.2 = ("let" : Str)
    · have hm : c.1 ∈ claimedC cl ("let" : Str) := mem_claimed.mpr (by rw [← e]; exact hcm)
      have h3 : letR ((mkW l ns).rule cl) c.1 = true := subR_let (subR_join2 (ROf_hull o fun c hc => (lets c hc).1) (ROf_hull o fun c hc => (clets c hc).1)) (hull_let o (claimedC_of hc) _ hm)
      simp [againstR, e, h3] at hl
    · simp [againstR, e] at hl h2
      rw [subR_let hsub hl] at h2
      cases h2
/-- what is borne has a rule with no more errors -/
theorem rule_of {l : Log} {cl : List Clm} {ns : List Str} (h : LogOk fm l) (hw : LogW l) (hc : ClsOk fm cl) (hn : ∀ z ∈ ns, z ≠ ("sure" : Str)) (hs : ∀ z ∈ ns, PyData.strOk z = true) (hb : (mkW l ns).bears cl = true) :
    ROf fm ((mkW l ns).rule cl) ∧ possL l ((mkW l ns).rule cl) ∧ fitsL ((mkW l ns).rule cl) cl ∧ ∀ z ∈ errsL l ((mkW l ns).rule cl), z ∈ ns := by
  have hwo := withoutW_ok h ns
  have hro := Wd.rule_of o (mkW_ok o h hs) hc
  unfold Wd.bears at hb
  rw [Bool.and_eq_true, Bool.not_eq_true', Bool.not_eq_true', List.any_eq_false, List.any_eq_false] at hb
  have ok : ∀ x ∈ l, x.who ∉ ns → againstRec ((mkW l ns).rule cl) x = false := by
    intro x hx hnm
    have hm := mem_without.mpr ⟨hx, hnm⟩
    rcases hw x hx with e | e
    · have h3 : letR ((mkW l ns).rule cl) x.case = true := subR_let (subR_join1 (ROf_hull o (toldC_of hwo)) (ROf_hull o (claimedC_of hc))) (hull_let o (toldC_of hwo) _ (mem_told.mpr ⟨x, hm, e, rfl⟩))
      simp [againstRec, againstR, e, h3]
    · have h3 := hb.1 x.case (mem_told.mpr ⟨x, hm, e, rfl⟩)
      have h4 : letR ((mkW l ns).rule cl) x.case = false := by simpa using h3
      simp [againstRec, againstR, e, h4, Ne.symm let_ne_refused]
  refine ⟨hro, fun x hx e => ok x hx fun z => hn _ z e, fun c hcm => by simpa using hb.2 c hcm, fun z hz => ?_⟩
  obtain ⟨_, x, hx, rfl, h2⟩ := mem_errs.mp hz
  by_cases hnm : x.who ∈ ns
  · exact hnm
  · rw [ok x hx hnm] at h2; cases h2
end
/-! ### the least -/
def IsMin (P : Nat → Prop) : Option Nat → Prop
  | none => ∀ k, ¬P k
  | some k => P k ∧ ∀ j, P j → k ≤ j
theorem IsMin.uniq {P : Nat → Prop} {a b : Option Nat} (ha : IsMin P a) (hb : IsMin P b) : a = b := by
  cases a with
  | none => cases b with
    | none => rfl
    | some k => exact absurd hb.1 (ha k)
  | some j => cases b with
    | none => exact absurd ha.1 (hb j)
    | some k => rw [Nat.le_antisymm (ha.2 k hb.1) (hb.2 j ha.1)]
theorem IsMin.congr {P Q : Nat → Prop} {a : Option Nat} (h : ∀ k, P k ↔ Q k) (ha : IsMin P a) : IsMin Q a := by
  cases a with
  | none => exact fun k hq => ha k ((h k).mpr hq)
  | some j => exact ⟨(h j).mp ha.1, fun k hk => ha.2 k ((h k).mpr hk)⟩
theorem find_first {α : Type} {f : α → Nat} {p : α → Bool} : ∀ {xs : List α}, xs.Pairwise (fun a b => f a ≤ f b) → ∀ {x : α}, x ∈ xs → p x = true → ∃ y, xs.find? p = some y ∧ f y ≤ f x
  | [], _, x, hx, _ => by simp at hx
  | y :: ys, hp, x, hx, px => by
    rw [List.pairwise_cons] at hp
    cases q : p y with
    | true =>
      refine ⟨y, by rw [List.find?_cons, q], ?_⟩
      rcases List.mem_cons.mp hx with e | e
      · rw [e]; exact Nat.le_refl _
      · exact hp.1 x e
    | false =>
      rcases List.mem_cons.mp hx with e | e
      · rw [e, q] at px; cases px
      · obtain ⟨z, h1, h2⟩ := find_first hp.2 e px
        exact ⟨z, by rw [List.find?_cons, q]; exact h1, h2⟩
theorem lots_sorted (ns : List Str) : (lots ns).Pairwise fun a b => a.length ≤ b.length := by
  unfold lots
  rw [List.pairwise_flatMap]
  refine ⟨fun r _ => ?_, ?_⟩
  · refine List.Pairwise.imp_of_mem (R := fun _ _ => True) (fun ha hb _ => ?_) (List.pairwise_of_forall fun _ _ => trivial)
    rw [(combs_sub ha).2, (combs_sub hb).2]; exact Nat.le_refl _
  · refine List.Pairwise.imp (R := fun a b => a < b) (fun {a b} hab x hx y hy => ?_) (List.pairwise_lt_range)
    rw [(combs_sub hx).2, (combs_sub hy).2]; omega
theorem worlds_sorted (l : Log) : (worlds l).Pairwise fun a b => a.names.length ≤ b.names.length := by
  unfold worlds
  refine List.Pairwise.filter _ ?_
  rw [List.pairwise_map]
  exact lots_sorted (wits l)
theorem mem_lots {ns c : List Str} (h : c.Sublist ns) : c ∈ lots ns := by
  unfold lots
  rw [List.mem_flatMap]
  exact ⟨c.length, List.mem_range.mpr (by have := h.length_le; omega), sub_combs h⟩
section
variable {fm : Fm} (o : FmOk fm)
include o
/-- a rule bounds the price -/
theorem price_le {l : Log} {cl : List Clm} {r : Rl} (h : LogOk fm l) (hw : LogW l) (hc : ClsOk fm cl) (hr : ROf fm r) (hp : possL l r) (hf : fitsL r cl) : ∃ k, priceL l cl = some k ∧ k ≤ (errsL l r).length := by
  let c := (wits l).filter fun z => decide (z ∈ errsL l r)
  have hsub : c.Sublist (wits l) := List.filter_sublist
  have hin : ∀ z ∈ errsL l r, z ∈ c := fun z hz => by
    refine List.mem_filter.mpr ⟨?_, by simpa using hz⟩
    obtain ⟨h1, x, hx, h2, _⟩ := mem_errs.mp hz
    exact mem_wits.mpr ⟨h1, x, hx, h2⟩
  have hb0 := bears_of o h hw (nil_claims fm) hr hp (fun c hc => by simp at hc) hin
  have hb1 := bears_of o h hw hc hr hp hf hin
  have hm : mkW l c ∈ worlds l := List.mem_filter.mpr ⟨List.mem_map.mpr ⟨c, mem_lots hsub, rfl⟩, hb0⟩
  obtain ⟨y, h1, h2⟩ := find_first (f := fun w => w.names.length) (p := fun w => w.bears cl) (worlds_sorted l) hm hb1
  refine ⟨y.names.length, by unfold priceL priceW; rw [h1]; rfl, Nat.le_trans h2 ?_⟩
  show c.length ≤ _
  exact nodup_len ((nodup_srt _).sublist hsub) fun z hz => by simpa using (List.mem_filter.mp hz).2
theorem price_min {l : Log} {cl : List Clm} (h : LogOk fm l) (hw : LogW l) (hc : ClsOk fm cl) : IsMin (fun k => ∃ r, ROf fm r ∧ possL l r ∧ fitsL r cl ∧ (errsL l r).length = k) (priceL l cl) := by
  cases q : priceL l cl with
  | none =>
    rintro k ⟨r, hr, hp, hf, _⟩
    obtain ⟨j, e, _⟩ := price_le o h hw hc hr hp hf
    rw [q] at e; cases e
  | some k =>
    have hle : ∀ r, ROf fm r → possL l r → fitsL r cl → k ≤ (errsL l r).length := fun r hr hp hf => by
      obtain ⟨j, e, hj⟩ := price_le o h hw hc hr hp hf
      rw [q] at e; cases e; exact hj
    refine ⟨?_, fun j ⟨r, hr, hp, hf, e⟩ => e ▸ hle r hr hp hf⟩
    unfold priceL priceW at q
    rw [Option.map_eq_some_iff] at q
    obtain ⟨w, hfind, hk⟩ := q
    have hbw := List.find?_some hfind
    have hmem := List.mem_of_find?_eq_some hfind
    obtain ⟨ns, hns, rfl⟩ := List.mem_map.mp (List.mem_filter.mp hmem).1
    have hsub := lots_sub hns
    obtain ⟨h1, h2, h3, h4⟩ := rule_of o h hw hc (fun z hz => (mem_wits.mp (hsub.subset hz)).1) (strs_sub (wits_ok h) hsub) hbw
    refine ⟨_, h1, h2, h3, Nat.le_antisymm ?_ (hle _ h1 h2 h3)⟩
    rw [← hk]
    exact nodup_len (nodup_ddp _) h4
end
end MP
end
section
set_option Elab.async false
set_option linter.all false
set_option maxRecDepth 100000
set_option maxHeartbeats 4000000
/-! LPv: defs that draw: what they leave of the store. -/
namespace MP
open PySem
/-! ### places behind a part of the store -/
theorem gk {α : Type} {s : List α} {N : Nat} (h : s.length = N) (ls : List α) (k : Nat) : (s ++ ls)[N + k]? = ls[k]? := by
  subst h
  rw [List.getElem?_append_right (by omega)]
  congr 1; omega
theorem gk0 {α : Type} {s : List α} {N : Nat} (h : s.length = N) (ls : List α) : (s ++ ls)[N]? = ls[0]? := gk h ls 0
theorem sk {α : Type} {s : List α} {N : Nat} (h : s.length = N) (ls : List α) (k : Nat) (x : α) : (s ++ ls).set (N + k) x = s ++ ls.set k x := by
  subst h
  rw [List.set_append_right _ _ (by omega)]
  congr 2; omega
theorem sk0 {α : Type} {s : List α} {N : Nat} (h : s.length = N) (ls : List α) (x : α) : (s ++ ls).set N x = s ++ ls.set 0 x := sk h ls 0 x
theorem lk {α : Type} {s : List α} {N : Nat} (h : s.length = N) (ls : List α) : (s ++ ls).length = N + ls.length := by
  subst h; simp
/-! ### what a draw leaves -/
/-- only the first three things are others -/
def Fr (s s' : Sto) : Prop := s'.length = s.length ∧ ∀ i, 3 ≤ i → s'[i]? = s[i]?
theorem Fr.refl (s : Sto) : Fr s s := ⟨rfl, fun _ _ => rfl⟩
theorem Fr.trans {a b c : Sto} (h : Fr a b) (k : Fr b c) : Fr a c := ⟨k.1.trans h.1, fun i hi => (k.2 i hi).trans (h.2 i hi)⟩
/-- the first three things are drawn from -/
structure Vine (B : Int) (s : Sto) : Prop where
  ex : ∃ (pile : List Int) (tab : List (L2.Key × D)) (a : Int), s[0]? = some (.lst (pile.map .int)) ∧ s[1]? = some (.dct tab) ∧ s[2]? = some (.lst [.int a, .ref 0, .ref 1]) ∧ 0 ≤ a ∧ a < B ∧ (∀ x ∈ pile, 0 ≤ x) ∧ pile.length ≤ 100 ∧
    (tab.map (·.1)).Nodup ∧ ∀ kv ∈ tab, (∃ i : Nat, kv.1 = .inl (i : Int) ∧ i < 100) ∧ ∃ k v : Int, kv.2 = .tup [.int k, .int v] ∧ 0 ≤ k ∧ k < 11 ∧ 0 ≤ v
theorem Vine.len {B : Int} {s : Sto} (h : Vine B s) : 3 ≤ s.length := by
  obtain ⟨_, _, _, _, _, h2, _⟩ := h.ex
  have := (List.getElem?_eq_some_iff.mp h2).1
  omega
theorem Vine.app {B : Int} {s : Sto} (h : Vine B s) (ls : Sto) : Vine B (s ++ ls) := by
  have hl := h.len
  obtain ⟨p, t, a, h0, h1, h2, r⟩ := h.ex
  exact ⟨p, t, a, by rw [List.getElem?_append_left (by omega)]; exact h0, by rw [List.getElem?_append_left (by omega)]; exact h1, by rw [List.getElem?_append_left (by omega)]; exact h2, r⟩
theorem Vine.cut {B : Int} {s ls : Sto} (h : Vine B (s ++ ls)) (hl : 3 ≤ s.length) : Vine B s := by
  obtain ⟨p, t, a, h0, h1, h2, r⟩ := h.ex
  rw [List.getElem?_append_left (by omega)] at h0 h1 h2
  exact ⟨p, t, a, h0, h1, h2, r⟩
theorem Vine.low {B : Int} {s : Sto} (h : Vine B s) {n : Nat} (hn : 3 ≤ n) {i : Nat} (hi : i < 3) : ∃ ob, s[i]? = some ob ∧ Ob.low n ob = true := by
  obtain ⟨p, t, a, h0, h1, h2, _, _, _, _, _, r⟩ := h.ex
  rcases (by omega : i = 0 ∨ i = 1 ∨ i = 2) with e | e | e
  · subst e
    refine ⟨_, h0, ?_⟩
    show D.lows n (p.map .int) = true
    rw [lows_iff]; intro d hd
    obtain ⟨x, _, rfl⟩ := List.mem_map.mp hd; rfl
  · subst e
    refine ⟨_, h1, ?_⟩
    show D.lows n (t.map (·.2)) = true
    rw [lows_iff]; intro d hd
    obtain ⟨kv, hkv, rfl⟩ := List.mem_map.mp hd
    obtain ⟨_, k, v, e, _⟩ := r kv hkv
    rw [e]; rfl
  · subst e
    refine ⟨_, h2, ?_⟩
    show D.lows n [.int a, .ref 0, .ref 1] = true
    simp [D.lows, D.low]; omega
/-- a def that draws: what it gives back, the rest as it was -/
def Dr (B : Int) (T : Tx) (n : Nat) (f : Str) (vs : List D) (R : D → Prop) : Prop := ∀ s, Vine B s → W (callD T n f vs s) fun p => R p.1 ∧ Vine B p.2 ∧ Fr s p.2
theorem Dr.at {B : Int} {T : Tx} {n : Nat} {f : Str} {vs : List D} {R : D → Prop} (h : Dr B T n f vs R) {s : Sto} (hv : Vine B s) (ls : Sto) : W (callD T n f vs (s ++ ls)) fun p => ∃ s', R p.1 ∧ p.2 = s' ++ ls ∧ Vine B s' ∧ Fr s s' := by
  refine (h (s ++ ls) (hv.app ls)).mono fun p ⟨h1, h2, h3, h4⟩ => ?_
  have hl := hv.len
  rw [List.length_append] at h3
  have e : p.2 = p.2.take s.length ++ ls := by
    refine List.ext_getElem? fun i => ?_
    by_cases c : i < s.length
    · rw [List.getElem?_append_left (by rw [List.length_take]; omega), List.getElem?_take, if_pos c]
    · rw [List.getElem?_append_right (by rw [List.length_take]; omega), h4 i (by omega), List.getElem?_append_right (by omega), List.length_take]
      congr 1; omega
  have hlt : (p.2.take s.length).length = s.length := by rw [List.length_take]; omega
  refine ⟨p.2.take s.length, h1, e, ?_, hlt, fun i hi => ?_⟩
  · rw [e] at h2
    exact h2.cut (by omega)
  · by_cases c : i < s.length
    · rw [List.getElem?_take, if_pos c, h4 i hi, List.getElem?_append_left c]
    · rw [List.getElem?_eq_none (by omega), List.getElem?_eq_none (by omega)]
/-- what a body that draws leaves -/
def DrPost (B : Int) (R : D → Prop) (s : Sto) (r : Fl × Env × Sto) : Prop := ∃ d s' ls, r.1 = .ret d ∧ (∀ m, d.low m = true) ∧ R d ∧ r.2.2 = s' ++ ls ∧ Vine B s' ∧ Fr s s'
theorem drPost {B : Int} {R : D → Prop} {s s' ls : Sto} {d : D} {env : Env} (h1 : ∀ m, d.low m = true) (h2 : R d) (h3 : Vine B s') (h4 : Fr s s') : DrPost B R s (.ret d, env, s' ++ ls) := ⟨d, s', ls, rfl, h1, h2, rfl, h3, h4⟩
theorem drPost0 {B : Int} {R : D → Prop} {s s' : Sto} {d : D} {env : Env} (h1 : ∀ m, d.low m = true) (h2 : R d) (h3 : Vine B s') (h4 : Fr s s') : DrPost B R s (.ret d, env, s') := ⟨d, s', [], rfl, h1, h2, by simp, h3, h4⟩
theorem dr_of {B : Int} {T : Tx} {n : Nat} {f : Str} {fd : FD} {vs : List D} {R : D → Prop} (hf : T.fn f = some fd) (hl : vs.length = fd.ps.length) (hk : fd.keep = false)
    (h : ∀ s, Vine B s → W (evSs (clD T n) fd.body (vs.map some ++ List.replicate (fd.n - vs.length) none) s) (DrPost B R s)) : Dr B T (n + 1) f vs R := by
  intro s hv
  rw [callD_eq hf]
  refine run_gen hl hk ((h s hv).mono fun r ⟨d, s', ls, h1, h2, h3, h4, h5, h6⟩ => ⟨d, d, .inl h1, frz_low (h2 _), ?_, ?_⟩)
  · refine lowSt_of fun i hi => ?_
    have hls := hv.len
    rw [h4]
    by_cases c : i < 3
    · right
      obtain ⟨ob, e, lo⟩ := h5.low hls c
      exact ⟨ob, by rw [List.getElem?_append_left (by rw [h6.1]; omega)]; exact e, lo⟩
    · left
      rw [List.getElem?_append_left (by rw [h6.1]; omega), h6.2 i (by omega)]
  · rw [h4, List.take_left' h6.1]
    exact ⟨h3, h5, h6⟩
theorem low_of_pl {d : D} (h : d.pl = true) : ∀ m, d.low m = true := fun _ => low_pl d h
/-! ### reading the store -/
theorem ix_ref {st : Sto} {n : Nat} {xs : List D} {i : Int} (h : st[n]? = some (.lst xs)) : ixD st (.ref n) (.int i) = L2.atI xs i := by
  simp [ixD, dctOf, listOf, h]
theorem ix_dct {st : Sto} {n : Nat} {kvs : List (L2.Key × D)} {k : D} (h : st[n]? = some (.dct kvs)) : ixD st (.ref n) k = (keyD k).bind (valD kvs) := by
  simp [ixD, dctOf, h]
theorem len_ref {st : Sto} {n : Nat} {xs : List D} (h : st[n]? = some (.lst xs)) : bfD .len st [.ref n] = some (.int xs.length) := by
  simp [bfD, itemsOf, h]
theorem tuple_ref {st : Sto} {n : Nat} {xs : List D} (h : st[n]? = some (.lst xs)) : bfD .tuple st [.ref n] = some (.tup xs) := by
  simp [bfD, itemsOf, h]
theorem items_ref {st : Sto} {n : Nat} {xs : List D} (h : st[n]? = some (.lst xs)) : itemsOf st (.ref n) = some xs := by
  simp [itemsOf, h]
theorem list_ref {st : Sto} {n : Nat} {xs : List D} (h : st[n]? = some (.lst xs)) : listOf st (.ref n) = some xs := by
  simp [listOf, h]
theorem src_ref {st : Sto} {n : Nat} {xs : List D} (h : st[n]? = some (.lst xs)) : srcD st 0 [.ref n] = some xs := items_ref h
theorem mtok_ref {st : Sto} {n : Nat} {xs : List D} (h : st[n]? = some (.lst xs)) : ∀ {m : Mt}, m ≠ .get → mtOk m st (.ref n) = true := by
  intro m hm
  cases m <;> simp [mtOk, listOf, h] at *
theorem append_ref {st : Sto} {n : Nat} {xs : List D} {d : D} (h : st[n]? = some (.lst xs)) (hl : xs.length < sizeLine) : mtD .append st (.ref n) [d] = some (.non, st.set n (.lst (xs ++ [d]))) := by
  simp [mtD, h, hl]
theorem extend_ref {st : Sto} {n : Nat} {xs ys : List D} (h : st[n]? = some (.lst xs)) (hl : xs.length + ys.length ≤ sizeLine) : mtD .extend st (.ref n) [.lst ys] = some (.non, st.set n (.lst (xs ++ ys))) := by
  simp [mtD, h, hl]
theorem pop_ref {st : Sto} {n : Nat} {xs : List D} {d : D} (h : st[n]? = some (.lst (xs ++ [d]))) : mtD .pop st (.ref n) [] = some (d, st.set n (.lst xs)) := by
  simp [mtD, h]
theorem popAt_ref {st : Sto} {n : Nat} {xs : List D} {i : Int} (h : st[n]? = some (.lst xs)) (h0 : 0 ≤ i) (h1 : i < xs.length) (hl : xs.length ≤ sizeLine) : ∃ hi : i.toNat < xs.length, mtD .popAt st (.ref n) [.int i] = some (xs[i.toNat]'hi, st.set n (.lst (xs.eraseIdx i.toNat))) := by
  have hi : i.toNat < xs.length := by omega
  refine ⟨hi, ?_⟩
  simp [mtD, h]
  rw [List.getElem?_eq_getElem hi]
  simp; omega
theorem insert_ref {st : Sto} {n : Nat} {xs : List D} {d : D} (h : st[n]? = some (.lst xs)) (hl : xs.length < sizeLine) : mtD .insert st (.ref n) [.int 0, d] = some (.non, st.set n (.lst (d :: xs))) := by
  simp [mtD, h, hl]
end MP
end
section
set_option Elab.async false
set_option linter.all false
set_option maxRecDepth 100000
set_option maxHeartbeats 4000000
/-! LPw: the three defs that draw (k75 to k77). -/
namespace MP
open PySem
/-- a number below many -/
def fdLeaf (p : Str) (c1 c2 B c3 : Int) : FD := ⟨[p, ("many" : Str)], 3, false, [
    .ite (.cmp .gt (.bf .len [.idx (.var 0) (.lit (.int 1))]) (.lit (.int 0))) [.set (.nm 2) (.mt .pop (.idx (.var 0) (.lit (.int 1))) []), .ite (.and (.cmp .ge (.var 2) (.var 1)) (.cmp .gt (.var 1) (.lit (.int 1)))) [.ex (.mt .append (.idx (.var 0) (.lit (.int 1))) [.bin .fdiv (.var 2) (.var 1)])] [], .ret (.bin .mod (.bf .int [.var 2]) (.var 1))] [],
    .setI (.var 0) (.lit (.int 0)) (.bin .mod (.bf .int [.bin .add (.bin .mul (.idx (.var 0) (.lit (.int 0))) (.lit (.int c1))) (.lit (.int c2))]) (.lit (.int B))),
    .ret (.bin .mod (.bf .int [.bin .fdiv (.idx (.var 0) (.lit (.int 0))) (.lit (.int c3))]) (.var 1))]⟩
def isBelow (m : Int) (d : D) : Prop := ∃ r : Int, d = .int r ∧ 0 ≤ r ∧ r < m
theorem putD_lst {st : Sto} {n : Nat} {xs : List D} {i : Nat} {v : D} (h : st[n]? = some (.lst xs)) (hi : i < xs.length) : putD st (.ref n) (.int (i : Int)) v = some (st.set n (.lst (xs.set i v))) := by
  unfold putD
  simp only [h]
  have : L2.ixN xs.length (i : Int) = some i := by
    unfold L2.ixN
    rw [if_pos (by omega), if_pos (by omega)]; simp
  rw [this]
theorem leaf_ok {T : Tx} {n : Nat} {f p : Str} {c1 c2 B c3 m : Int} (hf : T.fn f = some (fdLeaf p c1 c2 B c3)) (hB : 0 < B ∧ B < 2 ^ 62) (h3 : 0 < c3 ∧ c3 < 1073741824) (hm : 0 < m ∧ m < 1073741824) : Dr B T (n + 1) f [.ref 2, .int m] (isBelow m) := by
  refine dr_of hf rfl rfl fun s hv => ?_
  have hl := hv.len
  obtain ⟨pile, tab, a, h0, h1, h2, ha0, haB, hp, hpl, hn, ht⟩ := hv.ex
  have x1 : ixD s (.ref 2) (.int 1) = some (.ref 0) := by rw [ix_ref h2]; simp
  have x0 : ixD s (.ref 2) (.int 0) = some (.int a) := by rw [ix_ref h2]; simp
  rcases List.eq_nil_or_concat pile with hpile | ⟨q, x, hpile⟩
  · subst hpile
    have y : (s.set 2 (.lst [.int ((a * c1 + c2) % B), .ref 0, .ref 1]))[2]? = some (.lst [.int ((a * c1 + c2) % B), .ref 0, .ref 1]) := by
      rw [List.getElem?_set_self (by omega)]
    have x2 : ixD (s.set 2 (.lst [.int ((a * c1 + c2) % B), .ref 0, .ref 1])) (.ref 2) (.int 0) = some (.int ((a * c1 + c2) % B)) := by rw [ix_ref y]; simp
    have hput := putD_lst (i := 0) (v := .int ((a * c1 + c2) % B)) h2 (by simp)
    simp only [List.set_cons_zero] at hput
    simp [fdLeaf, w_scons, x1, x0, len_ref h0, mul_int (i := a) (j := c1) (.inl (by omega)), mod_int hB.1, show (↑(0 : Nat) : Int) = 0 from rfl] at hput ⊢
    simp [hput, x2, fdiv_int h3.1 h3.2, mod_int hm.1]
    refine drPost0 (low_of_pl rfl) ⟨_, rfl, Int.emod_nonneg _ (by omega), Int.emod_lt_of_pos _ hm.1⟩ (s' := s.set 2 (.lst [.int ((a * c1 + c2) % B), .ref 0, .ref 1])) ⟨[], tab, (a * c1 + c2) % B, ?_, ?_, y, Int.emod_nonneg _ (by omega), Int.emod_lt_of_pos _ hB.1, by simp, by simp, hn, ht⟩ ⟨by simp, fun i hi => ?_⟩
    · rw [List.getElem?_set_ne (by omega)]; exact h0
    · rw [List.getElem?_set_ne (by omega)]; exact h1
    · rw [List.getElem?_set_ne (by omega)]
  · rw [List.concat_eq_append] at hpile
    subst hpile
    have hx : 0 ≤ x := hp x (by simp)
    have h0' : s[0]? = some (.lst (q.map .int ++ [.int x])) := by rw [h0]; simp
    have z0 : (s.set 0 (.lst (q.map .int)))[0]? = some (.lst (q.map .int)) := by rw [List.getElem?_set_self (by omega)]
    have z2 : (s.set 0 (.lst (q.map .int)))[2]? = some (.lst [.int a, .ref 0, .ref 1]) := by rw [List.getElem?_set_ne (by omega)]; exact h2
    have xz : ixD (s.set 0 (.lst (q.map .int))) (.ref 2) (.int 1) = some (.ref 0) := by rw [ix_ref z2]; simp
    have hrl : (q.map D.int).length < sizeLine := by rw [sizeLine_eq]; simp at hpl ⊢; omega
    have ap := append_ref (d := .int (x / m)) z0 hrl
    rw [List.set_set] at ap
    have main : ∀ (pl : List Int), (∀ y ∈ pl, 0 ≤ y) → pl.length ≤ 100 → ∀ env, DrPost B (isBelow m) s (.ret (.int (x % m)), env, s.set 0 (.lst (pl.map .int))) := by
      intro pl h5 h6 env
      refine drPost0 (low_of_pl rfl) ⟨_, rfl, Int.emod_nonneg _ (by omega), Int.emod_lt_of_pos _ hm.1⟩ ⟨pl, tab, a, ?_, ?_, ?_, ha0, haB, h5, h6, hn, ht⟩ ⟨by simp, fun i hi => ?_⟩
      · rw [List.getElem?_set_self (by omega)]
      · rw [List.getElem?_set_ne (by omega)]; exact h1
      · rw [List.getElem?_set_ne (by omega)]; exact h2
      · rw [List.getElem?_set_ne (by omega)]
    have hr0 : ∀ y ∈ q, 0 ≤ y := fun y hy => hp y (by simp [hy])
    have hrl2 : q.length + 1 ≤ 100 := by simpa using hpl
    have m1 := main q hr0 (by omega)
    have m2 := main (q ++ [x / m]) (fun y hy => by
        rcases List.mem_append.mp hy with h | h
        · exact hr0 y h
        · rw [List.mem_singleton.mp h]; exact Int.ediv_nonneg hx (by omega)) (by simp; omega)
    simp only [List.map_append, List.map_cons, List.map_nil] at m2
    simp [fdLeaf, w_scons, x1, len_ref h0', pop_ref h0', mtok_ref h0', xz, mtok_ref z0, fdiv_int hm.1 hm.2, mod_int hm.1, ap]
    split
    · split
      · exact m2 _
      · exact m1 _
    · exact m1 _
/-! ### by places -/
def leanRest (f : Str) : List St := [
    .set (.tp [.nm 3, .nm 4]) (.idx (.idx (.var 0) (.lit (.int 2))) (.var 1)),
    .set (.nm 5) (.call f [.var 0, .var 2]),
    .ret (.ite (.cmp .lt (.var 3) (.lit (.int 2))) (.bin .mul (.var 3) (.bin .sub (.var 2) (.lit (.int 1)))) (.ite (.cmp .eq (.var 3) (.lit (.int 2))) (.bin .mod (.bf .int [.var 4]) (.var 2)) (.var 5)))]
def fdLean (p f : Str) : FD := ⟨[p, ("place" : Str), ("many" : Str)], 6, false,
    .ite (.cmp .notin (.var 1) (.idx (.var 0) (.lit (.int 2)))) [.setI (.idx (.var 0) (.lit (.int 2))) (.var 1) (.tup [.call f [.var 0, .lit (.int 11)], .call f [.var 0, .lit (.int 929)]])] [] :: leanRest f⟩
theorem mapPut_key {kvs : List (L2.Key × D)} {k : L2.Key} {v : D} : (kvs.map fun kv => if kv.1 = k then (kv.1, v) else kv).map (·.1) = kvs.map (·.1) := by
  rw [List.map_map]
  refine List.map_congr_left fun kv _ => ?_
  show (if kv.1 = k then (kv.1, v) else kv).1 = kv.1
  split <;> rfl
theorem valD_put {kvs : List (L2.Key × D)} {k : L2.Key} {v : D} : valD (putKD kvs k v) k = some v := by
  unfold putKD
  split
  · rename_i h
    unfold valD
    induction kvs with
    | nil => simp at h
    | cons kv r ih =>
      rw [List.map_cons]
      by_cases e : kv.1 = k
      · rw [if_pos e, List.find?_cons, decide_eq_true e]; rfl
      · rw [if_neg e, List.find?_cons, decide_eq_false e]
        refine ih ?_
        rw [List.any_cons, decide_eq_false e, Bool.false_or] at h
        exact h
  · rename_i h
    unfold valD
    rw [List.find?_append]
    have : kvs.find? (fun kv => decide (kv.1 = k)) = none := by
      rw [List.find?_eq_none]
      intro x hx hh
      exact h (List.any_eq_true.mpr ⟨x, hx, hh⟩)
    rw [this]
    simp
theorem Vine.tabLen {tab : List (L2.Key × D)} (hn : (tab.map (·.1)).Nodup) (ht : ∀ kv ∈ tab, ∃ i : Nat, kv.1 = .inl (i : Int) ∧ i < 100) : tab.length ≤ 100 := by
  have := nodup_len (ns := (List.range 100).map fun i : Nat => (Sum.inl (i : Int) : L2.Key)) hn fun x hx => by
    obtain ⟨kv, hkv, rfl⟩ := List.mem_map.mp hx
    obtain ⟨i, e, hi⟩ := ht kv hkv
    rw [e]
    exact List.mem_map.mpr ⟨i, List.mem_range.mpr hi, rfl⟩
  simpa using this
theorem Vine.put {B : Int} {s : Sto} (hv : Vine B s) {i : Nat} (hi : i < 100) {k v : Int} (h0 : 0 ≤ k) (h1 : k < 11) (h2 : 0 ≤ v) : ∃ tab', putD s (.ref 1) (.int (i : Int)) (.tup [.int k, .int v]) = some (s.set 1 (.dct tab')) ∧ Vine B (s.set 1 (.dct tab')) ∧ valD tab' (.inl (i : Int)) = some (.tup [.int k, .int v]) := by
  have hl := hv.len
  obtain ⟨p, t, a, e0, e1, e2, r1, r2, r3, r4, hn, ht⟩ := hv.ex
  have hlen := Vine.tabLen hn fun kv hkv => (ht kv hkv).1
  refine ⟨putKD t (.inl (i : Int)) (.tup [.int k, .int v]), ?_, ⟨p, putKD t (.inl (i : Int)) (.tup [.int k, .int v]), a, ?_, ?_, ?_, r1, r2, r3, r4, ?_, ?_⟩, valD_put⟩
  · unfold putD
    simp only [e1, keyD]
    rw [if_pos (by rw [sizeLine_eq]; omega)]
  · rw [List.getElem?_set_ne (by omega)]; exact e0
  · rw [List.getElem?_set_self (by omega)]
  · rw [List.getElem?_set_ne (by omega)]; exact e2
  · unfold putKD
    split
    · rw [mapPut_key]; exact hn
    · rename_i h
      rw [List.map_append, List.nodup_append]
      refine ⟨hn, by simp, fun x hx y hy => ?_⟩
      simp at hy
      subst hy
      rintro rfl
      obtain ⟨kv, hkv, e⟩ := List.mem_map.mp hx
      exact h (List.any_eq_true.mpr ⟨kv, hkv, by simpa using e⟩)
  · intro kv hkv
    unfold putKD at hkv
    split at hkv
    · obtain ⟨w, hw, e⟩ := List.mem_map.mp hkv
      obtain ⟨q1, q2⟩ := ht w hw
      split at e
      · subst e; exact ⟨q1, k, v, rfl, h0, h1, h2⟩
      · subst e; exact ⟨q1, q2⟩
    · rcases List.mem_append.mp hkv with z | z
      · exact ht kv z
      · rw [List.mem_singleton.mp z]; exact ⟨⟨i, rfl, hi⟩, k, v, rfl, h0, h1, h2⟩
theorem Fr.set1 {s : Sto} {o : Ob} {i : Nat} (hi : i < 3) : Fr s (s.set i o) := ⟨by simp, fun j hj => by rw [List.getElem?_set_ne (by omega)]⟩
theorem lean_ok {T : Tx} {n : Nat} {f g p : Str} {B m : Int} {i : Nat} (hf : T.fn f = some (fdLean p g)) (leaf : ∀ m : Int, 0 < m → m < 1073741824 → Dr B T n g [.ref 2, .int m] (isBelow m)) (hm : 0 < m ∧ m < 1073741824) (hi : i < 100) : Dr B T (n + 1) f [.ref 2, .int (i : Int), .int m] (isBelow m) := by
  refine dr_of hf rfl rfl fun s hv => ?_
  -- behind the test: a pair stands at the place
  have rest : ∀ (s1 : Sto) (tab : List (L2.Key × D)) (k v : Int), Vine B s1 → Fr s s1 → s1[1]? = some (.dct tab) → valD tab (.inl (i : Int)) = some (.tup [.int k, .int v]) → 0 ≤ k → k < 11 → 0 ≤ v →
      W (evSs (clD T n) (leanRest g) [some (.ref 2), some (.int (i : Int)), some (.int m), none, none, none] s1) (DrPost B (isBelow m) s) := by
    intro s1 tab k v hv1 hfr h1 hval hk0 hk1 hv0
    obtain ⟨p1, t1, a1, e0, e1, e2, _⟩ := hv1.ex
    rw [h1] at e1
    cases e1
    have x2 : ixD s1 (.ref 2) (.int 2) = some (.ref 1) := by rw [ix_ref e2]; simp
    have xd : ixD s1 (.ref 1) (.int (i : Int)) = some (.tup [.int k, .int v]) := by rw [ix_dct h1]; exact hval
    simp [leanRest, w_scons, x2, xd]
    refine (leaf m hm.1 hm.2 s1 hv1).mono ?_
    rintro ⟨d, s2⟩ ⟨⟨r, hr, r0, r1⟩, hv2, hfr2⟩
    simp only at hr hv2 hfr2
    subst hr
    have key : ∀ z : Int, 0 ≤ z → z < m → ∀ env, DrPost B (isBelow m) s (.ret (.int z), env, s2) := fun z z0 z1 env => drPost0 (low_of_pl rfl) ⟨z, rfl, z0, z1⟩ hv2 (hfr.trans hfr2)
    by_cases c : k < 2
    · rcases (by omega : k = 0 ∨ k = 1) with e | e
      · subst e
        simp [mul_int (i := 0) (j := m - 1) (.inl (by omega))]
        exact key 0 (by omega) hm.1 _
      · subst e
        simp [mul_int (i := 1) (j := m - 1) (.inl (by omega))]
        exact key (m - 1) (by omega) (by omega) _
    · by_cases c2 : k = 2
      · subst c2
        simp [mod_int hm.1]
        exact key (v % m) (Int.emod_nonneg _ (by omega)) (Int.emod_lt_of_pos _ hm.1) _
      · simp [c, c2]
        exact key r r0 r1 _
  obtain ⟨p0, t0, a0, e0, e1, e2, _, _, _, _, hn0, ht0⟩ := hv.ex
  have x2 : ixD s (.ref 2) (.int 2) = some (.ref 1) := by rw [ix_ref e2]; simp
  have hmem : cmpD .notin s (.int (i : Int)) (.ref 1) = some (!(valD t0 (.inl (i : Int))).isSome) := by
    simp [cmpD, memO, dctOf, e1, keyD]
  rw [fdLean, w_scons]
  cases q : valD t0 (.inl (i : Int)) with
  | some d =>
    obtain ⟨kv, hkv, e⟩ := Option.map_eq_some_iff.mp (show (t0.find? fun kv => decide (kv.1 = (.inl (i : Int) : L2.Key))).map (·.2) = some d from q)
    obtain ⟨_, k, v, e3, h0, h1, h2⟩ := ht0 kv (List.mem_of_find?_eq_some hkv)
    rw [← e, e3] at q
    simp [x2, hmem, q]
    exact rest s t0 k v hv (Fr.refl s) e1 q h0 h1 h2
  | none =>
    simp [w_scons, x2, hmem, q]
    refine (leaf 11 (by omega) (by omega) s hv).mono ?_
    rintro ⟨d, s2⟩ ⟨⟨k, hd, k0, k1⟩, hv2, hfr2⟩
    simp only at hd hv2 hfr2
    subst hd
    simp
    refine (leaf 929 (by omega) (by omega) s2 hv2).mono ?_
    rintro ⟨d, s3⟩ ⟨⟨v, hd, v0, v1⟩, hv3, hfr3⟩
    simp only at hd hv3 hfr3
    subst hd
    obtain ⟨p3, t3, a3, f0, f1, f2, _⟩ := hv3.ex
    have y2 : ixD s3 (.ref 2) (.int 2) = some (.ref 1) := by rw [ix_ref f2]; simp
    obtain ⟨tab', h1, h2, h3⟩ := hv3.put hi k0 k1 v0
    have hl3 := hv3.len
    simp [y2, h1]
    exact rest _ tab' k v h2 ((hfr2.trans hfr3).trans (Fr.set1 (by omega))) (by rw [List.getElem?_set_self (by omega)]) h3 k0 k1 v0
/-! ### the beginning -/
def vineBody (sh c1 c2 c3 c4 B : Int) : List St := [.set (.nm 3) (.bin .mod (.bf .abs [.bf .int [.var 2]]) (.bin .shl (.lit (.int 1)) (.lit (.int sh)))), .setI (.var 1) (.lit (.int 0)) (.bin .mod (.bf .int [.bin .add (.bin .add (.bin .add (.bin .mul (.idx (.var 1) (.lit (.int 0))) (.lit (.int c1))) (.bin .mul (.bin .mod (.var 3) (.lit (.int c2))) (.lit (.int c3)))) (.bf .int [.cmp .lt (.bf .int [.var 2]) (.lit (.int 0))])) (.lit (.int c4))]) (.lit (.int B))), .ite (.cmp .ge (.var 3) (.bin .pow (.lit (.int 10)) (.lit (.int 18)))) [.ex (.mt .insert (.idx (.var 1) (.lit (.int 1))) [.lit (.int 0), .var 3])] []]
def fdVine (a0 cut sh c1 c2 c3 c4 B : Int) : FD := ⟨[("script" : Str)], 4, true, [
    .set (.nm 1) (.lst true [.lit (.int a0), (.lst true []), (.dct [] [])]),
    .for_ (.nm 2) 0 [.sl (.var 0) none (some (.lit (.int cut)))] (vineBody sh c1 c2 c3 c4 B),
    .ret (.var 1)]⟩
theorem vine_ok {T : Tx} {n : Nat} {f : Str} {a0 cut sh c1 c2 c3 c4 B : Int} (hf : T.fn f = some (fdVine a0 cut sh c1 c2 c3 c4 B)) (h0 : 0 ≤ a0 ∧ a0 < B) (hB : B < 2 ^ 62) (hc : 0 ≤ cut ∧ cut ≤ 100) (hs : 0 ≤ sh ∧ sh ≤ 1000000) (h2 : 0 < c2) (h3 : -(2 ^ 62) < c3 ∧ c3 < 2 ^ 62) (ns : List Int) : W (callD T (n + 1) f [.scr ns] []) fun p => p.1 = .ref 2 ∧ Vine B p.2 ∧ p.2.length = 3 := by
  rw [callD_eq hf]
  refine run_keep rfl rfl ?_
  have hB0 : 0 < B := by omega
  have hsl : slD [Ob.lst [], .dct [], .lst [.int a0, .ref 0, .ref 1]] (.scr ns) none (some cut) = some (.lst ((ns.take cut.toNat).map .int)) := by
    show some (D.lst (cutD (ns.map .int) none (some cut))) = _
    rw [cut_to hc.1, List.map_take]
  simp [fdVine, w_scons, hsl]
  refine (for_inv (I := fun dn env st => ∃ (pile : List Int) (a : Int), (∃ z1 z2, env = [some (.scr ns), some (.ref 2), z1, z2]) ∧ st = [.lst (pile.map .int), .dct [], .lst [.int a, .ref 0, .ref 1]] ∧ 0 ≤ a ∧ a < B ∧ (∀ x ∈ pile, 0 ≤ x) ∧ pile.length ≤ dn.length) (R := fun p => p.1 = .nx ∧ p.2.1[1]? = some (some (.ref 2)) ∧ Vine B p.2.2 ∧ p.2.2.length = 3) (fun _ _ _ _ => same_nil) (fun dn x r env st e ⟨pile, a, ⟨z1, z2, he⟩, hst, ha, haB, hp, hl⟩ => ?step) (fun env st ⟨pile, a, ⟨z1, z2, he⟩, hst, ha, haB, hp, hl⟩ => ?fin) ⟨[], a0, ⟨_, _, rfl⟩, rfl, h0.1, h0.2, by simp, by simp⟩).mono fun p hp => ?post
  case step =>
    subst he hst
    obtain ⟨c, rfl⟩ : ∃ c, x = .int c := by
      have : x ∈ (ns.map D.int).take cut.toNat := by rw [← e]; simp
      rw [← List.map_take] at this
      obtain ⟨c, _, rfl⟩ := List.mem_map.mp this
      exact ⟨c, rfl⟩
    have hdn : dn.length + 1 ≤ 100 := by
      have := congrArg List.length e
      simp at this; omega
    have hpow : (0 : Int) < 1 * 2 ^ sh.toNat := by rw [Int.one_mul]; exact Int.pow_pos (by omega)
    have hshl : ∀ st, binD .shl st (.int 1) (.int sh) = some (.int (1 * 2 ^ sh.toNat)) := fun st => by
      show (if 0 ≤ sh ∧ sh ≤ 1000000 ∧ (1 : Int).natAbs < 2 ^ 64 then _ else _) = _
      rw [if_pos ⟨hs.1, hs.2, by decide⟩]
    have hpw : ∀ st, binD .pow st (.int 10) (.int 18) = some (.int (10 ^ 18)) := fun st => rfl
    generalize hb : (1 * 2 ^ sh.toNat : Int) = big at hpow hshl
    generalize hsz : ((if c < 0 then -c else c) : Int) % big = size
    have hsz0 : 0 ≤ size := by rw [← hsz]; exact Int.emod_nonneg _ (by omega)
    have i0 : ∀ (pl : List Int) (b : Int), ixD [Ob.lst (pl.map .int), .dct [], .lst [.int b, .ref 0, .ref 1]] (.ref 2) (.int 0) = some (.int b) := fun pl b => by rw [ix_ref (xs := [.int b, .ref 0, .ref 1]) rfl]; simp
    have i1 : ∀ (pl : List Int) (b : Int), ixD [Ob.lst (pl.map .int), .dct [], .lst [.int b, .ref 0, .ref 1]] (.ref 2) (.int 1) = some (.ref 0) := fun pl b => by rw [ix_ref (xs := [.int b, .ref 0, .ref 1]) rfl]; simp
    have hput : ∀ v, putD [Ob.lst (pile.map .int), .dct [], .lst [.int a, .ref 0, .ref 1]] (.ref 2) (.int 0) v = some [Ob.lst (pile.map .int), .dct [], .lst [v, .ref 0, .ref 1]] := fun v => by
      have := putD_lst (st := [Ob.lst (pile.map .int), .dct [], .lst [.int a, .ref 0, .ref 1]]) (n := 2) (i := 0) (v := v) rfl (by simp)
      simpa using this
    have hins : ∀ b, mtD .insert [Ob.lst (pile.map .int), .dct [], .lst [.int b, .ref 0, .ref 1]] (.ref 0) [.int 0, .int size] = some (.non, [Ob.lst ((size :: pile).map .int), .dct [], .lst [.int b, .ref 0, .ref 1]]) := fun b => by
      rw [insert_ref (xs := pile.map .int) rfl (by rw [sizeLine_eq]; simp; omega)]; rfl
    have hmok : ∀ b, mtOk .insert [Ob.lst (pile.map .int), .dct [], .lst [.int b, .ref 0, .ref 1]] (.ref 0) = true := fun b => mtok_ref (xs := pile.map .int) rfl (by simp)
    have hml : ∀ j, 0 ≤ a ∧ a < B → ∀ st, binD .mul st (.int a) (.int j) = some (.int (a * j)) := fun j h st => mul_int (.inl (by omega))
    have hml2 : ∀ (i : Int) st, binD .mul st (.int i) (.int c3) = some (.int (i * c3)) := fun i st => mul_int (.inr (by omega))
    simp [vineBody, w_scons, hshl, mod_int hpow, hsz, i0, i1, hml c1 ⟨ha, haB⟩, mod_int h2, mod_int hB0, hml2, hput, hpw, hins, hmok]
    have e1 := fun q => Int.emod_nonneg (b := B) q (by omega)
    have e2 := fun q => Int.emod_lt_of_pos (b := B) q hB0
    split
    · refine ⟨size :: pile, _, ⟨rfl, rfl⟩, e1 _, e2 _, ?_, by simp; omega⟩
      intro x hx
      rcases List.mem_cons.mp hx with z | z
      · rw [z]; exact hsz0
      · exact hp x z
    · exact ⟨pile, _, ⟨rfl, rfl⟩, e1 _, e2 _, hp, Nat.le_succ_of_le hl⟩
  case fin =>
    subst he hst
    have : pile.length ≤ 100 := by
      have : ((ns.map D.int).take cut.toNat).length ≤ 100 := by simp; omega
      omega
    exact ⟨rfl, rfl, ⟨pile, [], a, rfl, rfl, rfl, ha, haB, hp, this, by simp, by simp⟩, rfl⟩
  case post =>
    obtain ⟨fl, env, st⟩ := p
    obtain ⟨h1, h2, h3, h4⟩ := hp
    simp only at h1 h2 h3 h4
    subst h1
    simp [w_scons, h2, h3, h4]
end MP
end
section
set_option Elab.async false
set_option linter.all false
set_option maxRecDepth 100000
set_option maxHeartbeats 4000000
/-! LPx: a law's own defs: lets, same, all rules. -/
namespace MP
open PySem
/-! ### lets -/
def fdLets : FD := ⟨[("rule" : Str), ("case" : Str)], 4, false, [
    .ite (.cmp .is (.var 0) (.lit (.non))) [.ret (.lit (.bl false))] [],
    .for_ (.nm 2) 1 [.bf .len [.var 1]] [.set (.nm 3) (.ite (.isi (.idx (.var 1) (.var 2)) .int) (.cmp2 .le .le (.idx (.idx (.var 0) (.var 2)) (.lit (.int 0))) (.idx (.var 1) (.var 2)) (.idx (.idx (.var 0) (.var 2)) (.lit (.int 1)))) (.cmp .in_ (.idx (.var 1) (.var 2)) (.idx (.var 0) (.var 2)))), .ite (.not (.var 3)) [.ret (.lit (.bl false))] []],
    .ret (.lit (.bl true))]⟩
/-- a condition of a span's kind -/
def kin : Cn → Cn → Prop
  | .r _ _, .r _ _ => True
  | .n ns, .n xs => ∀ x ∈ xs, x ∈ ns
  | _, _ => False
def KOf (fm : Fm) : Rl → Prop
  | none => True
  | some r => All2 kin fm r
theorem kin_of {sp k : Cn} (h : cin sp k) : kin sp k := by
  cases sp <;> cases k <;> simp [cin, kin] at * <;> first | exact h.2.1 | trivial
theorem KOf_of {fm : Fm} {r : Rl} (h : ROf fm r) : KOf fm r := by
  cases r with
  | none => trivial
  | some r => exact All2.mono h fun _ _ _ _ h => kin_of h
theorem all2_at {α β : Type} {R : α → β → Prop} {as : List α} {bs : List β} (h : All2 R as bs) {i : Nat} (hi : i < bs.length) : ∃ (h1 : i < as.length), R as[i] bs[i] := by
  have h1 : i < as.length := by rw [h.len]; exact hi
  exact ⟨h1, h.get (List.getElem?_eq_getElem h1) (List.getElem?_eq_getElem hi)⟩
theorem letL_iff : ∀ {r : List Cn} {c : Cs}, r.length = c.length → (letL r c = true ↔ ∀ i (h : i < r.length) (h2 : i < c.length), letV r[i] c[i] = true)
  | [], [], _ => by simp [letL]
  | [], _ :: _, h => by simp at h
  | _ :: _, [], h => by simp at h
  | k :: r, v :: c, h => by
    rw [letL, Bool.and_eq_true, letL_iff (by simpa using h)]
    constructor
    · intro ⟨h1, h2⟩ i hi hi2
      cases i with
      | zero => exact h1
      | succ i => exact h2 i (by simpa using hi) (by simpa using hi2)
    · intro hh
      exact ⟨hh 0 (by simp) (by simp), fun i hi hi2 => hh (i + 1) (by simpa using hi) (by simpa using hi2)⟩
theorem at_map {α : Type} {e : α → D} {xs : List α} {i : Nat} (h : i < xs.length) : L2.atI (xs.map e) (i : Int) = some (e xs[i]) := by
  rw [at_nat, List.getElem?_map, List.getElem?_eq_getElem h]; rfl
section
variable {T : Tx} {n : Nat} {st : Sto} {fm : Fm} (o : FmOk fm)
include o
theorem lawlets_k {f : Str} (hf : T.fn f = some fdLets) {r : Rl} {c : Cs} (hr : KOf fm r) (hc : COf fm c) : callD T (n + 1) f [eR r, eC c] st = some (.bl (letR r c), st) := by
  rw [callD_eq hf]
  refine run_ret rfl rfl rfl ?_
  cases r with
  | none => simp [fdLets, w_scons, eR, letR]
  | some r =>
    have hlc := hc.len
    have hlr := All2.len hr
    have hf4 := o.2.1
    have hs : small62 (c.length : Int) = true := small_of (by omega) (by omega)
    simp [fdLets, w_scons, eR, eC, src1 hs]
    rw [range_map]
    refine (for_inv (I := fun dn env st' => ∃ j : Nat, dn.length = j ∧ (∃ z1 z2, env = [some (.tup (r.map Cn.d)), some (.tup (c.map Vl.d)), z1, z2]) ∧ st = st' ∧ ∀ i (h : i < r.length) (h2 : i < c.length), i < j → letV r[i] c[i] = true)
      (R := fun p => p.2.2 = st ∧ (p.1 = .nx ∧ letL r c = true ∨ p.1 = .ret (.bl false) ∧ letL r c = false)) (fun _ _ _ _ => same_nil) (fun dn x rr env st' e ⟨j, hj, ⟨z1, z2, he⟩, hst, hall⟩ => ?step) (fun env st' ⟨j, hj, ⟨z1, z2, he⟩, hst, hall⟩ => ?fin) ⟨0, rfl, ⟨_, _, rfl⟩, rfl, fun i _ _ h => by omega⟩).mono fun p hp => ?post
    case step =>
      subst he hst
      have hx : x = .int (j : Int) ∧ j < c.length := by
        have h1 : ((List.range c.length).map fun i => D.int ((i : Nat) : Int))[dn.length]? = some x := by rw [← e]; simp
        rw [List.getElem?_map] at h1
        cases q : (List.range c.length)[dn.length]? with
        | none => rw [q] at h1; cases h1
        | some y =>
          rw [q] at h1
          obtain ⟨h2, h3⟩ := List.getElem?_eq_some_iff.mp q
          simp at h2 h3 h1
          subst h3
          rw [← h1, hj]
          exact ⟨rfl, by omega⟩
      obtain ⟨rfl, hjc⟩ := hx
      have hjr : j < r.length := by omega
      have ac := at_map (e := Vl.d) hjc
      have ar := at_map (e := Cn.d) hjr
      obtain ⟨hjf, hv⟩ := all2_at hc hjc
      obtain ⟨_, hk⟩ := all2_at hr hjr
      have key : ∀ b, letV r[j] c[j] = b → W (forB (clD T n) (.nm 2) [.set (.nm 3) (.ite (.isi (.idx (.var 1) (.var 2)) .int) (.cmp2 .le .le (.idx (.idx (.var 0) (.var 2)) (.lit (.int 0))) (.idx (.var 1) (.var 2)) (.idx (.idx (.var 0) (.var 2)) (.lit (.int 1)))) (.cmp .in_ (.idx (.var 1) (.var 2)) (.idx (.var 0) (.var 2)))), .ite (.not (.var 3)) [.ret (.lit (.bl false))] []] (.int (j : Int)) [some (.tup (r.map Cn.d)), some (.tup (c.map Vl.d)), z1, z2] st)
          fun p => p = (if b = true then .nx else .ret (.bl false), [some (.tup (r.map Cn.d)), some (.tup (c.map Vl.d)), some (.int (j : Int)), some (.bl b)], st) := by
        intro b hb
        generalize r[j] = k at *
        generalize c[j] = v at *
        have os := o.2.2 fm[j] (List.getElem_mem hjf)
        generalize fm[j] = sp at *
        cases v with
        | i m =>
          cases k with
          | r a d =>
            simp [w_scons, ac, ar, Vl.d, Cn.d, letV] at hb ⊢
            cases b <;> simp at hb <;> grind
          | n xs => cases sp <;> simp [letV, kin] at hv hk
        | s x =>
          cases k with
          | r a d => cases sp <;> simp [letV, kin] at hv hk
          | n xs =>
            cases sp with
            | r _ _ => simp [letV] at hv
            | n ns =>
              have hm : memD (.str x) (xs.map .str) = some (decide (x ∈ xs)) := by
                rw [memD_pl (x := .str x) (letV_s hv os) (strs_pl fun y hy => os.1 y (hk y hy)) (by simp [D.dp]) (by rw [strs_dp]; omega)]
                simp [mem_map_inj str_inj]
              simp [w_scons, ac, ar, Vl.d, Cn.d, letV, hm] at hb ⊢
              cases b <;> simp at hb <;> simp [hb]
      cases q : letV r[j] c[j] with
      | true =>
        refine (key true q).mono fun p hp => ?_
        subst hp
        simp
        refine fun i h h2 h3 => ?_
        by_cases e2 : i = j
        · subst e2; exact q
        · exact hall i h h2 (by omega)
      | false =>
        refine (key false q).mono fun p hp => ?_
        subst hp
        simp
        cases q2 : letL r c with
        | false => rfl
        | true =>
          rw [letL_iff (by omega)] at q2
          rw [q2 j hjr hjc] at q; cases q
    case fin =>
      subst hst
      refine ⟨rfl, .inl ⟨rfl, ?_⟩⟩
      rw [letL_iff (by omega)]
      intro i h h2
      exact hall i h h2 (by simp at hj; omega)
    case post =>
      obtain ⟨fl, env, st'⟩ := p
      obtain ⟨h1, ⟨h2, h3⟩ | ⟨h2, h3⟩⟩ := hp
      · simp only at h1 h2
        subst h1 h2
        simp [letR, h3]
      · simp only at h1 h2
        subst h1 h2
        simp [letR, h3]
theorem lawlets_ok {f : Str} (hf : T.fn f = some fdLets) {r : Rl} {c : Cs} (hr : ROf fm r) (hc : COf fm c) : callD T (n + 1) f [eR r, eC c] st = some (.bl (letR r c), st) := lawlets_k o hf (KOf_of hr) hc
end
/-! ### same -/
mutual
/-- none, bools, ints, texts, tuples of such -/
def D.cq : D → Bool
  | .non => true
  | .bl _ => true
  | .int _ => true
  | .str s => PyData.strOk s
  | .tup xs => D.cqs xs
  | _ => false
def D.cqs : List D → Bool
  | [] => true
  | x :: xs => D.cq x && D.cqs xs
end
mutual
def D.sz : D → Nat
  | .tup xs => D.szs xs + 1
  | _ => 1
def D.szs : List D → Nat
  | [] => 0
  | x :: xs => D.sz x + D.szs xs
end
theorem cqs_iff : ∀ {xs : List D}, D.cqs xs = true ↔ ∀ x ∈ xs, x.cq = true
  | [] => by simp [D.cqs]
  | y :: ys => by rw [D.cqs, Bool.and_eq_true, cqs_iff]; simp
theorem szs_append : ∀ (xs ys : List D), D.szs (xs ++ ys) = D.szs xs + D.szs ys
  | [], ys => by simp [D.szs]
  | x :: xs, ys => by rw [List.cons_append, D.szs, D.szs, szs_append xs ys]; omega
theorem sz_pos (d : D) : 1 ≤ d.sz := by cases d <;> simp [D.sz]
theorem szs_len : ∀ xs : List D, xs.length ≤ D.szs xs
  | [] => Nat.le_refl _
  | x :: xs => by rw [D.szs, List.length_cons]; have := szs_len xs; have := sz_pos x; omega
def sameBody : List St := [.set (.tp [.nm 3, .nm 4]) (.mt .pop (.var 2) []), .ite (.isi (.var 4) .tuple) [.ite (.or (.not (.isi (.var 3) .tuple)) (.cmp .ne (.bf .len [.var 3]) (.bf .len [.var 4]))) [.ret (.lit (.bl false))] [], .ex (.mt .extend (.var 2) [.comp false (.tup [.idx (.var 3) (.var 5), .idx (.var 4) (.var 5)]) (.nm 5) 1 [.bf .len [.var 4]] [] [5]])] [.ite (.cmp .is (.var 4) (.lit (.non))) [.ite (.cmp .isnt (.var 3) (.lit (.non))) [.ret (.lit (.bl false))] []] [.ite (.isi (.var 4) .bool) [.ite (.or (.not (.isi (.var 3) .bool)) (.cmp .ne (.var 3) (.var 4))) [.ret (.lit (.bl false))] []] [.ite (.isi (.var 4) .str) [.ite (.or (.not (.isi (.var 3) .str)) (.cmp .ne (.var 3) (.var 4))) [.ret (.lit (.bl false))] []] [.ite (.or (.not (.isi (.var 3) .int)) (.or (.isi (.var 3) .bool) (.cmp .ne (.var 3) (.var 4)))) [.ret (.lit (.bl false))] []]]]]]
def fdSame : FD := ⟨[("told" : Str), ("due" : Str)], 6, false, [
    .set (.nm 2) (.lst true [.tup [.var 0, .var 1]]),
    .whl (.cmp .gt (.bf .len [.var 2]) (.lit (.int 0))) sameBody,
    .ret (.lit (.bl true))]⟩
def dbl (d : D) : D := .tup [d, d]
@[simp] theorem dbl_eq {x : D} {xs : List D} : dbl x = .tup xs ↔ [x, x] = xs := by simp [dbl]
/-- what waits: the pairs of these -/
def Waits (st : Sto) (d : D) (m : Nat) (env : Env) (st' : Sto) : Prop := ∃ ds : List D, D.szs ds = m ∧ m ≤ 2 ^ 20 ∧ D.cqs ds = true ∧ (∃ z1 z2 z3, env = [some d, some d, some (.ref st.length), z1, z2, z3]) ∧ st' = st ++ [.lst (ds.map dbl)]
theorem same_ok {T : Tx} {n : Nat} {st : Sto} {f : Str} (hf : T.fn f = some fdSame) (hlap : 2 ^ 24 ≤ T.lap) {d : D} (hd : d.cq = true) (hz : d.sz ≤ 2 ^ 20) : callD T (n + 1) f [d, d] st = some (.bl true, st) := by
  rw [callD_eq hf]
  refine run_ret rfl rfl rfl ?_
  simp [fdSame, w_scons]
  refine (whl_inv (I := Waits st d) (fun p => p.1 = .nx ∧ ∃ ex, p.2.2 = st ++ ex) (fun m env st' ⟨ds, hm, hle, hcq, ⟨z1, z2, z3, he⟩, hst⟩ => ?step) d.sz T.lap _ _ (by omega) ⟨[d], by simp [D.szs], hz, by rw [D.cqs, hd]; rfl, ⟨_, _, _, rfl⟩, rfl⟩).mono fun p hp => ?post
  case step =>
    subst he hst
    have hg : ∀ xs : List D, (st ++ [Ob.lst xs])[st.length]? = some (.lst xs) := fun xs => by simp
    have hset : ∀ xs ys : List D, (st ++ [Ob.lst xs]).set st.length (.lst ys) = st ++ [.lst ys] := fun xs ys => by
      rw [List.set_append_right _ _ (Nat.le_refl _)]; simp
    rcases List.eq_nil_or_concat ds with e | ⟨q, x, e⟩
    · subst e
      simp [len_ref (hg _)]
    · rw [List.concat_eq_append] at e
      subst e
      have hsz := szs_append q [x]
      simp only [D.szs, Nat.add_zero] at hsz
      have hx1 := sz_pos x
      have hcx : x.cq = true := (cqs_iff.mp hcq) x (by simp)
      have hcq' : D.cqs q = true := cqs_iff.mpr fun y hy => (cqs_iff.mp hcq) y (by simp [hy])
      have hql := szs_len q
      have hpop := pop_ref (st := st ++ [.lst (q.map dbl ++ [dbl x])]) (n := st.length) (xs := q.map dbl) (d := dbl x) (by simp)
      rw [hset] at hpop
      have hl1 : bfD .len (st ++ [.lst (q.map dbl ++ [dbl x])]) [.ref st.length] = some (.int ((q.map dbl ++ [dbl x]).length : Int)) := len_ref (hg _)
      have hmo : mtOk .pop (st ++ [.lst (q.map dbl ++ [dbl x])]) (.ref st.length) = true := mtok_ref (hg _) (by simp)
      have hmo2 : mtOk .extend (st ++ [.lst (q.map dbl)]) (.ref st.length) = true := mtok_ref (hg _) (by simp)
      have less : ∀ z1 z2 z3, ∃ m', m' < m ∧ Waits st d m' [some d, some d, some (.ref st.length), z1, z2, z3] (st ++ [Ob.lst (q.map dbl)]) := fun z1 z2 z3 => ⟨D.szs q, by omega, q, rfl, by omega, hcq', ⟨_, _, _, rfl⟩, rfl⟩
      have hpos : (0 : Int) < (q.length : Int) + 1 := by omega
      simp [hl1]
      simp [sameBody, w_scons, hmo, hpop, hpos]
      cases x with
      | tup xs =>
        rw [D.sz] at hsz
        have hxl := szs_len xs
        have hcomp : ∀ z, compD [] (st ++ [Ob.lst (q.map dbl)]) (compB (clD T n) (.tup [.idx (.var 3) (.var 5), .idx (.var 4) (.var 5)]) (.nm 5) [] [5] [some d, some d, some (.ref st.length), some (.tup xs), some (.tup xs), z]) (rangeD 0 xs.length) (st ++ [Ob.lst (q.map dbl)]) = some (xs.map dbl, st ++ [Ob.lst (q.map dbl)]) := by
          intro z
          rw [range_map]
          have : xs.map dbl = (List.range xs.length).map fun i => dbl (xs.getD i .non) := by
            apply List.ext_getElem (by simp)
            intro i h1 h2
            simp at h1 ⊢
            rw [List.getElem?_eq_getElem h1]; rfl
          rw [this]
          refine comp_map fun i hi => ?_
          rw [← W_eq]
          have hi := List.mem_range.mp hi
          have ha : L2.atI xs (i : Int) = some xs[i] := by rw [at_nat, List.getElem?_eq_getElem hi]
          simp [ha, dbl, List.getElem?_eq_getElem hi]
        have hs : small62 (xs.length : Int) = true := small_of (by omega) (by omega)
        have hext := extend_ref (st := st ++ [.lst (q.map dbl)]) (n := st.length) (xs := q.map dbl) (ys := xs.map dbl) (hg _) (by rw [sizeLine_eq]; simp; omega)
        rw [hset] at hext
        have hb : xs.length ≤ sizeLine := by rw [sizeLine_eq]; omega
        have more : ∀ z1 z2 z3, ∃ m', m' < m ∧ Waits st d m' [some d, some d, some (.ref st.length), z1, z2, z3] (st ++ [Ob.lst (q.map dbl ++ xs.map dbl)]) := fun z1 z2 z3 => ⟨D.szs (q ++ xs), by rw [szs_append]; omega, q ++ xs, rfl, by rw [szs_append]; omega, cqs_iff.mpr fun y hy => by
          rcases List.mem_append.mp hy with h | h
          · exact cqs_iff.mp hcq' y h
          · rw [D.cq] at hcx; exact cqs_iff.mp hcx y h, ⟨_, _, _, rfl⟩, by rw [List.map_append]⟩
        simp [hcomp, src1 hs, hext, hb, hmo2, more]
      | non => simp [less]
      | bl b => simp [less]
      | int i => simp [less]
      | str z =>
        rw [D.cq] at hcx
        simp [less, ne_str hcx hcx]
      | _ => simp [D.cq] at hcx
  case post =>
    obtain ⟨fl, env, st'⟩ := p
    obtain ⟨h1, ex, h2⟩ := hp
    simp only at h1 h2
    subst h1 h2
    simp
end MP
end
section
set_option Elab.async false
set_option linter.all false
set_option maxRecDepth 100000
set_option maxHeartbeats 4000000
/-! LPy: all rules of a form. -/
namespace MP
open PySem
abbrev Form := List (Str × Cn)
def eFd (p : Str × Cn) : D := .tup [.str p.1, p.2.d]
def eF (fs : Form) : D := .tup (fs.map eFd)
/-- the spans of a form -/
def Form.fm (fs : Form) : Fm := fs.map (·.2)
def intsL (a b : Int) : List Int := (List.range (b - a).toNat).map fun i => a + (i : Nat)
theorem mem_intsL {a b x : Int} : x ∈ intsL a b ↔ a ≤ x ∧ x < b := by
  unfold intsL
  rw [List.mem_map]
  constructor
  · rintro ⟨i, hi, rfl⟩
    have := List.mem_range.mp hi
    omega
  · intro ⟨h1, h2⟩
    exact ⟨(x - a).toNat, List.mem_range.mpr (by omega), by omega⟩
theorem range_intsL (a b : Int) : rangeD a (b - a).toNat = (intsL a b).map .int := by
  unfold rangeD intsL
  rw [List.map_map]; rfl
/-- the names whose bits are set -/
def subT (xs : List Str) (m : Nat) : List Str := ((List.range xs.length).filter fun i => m.testBit i).map fun i => (xs[i]?).getD ⟨#[]⟩
def condsT : Cn → List Cn
  | .r a b => (intsL a (b + 1)).flatMap fun l => (intsL l (b + 1)).map fun m => .r l m
  | .n xs => (intsL 1 (2 ^ xs.length)).map fun m => .n (subT xs m.toNat)
def prodT (told : List (List Cn)) : List (List Cn) → List (List Cn)
  | [] => told
  | cs :: r => prodT (told.flatMap fun x => cs.map fun c => x ++ [c]) r
def rulesT (fm : Fm) : List Rl := none :: (prodT [[]] (fm.map condsT)).map some
/-! ### they are rules, and all of them -/
theorem mem_subT {xs : List Str} {m : Nat} {x : Str} : x ∈ subT xs m ↔ ∃ i, xs[i]? = some x ∧ m.testBit i = true := by
  unfold subT
  rw [List.mem_map]
  constructor
  · rintro ⟨i, hi, rfl⟩
    rw [List.mem_filter] at hi
    have := List.mem_range.mp hi.1
    exact ⟨i, by rw [List.getElem?_eq_getElem this]; rfl, hi.2⟩
  · rintro ⟨i, hi, h⟩
    have hl := (List.getElem?_eq_some_iff.mp hi).1
    exact ⟨i, List.mem_filter.mpr ⟨List.mem_range.mpr hl, h⟩, by rw [hi]; rfl⟩
theorem nodup_map_on {α β : Type} {f : α → β} {l : List α} (h : ∀ x ∈ l, ∀ y ∈ l, f x = f y → x = y) (hl : l.Nodup) : (l.map f).Nodup := by
  unfold List.Nodup
  rw [List.pairwise_map]
  refine List.Pairwise.imp_of_mem (fun {a b} ha hb hab e => hab (h a ha b hb e)) hl
theorem nodup_subT {xs : List Str} (h : xs.Nodup) (m : Nat) : (subT xs m).Nodup := by
  unfold subT
  refine nodup_map_on ?_ ((List.nodup_range).filter _)
  intro i hi j hj e
  rw [List.mem_filter] at hi hj
  have h1 := List.mem_range.mp hi.1
  have h2 := List.mem_range.mp hj.1
  rw [List.getElem?_eq_getElem h1, List.getElem?_eq_getElem h2] at e
  exact (List.getElem_inj h).mp e
theorem bits_of (p : Nat → Bool) : ∀ n : Nat, ∃ m, m < 2 ^ n ∧ ∀ i, m.testBit i = (decide (i < n) && p i)
  | 0 => ⟨0, by simp, by simp⟩
  | n + 1 => by
    obtain ⟨m, h1, h2⟩ := bits_of p n
    cases q : p n with
    | false =>
      refine ⟨m, by rw [Nat.pow_succ]; omega, fun i => ?_⟩
      rw [h2]
      by_cases e : i = n
      · subst e; simp [q]
      · by_cases h : i < n
        · simp [h, show i < n + 1 by omega]
        · simp [h, show ¬ i < n + 1 by omega]
    | true =>
      refine ⟨m ||| 2 ^ n, Nat.or_lt_two_pow (by rw [Nat.pow_succ]; omega) (by rw [Nat.pow_succ]; have := Nat.two_pow_pos n; omega), fun i => ?_⟩
      rw [Nat.testBit_or, h2, Nat.testBit_two_pow]
      by_cases e : i = n
      · subst e; simp [q]
      · have : decide (n = i) = false := by simp; omega
        rw [this, Bool.or_false]
        by_cases h : i < n
        · simp [h, show i < n + 1 by omega]
        · simp [h, show ¬ i < n + 1 by omega]
theorem conds_cin {sp k : Cn} (o : SpOk sp) (h : k ∈ condsT sp) : cin sp k := by
  cases sp with
  | r a b =>
    unfold condsT at h
    obtain ⟨l, hl, h⟩ := List.mem_flatMap.mp h
    obtain ⟨m, hm, rfl⟩ := List.mem_map.mp h
    have h1 := mem_intsL.mp hl
    have h2 := mem_intsL.mp hm
    show a ≤ l ∧ l ≤ m ∧ m ≤ b
    omega
  | n xs =>
    unfold condsT at h
    obtain ⟨m, hm, rfl⟩ := List.mem_map.mp h
    have h1 := mem_intsL.mp hm
    refine ⟨?_, fun x hx => ?_, nodup_subT o.2.2.1 _⟩
    · intro e
      obtain ⟨i, hi⟩ := Nat.exists_testBit_of_ne_zero (x := m.toNat) (by omega)
      have hil : i < xs.length := by
        refine Nat.lt_of_not_le fun c => ?_
        have : m.toNat < 2 ^ i := Nat.lt_of_lt_of_le (by
          have h2 := h1.2
          have : (m.toNat : Int) < ((2 ^ xs.length : Nat) : Int) := by push_cast; omega
          omega) (Nat.pow_le_pow_right (by omega) c)
        rw [Nat.testBit_lt_two_pow this] at hi; cases hi
      have := (mem_subT (xs := xs) (m := m.toNat) (x := xs[i])).mpr ⟨i, List.getElem?_eq_getElem hil, hi⟩
      rw [e] at this; simp at this
    · obtain ⟨i, hi, _⟩ := mem_subT.mp hx
      exact List.mem_of_getElem? hi
theorem conds_all {sp k : Cn} (o : SpOk sp) (h : cin sp k) : ∃ c ∈ condsT sp, ∀ v, letV c v = letV k v := by
  cases sp with
  | r a b =>
    cases k with
    | n _ => exact h.elim
    | r l m =>
      have h : a ≤ l ∧ l ≤ m ∧ m ≤ b := h
      exact ⟨.r l m, List.mem_flatMap.mpr ⟨l, mem_intsL.mpr (by omega), List.mem_map.mpr ⟨m, mem_intsL.mpr (by omega), rfl⟩⟩, fun _ => rfl⟩
  | n xs =>
    cases k with
    | r _ _ => exact h.elim
    | n ys =>
      obtain ⟨m, hm, hb⟩ := bits_of (fun i => decide ((xs[i]?).getD ⟨#[]⟩ ∈ ys)) xs.length
      have hmem : ∀ x, x ∈ subT xs m ↔ x ∈ ys := by
        intro x
        rw [mem_subT]
        constructor
        · rintro ⟨i, hi, ht⟩
          rw [hb, hi] at ht
          simp at ht; exact ht.2
        · intro hx
          obtain ⟨i, hi⟩ := List.mem_iff_getElem?.mp (h.2.1 x hx)
          refine ⟨i, hi, ?_⟩
          rw [hb, hi]
          have := (List.getElem?_eq_some_iff.mp hi).1
          simp [this, hx]
      have hm0 : m ≠ 0 := by
        rintro rfl
        obtain ⟨y, r, e⟩ := List.exists_cons_of_ne_nil h.1
        have := (hmem y).mpr (by rw [e]; simp)
        rw [mem_subT] at this
        obtain ⟨i, _, ht⟩ := this
        simp at ht
      refine ⟨.n (subT xs m), List.mem_map.mpr ⟨(m : Int), mem_intsL.mpr ⟨by omega, ?_⟩, by simp⟩, fun v => ?_⟩
      · have : ((m : Nat) : Int) < ((2 ^ xs.length : Nat) : Int) := by omega
        push_cast at this; exact this
      · cases v with
        | i _ => rfl
        | s x => simp only [letV]; rw [decide_eq_decide]; exact hmem x
theorem prodT_mem : ∀ {css : List (List Cn)} {told : List (List Cn)} {r : List Cn}, r ∈ prodT told css ↔ ∃ t ∈ told, ∃ u, r = t ++ u ∧ All2 (fun cs c => c ∈ cs) css u
  | [], told, r => by
    rw [prodT]
    constructor
    · intro h; exact ⟨r, h, [], by simp, .nil⟩
    · rintro ⟨t, ht, u, rfl, hu⟩
      cases hu; simpa using ht
  | cs :: css, told, r => by
    rw [prodT, prodT_mem]
    constructor
    · rintro ⟨t, ht, u, rfl, hu⟩
      obtain ⟨t0, h0, ht⟩ := List.mem_flatMap.mp ht
      obtain ⟨c, hc, rfl⟩ := List.mem_map.mp ht
      exact ⟨t0, h0, c :: u, by simp, .cons hc hu⟩
    · rintro ⟨t, ht, u, rfl, hu⟩
      cases hu with
      | @cons _ c _ u hc hu =>
        exact ⟨t ++ [c], List.mem_flatMap.mpr ⟨t, ht, List.mem_map.mpr ⟨c, hc, rfl⟩⟩, u, by simp, hu⟩
theorem all2_conds : ∀ {fm : Fm} {u : List Cn}, (∀ sp ∈ fm, SpOk sp) → All2 (fun cs c => c ∈ cs) (fm.map condsT) u → LOf fm u
  | [], _, _, .nil => .nil
  | sp :: fm, _, o, .cons h t => .cons (conds_cin (o sp List.mem_cons_self) h) (all2_conds (fun s hs => o s (List.mem_cons_of_mem _ hs)) t)
theorem rules_of {fm : Fm} (o : FmOk fm) {r : Rl} (h : r ∈ rulesT fm) : ROf fm r := by
  unfold rulesT at h
  rcases List.mem_cons.mp h with rfl | h
  · trivial
  · obtain ⟨u, hu, rfl⟩ := List.mem_map.mp h
    obtain ⟨t, ht, v, rfl, hv⟩ := prodT_mem.mp hu
    simp at ht
    subst ht
    exact all2_conds o.2.2 hv
theorem conds_pick : ∀ {fm : Fm} {k : List Cn}, (∀ sp ∈ fm, SpOk sp) → LOf fm k → ∃ u, All2 (fun cs c => c ∈ cs) (fm.map condsT) u ∧ ∀ c, letL u c = letL k c
  | [], _, _, .nil => ⟨[], .nil, fun _ => rfl⟩
  | sp :: fm, _, o, .cons h t => by
    obtain ⟨c, hc, e⟩ := conds_all (o sp List.mem_cons_self) h
    obtain ⟨u, hu, e2⟩ := conds_pick (fun s hs => o s (List.mem_cons_of_mem _ hs)) t
    refine ⟨c :: u, .cons hc hu, fun cs => ?_⟩
    cases cs with
    | nil => rfl
    | cons v cs => rw [letL, letL, e, e2]
theorem rules_all {fm : Fm} (o : FmOk fm) {r : Rl} (h : ROf fm r) : ∃ r' ∈ rulesT fm, ∀ c, letR r' c = letR r c := by
  cases r with
  | none => exact ⟨none, List.mem_cons_self, fun _ => rfl⟩
  | some k =>
    obtain ⟨u, hu, e⟩ := conds_pick o.2.2 h
    exact ⟨some u, List.mem_cons_of_mem _ (List.mem_map.mpr ⟨u, prodT_mem.mpr ⟨[], by simp, u, by simp, hu⟩, rfl⟩), fun c => e c⟩
end MP
end
section
set_option Elab.async false
set_option linter.all false
set_option maxRecDepth 100000
set_option maxHeartbeats 4000000
/-! LPz: the def that lists all rules. -/
namespace MP
open PySem
def rulesNum : List St := [.for_ (.nm 7) 2 [.idx (.var 3) (.lit (.int 0)), .bin .add (.idx (.var 3) (.lit (.int 1))) (.lit (.int 1))] [.ex (.mt .extend (.var 4) [.comp false (.tup [.var 7, .var 10]) (.nm 10) 2 [.var 7, .bin .add (.idx (.var 3) (.lit (.int 1))) (.lit (.int 1))] [] [10]])]]
def rulesNam : List St := [.for_ (.nm 8) 2 [.lit (.int 1), .bin .shl (.lit (.int 1)) (.bf .len [.var 3])] [.ex (.mt .append (.var 4) [.bf .tuple [.comp false (.idx (.var 3) (.var 11)) (.nm 11) 1 [.bf .len [.var 3]] [.cmp .eq (.bin .and (.bin .shr (.var 8) (.var 11)) (.lit (.int 1))) (.lit (.int 1))] [11]]])]]
def rulesLong : List St := [.set (.nm 5) (.lst true []), .for_ (.nm 6) 0 [.var 1] [.ex (.mt .extend (.var 5) [.comp false (.bin .add (.var 6) (.tup [.var 9])) (.nm 9) 0 [.var 4] [] [9]])], .set (.nm 1) (.var 5)]
def rulesBody : List St := .set (.nm 4) (.lst true []) :: .ite (.isi (.idx (.var 3) (.lit (.int 0))) .int) rulesNum rulesNam :: rulesLong
def fdRules : FD := ⟨[("form" : Str)], 12, false, [
    .set (.nm 1) (.lst false [.tup []]),
    .for_ (.tp [.nm 2, .nm 3]) 0 [.var 0] rulesBody,
    .ret (.bin .add (.lst false [.lit (.non)]) (.var 1))]⟩
def eRow (r : List Cn) : D := .tup (r.map Cn.d)
/-- how a list stands: by value, or in the store -/
def Stands (s : Sto) (d : D) (xs : List D) : Prop := d = .lst xs ∨ ∃ m, d = .ref m ∧ s[m]? = some (.lst xs)
theorem Stands.src {s : Sto} {d : D} {xs : List D} (h : Stands s d xs) : srcD s 0 [d] = some xs := by
  rcases h with rfl | ⟨m, rfl, h⟩
  · rfl
  · exact src_ref h
theorem Stands.list {s : Sto} {d : D} {xs : List D} (h : Stands s d xs) : listOf s d = some xs := by
  rcases h with rfl | ⟨m, rfl, h⟩
  · rfl
  · exact list_ref h
theorem same_of {ns : List Nat} {s s' : Sto} (h : ∀ m ∈ ns, s'[m]? = s[m]?) : sameAt ns s s' = true := by
  unfold sameAt
  rw [List.all_eq_true]
  intro m hm
  rw [decide_eq_true_eq, h m hm]
theorem Stands.same {s ls : Sto} {d : D} {xs : List D} (h : Stands s d xs) : sameAt (srcRefs [d]) s (s ++ ls) = true := by
  rcases h with rfl | ⟨m, rfl, h⟩
  · rfl
  · refine same_of fun k hk => ?_
    have hk : k = m := by simpa using hk
    subst hk
    rw [List.getElem?_append_left (List.getElem?_eq_some_iff.mp h).1]
theorem Stands.app {s ls : Sto} {d : D} {xs : List D} (h : Stands s d xs) : Stands (s ++ ls) d xs := by
  rcases h with rfl | ⟨m, rfl, h⟩
  · exact .inl rfl
  · exact .inr ⟨m, rfl, by rw [List.getElem?_append_left (List.getElem?_eq_some_iff.mp h).1]; exact h⟩
theorem add_lists {s : Sto} {a d : D} {xs ys : List D} (ha : Stands s a xs) (h : Stands s d ys) (hl : xs.length + ys.length ≤ sizeLine) : binD .add s a d = some (.lst (xs ++ ys)) := by
  have h1 := ha.list
  have h2 := h.list
  rcases ha with rfl | ⟨m, rfl, _⟩ <;> rcases h with rfl | ⟨k, rfl, _⟩ <;> simp [binD, h1, h2, hl]
theorem map_split {α : Type} {f : α → D} (hf : ∀ a b, f a = f b → a = b) {dn : List α} {x : α} {r : List D} {xs : List α} (e : dn.map f ++ f x :: r = xs.map f) : ∃ rest, xs = dn ++ x :: rest := by
  have e2 : r = (xs.drop (dn.length + 1)).map f := by
    have := congrArg (List.drop (dn.length + 1)) e
    rw [← List.map_drop] at this
    rw [← this, List.drop_append]
    simp
  rw [e2, ← List.map_cons (f := f), ← List.map_append] at e
  exact ⟨_, (map_inj hf e).symm⟩
theorem int_inj (a b : Int) (h : D.int a = D.int b) : a = b := by simpa using h
theorem flat_le {α β : Type} (g : α → List β) {dn rest : List α} {x : α} : (dn.flatMap g).length + (g x).length ≤ ((dn ++ x :: rest).flatMap g).length := by
  rw [List.flatMap_append, List.flatMap_cons]; simp
section
variable {T : Tx} {n : Nat}
/-- the conditions of a span of numbers -/
theorem num_ok {s : Sto} {N : Nat} (hN : s.length = N) {a b : Int} (hb : -1000000 ≤ a ∧ a ≤ 1000000 ∧ -1000000 ≤ b ∧ b ≤ 1000000) (hc : (condsT (.r a b)).length ≤ 200) {e0 e1 e2 e5 e6 e7 e8 e9 e10 e11 : Option D} :
    W (evSs (clD T n) rulesNum [e0, e1, e2, some (Cn.r a b).d, some (.ref N), e5, e6, e7, e8, e9, e10, e11] (s ++ [.lst []])) fun p => ∃ z, p = (.nx, [e0, e1, e2, some (Cn.r a b).d, some (.ref N), e5, e6, z, e8, e9, e10, e11], s ++ [.lst ((condsT (.r a b)).map Cn.d)]) := by
  have h1 : small62 a = true := small_of (by omega) (by omega)
  have h2 : small62 (b + 1) = true := small_of (by omega) (by omega)
  simp [rulesNum, w_scons, Cn.d, src2 h1 h2]
  rw [range_intsL]
  refine (for_inv (I := fun dn env st' => ∃ ls : List Int, dn = ls.map .int ∧ (∃ z, env = [e0, e1, e2, some (.tup [.int a, .int b]), some (.ref N), e5, e6, z, e8, e9, e10, e11]) ∧ st' = s ++ [.lst ((ls.flatMap fun l => (intsL l (b + 1)).map fun m => Cn.r l m).map Cn.d)]) (R := fun p => ∃ z, p = (.nx, [e0, e1, e2, some (.tup [.int a, .int b]), some (.ref N), e5, e6, z, e8, e9, e10, e11], s ++ [.lst ((condsT (.r a b)).map Cn.d)])) (fun _ _ _ _ => same_nil) (fun dn x r env st' e ⟨ls, hdn, ⟨z, he⟩, hst⟩ => ?step) (fun env st' ⟨ls, hdn, ⟨z, he⟩, hst⟩ => ?fin) ⟨[], rfl, ⟨_, rfl⟩, rfl⟩).mono fun p hp => ?post
  case step =>
    obtain ⟨l, rfl, hl⟩ : ∃ l, x = .int l ∧ l ∈ intsL a (b + 1) := by
      have : x ∈ (intsL a (b + 1)).map D.int := by rw [← e]; simp
      obtain ⟨l, hl, rfl⟩ := List.mem_map.mp this
      exact ⟨l, rfl, hl⟩
    subst he hst hdn
    obtain ⟨rest, hrest⟩ := map_split int_inj e
    have hbound : ((ls.flatMap fun l => (intsL l (b + 1)).map fun m => Cn.r l m).map Cn.d).length + ((intsL l (b + 1)).map fun m => D.tup [.int l, .int m]).length ≤ 200 := by
      have := flat_le (fun l => (intsL l (b + 1)).map fun m => Cn.r l m) (dn := ls) (x := l) (rest := rest)
      rw [← hrest] at this
      simp only [condsT] at hc
      simp only [List.length_map] at this ⊢
      omega
    have hl2 := mem_intsL.mp hl
    have h3 : small62 l = true := small_of (by omega) (by omega)
    have hnew : ((ls ++ [l]).flatMap fun l => (intsL l (b + 1)).map fun m => Cn.r l m).map Cn.d = (ls.flatMap fun l => (intsL l (b + 1)).map fun m => Cn.r l m).map Cn.d ++ (intsL l (b + 1)).map fun m => D.tup [.int l, .int m] := by
      rw [List.flatMap_append, List.map_append]
      simp [Cn.d]
    generalize hcur : (ls.flatMap fun l => (intsL l (b + 1)).map fun m => Cn.r l m).map Cn.d = cur at *
    have hg : (s ++ [Ob.lst cur])[N]? = some (.lst cur) := by rw [gk0 hN]; rfl
    have hcomp : compD [] (s ++ [Ob.lst cur]) (compB (clD T n) (.tup [.var 7, .var 10]) (.nm 10) [] [10] [e0, e1, e2, some (.tup [.int a, .int b]), some (.ref N), e5, e6, some (.int l), e8, e9, e10, e11]) (rangeD l (b + 1 - l).toNat) (s ++ [Ob.lst cur]) = some ((intsL l (b + 1)).map fun m => D.tup [.int l, .int m], s ++ [Ob.lst cur]) := by
      rw [range_intsL]
      refine comp_map fun m _ => ?_
      rw [← W_eq]
      simp
    have hlen : (intsL l (b + 1)).length ≤ 200 := by simp only [List.length_map] at hbound; omega
    have hlen2 : (b + 1 - l).toNat ≤ sizeLine := by
      have : (intsL l (b + 1)).length = (b + 1 - l).toNat := by simp [intsL]
      rw [sizeLine_eq]; omega
    have hext := extend_ref hg (ys := (intsL l (b + 1)).map fun m => D.tup [.int l, .int m]) (by rw [sizeLine_eq]; omega)
    rw [sk0 hN] at hext
    simp [w_scons, mtok_ref hg, src2 h3 h2, hcomp, hext, hlen2]
    exact ⟨ls ++ [l], by simp, by rw [hnew]⟩
  case fin =>
    subst he hst
    have : intsL a (b + 1) = ls := map_inj int_inj hdn
    subst this
    exact ⟨_, rfl⟩
  case post =>
    obtain ⟨z, rfl⟩ := hp
    simp
/-- the conditions of a span of names -/
theorem nam_ok {s : Sto} {N : Nat} (hN : s.length = N) {xs : List Str} (hx : xs.length ≤ 7) {e0 e1 e2 e5 e6 e7 e8 e9 e10 e11 : Option D} :
    W (evSs (clD T n) rulesNam [e0, e1, e2, some (Cn.n xs).d, some (.ref N), e5, e6, e7, e8, e9, e10, e11] (s ++ [.lst []])) fun p => ∃ z, p = (.nx, [e0, e1, e2, some (Cn.n xs).d, some (.ref N), e5, e6, e7, z, e9, e10, e11], s ++ [.lst ((condsT (.n xs)).map Cn.d)]) := by
  have hp : (2 : Int) ^ xs.length ≤ 2 ^ 7 := by
    have := Nat.pow_le_pow_right (n := 2) (by omega) hx
    have h2 : ((2 ^ xs.length : Nat) : Int) ≤ ((2 ^ 7 : Nat) : Int) := Int.ofNat_le.mpr this
    push_cast at h2; exact h2
  have hp0 : (0 : Int) < 2 ^ xs.length := Int.pow_pos (by omega)
  have h1 : small62 1 = true := by decide
  have h2 : small62 (2 ^ xs.length) = true := small_of (by omega) (by omega)
  have hsh : ∀ st, binD .shl st (.int 1) (.int (xs.length : Int)) = some (.int (2 ^ xs.length)) := fun st => by
    show (if 0 ≤ (xs.length : Int) ∧ (xs.length : Int) ≤ 1000000 ∧ (1 : Int).natAbs < 2 ^ 64 then _ else _) = _
    rw [if_pos ⟨by omega, by omega, by decide⟩]
    simp
  simp [rulesNam, w_scons, Cn.d, hsh, src2 h1 h2]
  have hR : rangeD 1 (((2 : Int) ^ xs.length).toNat - 1) = (intsL 1 (2 ^ xs.length)).map .int := by
    rw [← range_intsL, show ∀ t : Int, t.toNat - 1 = (t - 1).toNat from fun t => by omega]
  rw [hR]
  refine (for_inv (I := fun dn env st' => ∃ ls : List Int, dn = ls.map .int ∧ (∃ z, env = [e0, e1, e2, some (.tup (xs.map .str)), some (.ref N), e5, e6, e7, z, e9, e10, e11]) ∧ st' = s ++ [.lst ((ls.map fun m => Cn.n (subT xs m.toNat)).map Cn.d)]) (R := fun p => ∃ z, p = (.nx, [e0, e1, e2, some (.tup (xs.map .str)), some (.ref N), e5, e6, e7, z, e9, e10, e11], s ++ [.lst ((condsT (.n xs)).map Cn.d)])) (fun _ _ _ _ => same_nil) (fun dn x r env st' e ⟨ls, hdn, ⟨z, he⟩, hst⟩ => ?step) (fun env st' ⟨ls, hdn, ⟨z, he⟩, hst⟩ => ?fin) ⟨[], rfl, ⟨_, rfl⟩, rfl⟩).mono fun p hp => ?post
  case step =>
    obtain ⟨m, rfl, hm⟩ : ∃ m, x = .int m ∧ m ∈ intsL 1 (2 ^ xs.length) := by
      have : x ∈ (intsL 1 (2 ^ xs.length)).map D.int := by rw [← e]; simp
      obtain ⟨l, hl, rfl⟩ := List.mem_map.mp this
      exact ⟨l, rfl, hl⟩
    subst he hst hdn
    have hbound : ((ls.map fun m => Cn.n (subT xs m.toNat)).map Cn.d).length < 200 := by
      have h3 := congrArg List.length e
      have h4 : (intsL 1 (2 ^ xs.length)).length = (2 ^ xs.length - 1 : Int).toNat := by simp [intsL]
      simp only [List.length_append, List.length_map, List.length_cons] at h3 ⊢
      omega
    have hm2 := mem_intsL.mp hm
    have hnew : ((ls ++ [m]).map fun m => Cn.n (subT xs m.toNat)).map Cn.d = (ls.map fun m => Cn.n (subT xs m.toNat)).map Cn.d ++ [.tup ((subT xs m.toNat).map .str)] := by simp [Cn.d]
    generalize hcur : (ls.map fun m => Cn.n (subT xs m.toNat)).map Cn.d = cur at *
    have hg : (s ++ [Ob.lst cur])[N]? = some (.lst cur) := by rw [gk0 hN]; rfl
    have hsmall : small62 (xs.length : Int) = true := small_of (by omega) (by omega)
    have hshr : ∀ st (i : Nat), binD .shr st (.int m) (.int (i : Int)) = some (.int (m / 2 ^ i)) := fun st i => by
      simp [binD]
    have hand : ∀ st (i : Int), binD .and st (.int i) (.int 1) = some (.int (i % 2)) := fun st i => by
      show some (D.int (Builtin.bitAnd i 1)) = _
      rw [PyProof.Rows.bitAnd_m1]
    have hbit : ∀ i : Nat, decide (m / 2 ^ i % 2 = 1) = m.toNat.testBit i := fun i => by
      rw [Nat.testBit_eq_decide_div_mod_eq, decide_eq_decide]
      have : m = (m.toNat : Int) := by omega
      constructor
      · intro h
        rw [this] at h
        have h5 : ((m.toNat / 2 ^ i % 2 : Nat) : Int) = 1 := by push_cast; exact h
        omega
      · intro h
        rw [this]
        have h5 : ((m.toNat / 2 ^ i % 2 : Nat) : Int) = 1 := by rw [h]; rfl
        push_cast at h5; exact h5
    have hcomp : compD [] (s ++ [Ob.lst cur]) (compB (clD T n) (.idx (.var 3) (.var 11)) (.nm 11) [.cmp .eq (.bin .and (.bin .shr (.var 8) (.var 11)) (.lit (.int 1))) (.lit (.int 1))] [11] [e0, e1, e2, some (.tup (xs.map .str)), some (.ref N), e5, e6, e7, some (.int m), e9, e10, e11]) (rangeD 0 xs.length) (s ++ [Ob.lst cur]) = some ((subT xs m.toNat).map .str, s ++ [Ob.lst cur]) := by
      rw [range_map]
      unfold subT
      rw [List.map_map]
      refine comp_filter fun i hi => ?_
      rw [← W_eq]
      have hi := List.mem_range.mp hi
      have ha := at_map (e := D.str) hi
      simp [hshr, hand, hbit, ha, List.getElem?_eq_getElem hi]
    have happ := append_ref hg (d := .tup ((subT xs m.toNat).map .str)) (by rw [sizeLine_eq]; omega)
    rw [sk0 hN] at happ
    have hl2 : xs.length ≤ sizeLine := by rw [sizeLine_eq]; omega
    simp [w_scons, mtok_ref hg, src1 hsmall, hcomp, happ, hl2]
    exact ⟨ls ++ [m], by simp, by rw [← List.map_map, hnew]⟩
  case fin =>
    subst he hst
    have : intsL 1 (2 ^ xs.length) = ls := map_inj int_inj hdn
    subst this
    exact ⟨_, rfl⟩
  case post =>
    obtain ⟨z, rfl⟩ := hp
    simp
def longer (rows : List (List Cn)) (cs : List Cn) : List (List Cn) := rows.flatMap fun x => cs.map fun c => x ++ [c]
theorem longer_len (rows : List (List Cn)) (cs : List Cn) : (longer rows cs).length = rows.length * cs.length := by
  unfold longer
  induction rows with
  | nil => simp
  | cons r rows ih => rw [List.flatMap_cons, List.length_append, ih, List.length_map, List.length_cons, Nat.succ_mul]; omega
theorem prodT_snoc : ∀ (css : List (List Cn)) (cs : List Cn) (told : List (List Cn)), prodT told (css ++ [cs]) = longer (prodT told css) cs
  | [], cs, told => rfl
  | c :: css, cs, told => by rw [List.cons_append, prodT, prodT, prodT_snoc css cs]
theorem prodT_len : ∀ {css : List (List Cn)} {told : List (List Cn)}, (∀ cs ∈ css, cs.length ≤ 200) → (prodT told css).length ≤ told.length * 200 ^ css.length
  | [], told, _ => by simp [prodT]
  | c :: css, told, h => by
    rw [prodT]
    refine Nat.le_trans (prodT_len fun cs hcs => h cs (List.mem_cons_of_mem _ hcs)) ?_
    have h1 := longer_len told c
    unfold longer at h1
    rw [h1, List.length_cons, Nat.pow_succ, Nat.mul_comm (200 ^ css.length), ← Nat.mul_assoc]
    exact Nat.mul_le_mul_right _ (Nat.mul_le_mul_left _ (h c List.mem_cons_self))
theorem prodT_row : ∀ {css : List (List Cn)} {told : List (List Cn)} {k : Nat}, (∀ t ∈ told, t.length = k) → ∀ r ∈ prodT told css, r.length = k + css.length
  | [], told, k, h, r, hr => by rw [prodT] at hr; simpa using h r hr
  | c :: css, told, k, h, r, hr => by
    rw [prodT] at hr
    have := prodT_row (k := k + 1) (fun t ht => by
      obtain ⟨t0, h0, ht⟩ := List.mem_flatMap.mp ht
      obtain ⟨x, _, rfl⟩ := List.mem_map.mp ht
      simp [h t0 h0]) r hr
    rw [this, List.length_cons]; omega
theorem cn_inj (a b : Cn) (h : a.d = b.d) : a = b := by
  cases a with
  | r a1 a2 =>
    cases b with
    | r b1 b2 => simp [Cn.d] at h; simp [h]
    | n ys =>
      simp only [Cn.d, D.tup.injEq] at h
      cases ys with
      | nil => simp at h
      | cons y ys => simp at h
  | n xs =>
    cases b with
    | r b1 b2 =>
      simp only [Cn.d, D.tup.injEq] at h
      cases xs with
      | nil => simp at h
      | cons y ys => simp at h
    | n ys =>
      simp only [Cn.d, D.tup.injEq] at h
      rw [map_inj str_inj h]
theorem eRow_inj (a b : List Cn) (h : eRow a = eRow b) : a = b := by
  simp only [eRow, D.tup.injEq] at h
  exact map_inj cn_inj h
theorem long_ok {s : Sto} {N : Nat} (hN : s.length = N) {td : D} {rows : List (List Cn)} {cs : List Cn} (ht : Stands s td (rows.map eRow)) (hb : rows.length * cs.length ≤ 8000000) (hc : cs.length ≤ 200) (hr : ∀ r ∈ rows, r.length ≤ 20) {e0 e2 e3 e5 e6 e7 e8 e9 e10 e11 : Option D} :
    W (evSs (clD T n) rulesLong [e0, some td, e2, e3, some (.ref N), e5, e6, e7, e8, e9, e10, e11] (s ++ [.lst (cs.map Cn.d)])) fun p => ∃ z5 z6, p = (.nx, [e0, some (.ref (N + 1)), e2, e3, some (.ref N), z5, z6, e7, e8, e9, e10, e11], s ++ [.lst (cs.map Cn.d), .lst ((longer rows cs).map eRow)]) := by
  have hlen : (s ++ [Ob.lst (cs.map Cn.d)]).length = N + 1 := by simp [hN]
  simp [rulesLong, w_scons, hN, (ht.app (ls := [.lst (cs.map Cn.d), .lst []])).src]
  refine (for_inv (I := fun dn env st' => ∃ rs : List (List Cn), dn = rs.map eRow ∧ (∃ z, env = [e0, some td, e2, e3, some (.ref N), some (.ref (N + 1)), z, e7, e8, e9, e10, e11]) ∧ st' = s ++ [.lst (cs.map Cn.d), .lst ((longer rs cs).map eRow)]) (R := fun p => ∃ z, p = (.nx, [e0, some td, e2, e3, some (.ref N), some (.ref (N + 1)), z, e7, e8, e9, e10, e11], s ++ [.lst (cs.map Cn.d), .lst ((longer rows cs).map eRow)])) (fun dn env st' ⟨rs, _, _, hst⟩ => ?same) (fun dn x r env st' e ⟨rs, hdn, ⟨z, he⟩, hst⟩ => ?step) (fun env st' ⟨rs, hdn, ⟨z, he⟩, hst⟩ => ?fin) ⟨[], rfl, ⟨_, rfl⟩, rfl⟩).mono fun p hp => ?post
  case same =>
    subst hst
    rcases ht with rfl | ⟨m, rfl, h⟩
    · rfl
    · refine same_of fun k hk => ?_
      have hk : k = m := by simpa using hk
      subst hk
      have hm := (List.getElem?_eq_some_iff.mp h).1
      rw [List.getElem?_append_left hm, List.getElem?_append_left hm]
  case step =>
    obtain ⟨y, rfl, hy⟩ : ∃ y, x = eRow y ∧ y ∈ rows := by
      have : x ∈ rows.map eRow := by rw [← e]; simp
      obtain ⟨y, hy, rfl⟩ := List.mem_map.mp this
      exact ⟨y, rfl, hy⟩
    subst he hst
    have hg0 : (s ++ [Ob.lst (cs.map Cn.d), .lst ((longer rs cs).map eRow)])[N]? = some (.lst (cs.map Cn.d)) := by rw [gk0 hN]; rfl
    have hg1 : (s ++ [Ob.lst (cs.map Cn.d), .lst ((longer rs cs).map eRow)])[N + 1]? = some (.lst ((longer rs cs).map eRow)) := by rw [gk hN]; rfl
    have hrl : rs.length < rows.length := by
      have := congrArg List.length e
      rw [hdn] at this
      simp at this; omega
    have hbound : (longer rs cs).length + cs.length ≤ 8000000 := by
      rw [longer_len]
      have : (rs.length + 1) * cs.length ≤ rows.length * cs.length := Nat.mul_le_mul_right _ hrl
      rw [Nat.succ_mul] at this; omega
    have hyl := hr y hy
    have hadd : ∀ st c, binD .add st (eRow y) (.tup [Cn.d c]) = some (eRow (y ++ [c])) := fun st c => by
      rw [eRow, add_tup (by rw [sizeLine_eq]; simp; omega), eRow, List.map_append]; rfl
    have hcomp : compD [N] (s ++ [Ob.lst (cs.map Cn.d), .lst ((longer rs cs).map eRow)]) (compB (clD T n) (.bin .add (.var 6) (.tup [.var 9])) (.nm 9) [] [9] [e0, some td, e2, e3, some (.ref N), some (.ref (N + 1)), some (eRow y), e7, e8, e9, e10, e11]) (cs.map Cn.d) (s ++ [Ob.lst (cs.map Cn.d), .lst ((longer rs cs).map eRow)]) = some (cs.map fun c => eRow (y ++ [c]), s ++ [Ob.lst (cs.map Cn.d), .lst ((longer rs cs).map eRow)]) := by
      refine comp_map fun c _ => ?_
      rw [← W_eq]
      simp [hadd]
    have hext := extend_ref hg1 (ys := cs.map fun c => eRow (y ++ [c])) (by rw [sizeLine_eq]; simp; omega)
    rw [sk hN] at hext
    have hcl : cs.length ≤ sizeLine := by rw [sizeLine_eq]; omega
    simp [w_scons, mtok_ref hg1, src_ref hg0, hcomp, hext, hcl]
    exact ⟨rs ++ [y], by simp [hdn], by simp [longer]⟩
  case fin =>
    subst he hst
    refine ⟨z, ?_⟩
    rw [map_inj eRow_inj hdn]
  case post =>
    obtain ⟨z, rfl⟩ := hp
    simp
/-- how the rows stand behind some fields -/
def RI (st : Sto) (fs : Form) (dn : List D) (env : Env) (st' : Sto) : Prop := ∃ (j : Nat) (td : D) (ex : Sto), dn = (fs.take j).map eFd ∧ j ≤ fs.length ∧ (∃ e2 e3 e4 e5 e6 e7 e8 e9 e10 e11, env = [some (.tup (fs.map eFd)), some td, e2, e3, e4, e5, e6, e7, e8, e9, e10, e11]) ∧ st' = st ++ ex ∧ Stands st' td ((prodT [[]] ((fs.fm.take j).map condsT)).map eRow)
def RF (st : Sto) (fs : Form) (p : Fl × Env × Sto) : Prop := p.1 = .nx ∧ ∃ (td : D) (ex : Sto) (e2 e3 e4 e5 e6 e7 e8 e9 e10 e11 : Option D), p.2 = ([some (.tup (fs.map eFd)), some td, e2, e3, e4, e5, e6, e7, e8, e9, e10, e11], st ++ ex) ∧ Stands (st ++ ex) td ((prodT [[]] (fs.fm.map condsT)).map eRow)
theorem prod_le {fs : Form} (hc : ∀ sp ∈ fs.fm, (condsT sp).length ≤ 200) (hl : fs.length ≤ 3) (i : Nat) : (prodT [[]] ((fs.fm.take i).map condsT)).length ≤ 8000000 := by
  have h1 := prodT_len (told := [[]]) (css := (fs.fm.take i).map condsT) (fun cs hcs => by
    obtain ⟨sp, hsp, rfl⟩ := List.mem_map.mp hcs
    exact hc sp (List.mem_of_mem_take hsp))
  have h2 : ((fs.fm.take i).map condsT).length ≤ 3 := by simp [Form.fm]; omega
  have h3 : 200 ^ ((fs.fm.take i).map condsT).length ≤ 200 ^ 3 := Nat.pow_le_pow_right (by omega) h2
  generalize 200 ^ ((fs.fm.take i).map condsT).length = q at *
  have h4 : ([[]] : List (List Cn)).length = 1 := rfl
  rw [h4] at h1
  omega
theorem rules_step {st st' : Sto} {fs : Form} (o : FmOk fs.fm) (hc : ∀ sp ∈ fs.fm, (condsT sp).length ≤ 200) (hl : fs.length ≤ 3) {dn r : List D} {x : D} {env : Env} (e : dn ++ x :: r = fs.map eFd) (h : RI st fs dn env st') : ∃ env' st'', forB (clD T n) (.tp [.nm 2, .nm 3]) rulesBody x env st' = some (.nx, env', st'') ∧ RI st fs (dn ++ [x]) env' st'' := by
  obtain ⟨j, td, ex, hdn, hj, ⟨e2, e3, e4, e5, e6, e7, e8, e9, e10, e11, he⟩, hst, hs⟩ := h
  subst he
  have hdl : dn.length = j := by rw [hdn]; simp; omega
  have hx : ∃ h : j < fs.length, x = eFd fs[j] := by
    have h1 : (fs.map eFd)[dn.length]? = some x := by rw [← e]; simp
    rw [hdl, List.getElem?_map] at h1
    cases q : fs[j]? with
    | none => rw [q] at h1; cases h1
    | some y =>
      rw [q] at h1
      obtain ⟨h2, h3⟩ := List.getElem?_eq_some_iff.mp q
      exact ⟨h2, by rw [h3]; exact (Option.some.inj h1).symm⟩
  obtain ⟨hjl, rfl⟩ := hx
  have hsp : fs[j].2 ∈ fs.fm := List.mem_map.mpr ⟨fs[j], List.getElem_mem hjl, rfl⟩
  have os := o.2.2 _ hsp
  have hcl := hc _ hsp
  have htake : (fs.fm.take (j + 1)).map condsT = (fs.fm.take j).map condsT ++ [condsT fs[j].2] := by
    have : j < fs.fm.length := by simp [Form.fm]; omega
    rw [List.take_succ_eq_append_getElem this, List.map_append]
    simp [Form.fm]
  have hpj := prod_le hc hl (j + 1)
  rw [htake, prodT_snoc, longer_len] at hpj
  have hrow : ∀ r ∈ prodT [[]] ((fs.fm.take j).map condsT), r.length ≤ 20 := fun r hr => by
    have := prodT_row (told := [[]]) (k := 0) (by simp) r hr
    simp [Form.fm] at this; omega
  have conds : ∃ b : Bool, (∀ s, evE (clD T n) (.isi (.idx (.var 3) (.lit (.int 0))) .int) [some (.tup (fs.map eFd)), some td, some (.str fs[j].1), some fs[j].2.d, some (.ref st'.length), e5, e6, e7, e8, e9, e10, e11] s = some (.bl b, s)) ∧ ∃ z7 z8, evSs (clD T n) (if b = true then rulesNum else rulesNam) [some (.tup (fs.map eFd)), some td, some (.str fs[j].1), some fs[j].2.d, some (.ref st'.length), e5, e6, e7, e8, e9, e10, e11] (st' ++ [.lst []]) = some (.nx, [some (.tup (fs.map eFd)), some td, some (.str fs[j].1), some fs[j].2.d, some (.ref st'.length), e5, e6, z7, z8, e9, e10, e11], st' ++ [.lst ((condsT fs[j].2).map Cn.d)]) := by
    cases q : fs[j].2 with
    | r a b =>
      rw [q] at os hcl
      have os : a ≤ b ∧ -100000 ≤ a ∧ b ≤ 100000 := os
      refine ⟨true, fun s => W.eq1 (by simp [Cn.d]), ?_⟩
      obtain ⟨p, hp, z, hz⟩ := num_ok (T := T) (n := n) (s := st') rfl (by omega) hcl
      subst hz
      exact ⟨z, _, hp⟩
    | n xs =>
      rw [q] at os
      obtain ⟨y, ys, hys⟩ := List.exists_cons_of_ne_nil os.2.2.2
      refine ⟨false, fun s => W.eq1 (by subst hys; simp [Cn.d]), ?_⟩
      obtain ⟨p, hp, z, hz⟩ := nam_ok (T := T) (n := n) (s := st') rfl (xs := xs) (by have := os.2.1; omega)
      subst hz
      exact ⟨_, z, hp⟩
  obtain ⟨b, ht, z7, z8, hcond⟩ := conds
  obtain ⟨p, hp, z5, z6, hz⟩ := long_ok (T := T) (n := n) (s := st') rfl hs (cs := condsT fs[j].2) hpj hcl hrow (e0 := some (.tup (fs.map eFd))) (e2 := some (.str fs[j].1)) (e3 := some fs[j].2.d) (e5 := e5) (e6 := e6) (e7 := z7) (e8 := z8) (e9 := e9) (e10 := e10) (e11 := e11)
  subst hz
  have hif : evS (clD T n) (.ite (.isi (.idx (.var 3) (.lit (.int 0))) .int) rulesNum rulesNam) [some (.tup (fs.map eFd)), some td, some (.str fs[j].1), some fs[j].2.d, some (.ref st'.length), e5, e6, e7, e8, e9, e10, e11] (st' ++ [.lst []]) = some (.nx, [some (.tup (fs.map eFd)), some td, some (.str fs[j].1), some fs[j].2.d, some (.ref st'.length), e5, e6, z7, z8, e9, e10, e11], st' ++ [.lst ((condsT fs[j].2).map Cn.d)]) := by
    rw [evS, ht]
    cases b <;> exact hcond
  have hset : evS (clD T n) (.set (.nm 4) (.lst true [])) [some (.tup (fs.map eFd)), some td, some (.str fs[j].1), some fs[j].2.d, e4, e5, e6, e7, e8, e9, e10, e11] st' = some (.nx, [some (.tup (fs.map eFd)), some td, some (.str fs[j].1), some fs[j].2.d, some (.ref st'.length), e5, e6, e7, e8, e9, e10, e11], st' ++ [.lst []]) := W.eq1 (by simp)
  refine ⟨_, _, (show forB _ _ _ _ _ _ = evSs (clD T n) rulesBody _ _ from rfl).trans ((seq_of hset).trans ((seq_of hif).trans hp)), j + 1, .ref (st'.length + 1), ex ++ [.lst ((condsT fs[j].2).map Cn.d), .lst ((longer (prodT [[]] ((fs.fm.take j).map condsT)) (condsT fs[j].2)).map eRow)], ?_, by omega, ⟨_, _, _, _, _, _, _, _, _, _, rfl⟩, by rw [hst]; simp, .inr ⟨_, rfl, ?_⟩⟩
  · rw [hdn, List.take_succ_eq_append_getElem hjl, List.map_append]; rfl
  · rw [htake, prodT_snoc, gk rfl]; rfl
theorem rules_ok {st : Sto} {f : Str} (hf : T.fn f = some fdRules) {fs : Form} (o : FmOk fs.fm) (hc : ∀ sp ∈ fs.fm, (condsT sp).length ≤ 200) (hl : fs.length ≤ 3) : callD T (n + 1) f [eF fs] st = some (.lst ((rulesT fs.fm).map eR), st) := by
  rw [callD_eq hf]
  refine run_ret rfl ?_ rfl ?_
  · rw [D.low, lows_iff]
    intro d hd
    obtain ⟨r, hr, rfl⟩ := List.mem_map.mp hd
    exact low_pl _ (eR_pl o (rules_of o hr))
  simp [fdRules, w_scons, eF]
  refine (for_inv (I := RI st fs) (R := RF st fs) (fun _ _ _ _ => same_nil) (fun dn x r env st' e h => ?step) (fun env st' ⟨j, td, ex, hdn, hj, ⟨e2, e3, e4, e5, e6, e7, e8, e9, e10, e11, he⟩, hst, hs⟩ => ?fin) ⟨0, .lst [eRow []], [], rfl, by omega, ⟨_, _, _, _, _, _, _, _, _, _, rfl⟩, by simp, .inl rfl⟩).mono fun p hp => ?post
  case step =>
    obtain ⟨env', st'', h1, h2⟩ := rules_step (T := T) (n := n) o hc hl e h
    exact ⟨_, h1, .inl ⟨.inl rfl, h2⟩⟩
  case fin =>
    subst he hst
    refine ⟨rfl, td, ex, _, _, _, _, _, _, _, _, _, _, rfl, ?_⟩
    have : j = fs.length := by
      have := congrArg List.length hdn
      simp at this; omega
    have h2 : fs.fm.take j = fs.fm := by rw [List.take_of_length_le]; simp [Form.fm]; omega
    rw [h2] at hs
    exact hs
  case post =>
    obtain ⟨fl, env, st'⟩ := p
    obtain ⟨h1, td, ex, e2, e3, e4, e5, e6, e7, e8, e9, e10, e11, h2, hs⟩ := hp
    simp only at h1 h2
    subst h1
    cases h2
    have hp := prod_le hc hl fs.fm.length
    rw [List.take_length] at hp
    have hadd := add_lists (s := st ++ ex) (a := .lst [.non]) (xs := [.non]) (.inl rfl) hs (by rw [sizeLine_eq, List.length_map, List.length_singleton]; omega)
    simp [w_scons, hadd, rulesT]
    exact ⟨rfl, fun _ _ => rfl⟩
end
end MP
end
section
set_option Elab.async false
set_option linter.all false
set_option maxRecDepth 100000
set_option maxHeartbeats 4000000
/-! LQa: k75's own reckoning: rows of places, the fewest errors. -/
namespace MP
open PySem
def whoAt (l : Log) (i : Nat) : Str := match l[i]? with
  | some x => x.who
  | none => ⟨#[]⟩
def placesT (l : Log) (r : Rl) : List Nat := (List.range l.length).filter fun i => match l[i]? with
  | some x => againstRec r x
  | none => false
def eNs (ps : List Nat) : List D := ps.map fun i => .int ((i : Nat) : Int)
def ePl (ps : List Nat) : D := .lst (eNs ps)
def fitsB (r : Rl) (cl : List Clm) : Bool := cl.all fun c => !againstR r c.1 c.2
/-- the rows, each once -/
def RowsOf (fm : Fm) (l : Log) (cl : List Clm) (rows : List (List Nat)) : Prop := ∀ ps, ps ∈ rows ↔ ∃ r ∈ rulesT fm, fitsB r cl = true ∧ placesT l r = ps
def namesAt (l : Log) (ps K : List Nat) : List Str := srt .str ((ps.filter fun i => decide (i ∈ K)).map (whoAt l))
def fewStep (l : Log) (K : List Nat) (best : Option Nat) (ps : List Nat) : Option Nat :=
  if ("sure" : Str) ∉ namesAt l ps K ∧ (best = none ∨ ∃ b, best = some b ∧ (namesAt l ps K).length < b) then some (namesAt l ps K).length else best
def fewT (l : Log) (rows : List (List Nat)) (K : List Nat) : Option Nat := rows.foldl (fewStep l K) none
theorem few_min (l : Log) (K : List Nat) : ∀ (rows : List (List Nat)) (P : Nat → Prop) (best : Option Nat), IsMin P best → IsMin (fun k => P k ∨ ∃ ps ∈ rows, ("sure" : Str) ∉ namesAt l ps K ∧ (namesAt l ps K).length = k) (rows.foldl (fewStep l K) best)
  | [], P, best, h => by
    refine h.congr fun k => ?_
    simp
  | ps :: rows, P, best, h => by
    rw [List.foldl_cons]
    have h2 : IsMin (fun k => P k ∨ (("sure" : Str) ∉ namesAt l ps K ∧ (namesAt l ps K).length = k)) (fewStep l K best ps) := by
      unfold fewStep
      split
      · rename_i c
        refine ⟨.inr ⟨c.1, rfl⟩, fun j hj => ?_⟩
        rcases hj with hj | ⟨_, hj⟩
        · rcases c.2 with e | ⟨b, e, hb⟩
          · subst e; exact absurd hj (h j)
          · subst e; exact Nat.le_trans (Nat.le_of_lt hb) (h.2 j hj)
        · omega
      · rename_i c
        cases best with
        | none =>
          intro k hk
          rcases hk with hk | ⟨hk, _⟩
          · exact h k hk
          · exact c ⟨hk, .inl rfl⟩
        | some b =>
          refine ⟨.inl h.1, fun j hj => ?_⟩
          rcases hj with hj | ⟨hj, e⟩
          · exact h.2 j hj
          · refine Nat.le_of_not_lt fun hlt => c ⟨hj, .inr ⟨b, rfl, by omega⟩⟩
    refine (few_min l K rows _ _ h2).congr fun k => ?_
    simp only [List.mem_cons, exists_eq_or_imp]
    rw [or_assoc]
theorem fitsB_iff {r : Rl} {cl : List Clm} : fitsB r cl = true ↔ fitsL r cl := by
  unfold fitsB fitsL
  rw [List.all_eq_true]
  constructor
  · intro h c hc; have := h c hc; simpa using this
  · intro h c hc; simpa using h c hc
theorem mem_places {l : Log} {r : Rl} {i : Nat} : i ∈ placesT l r ↔ ∃ x, l[i]? = some x ∧ againstRec r x = true := by
  unfold placesT
  rw [List.mem_filter]
  constructor
  · rintro ⟨hi, h⟩
    have hi := List.mem_range.mp hi
    rw [List.getElem?_eq_getElem hi] at h ⊢
    exact ⟨_, rfl, h⟩
  · rintro ⟨x, hx, h⟩
    exact ⟨List.mem_range.mpr (List.getElem?_eq_some_iff.mp hx).1, by rw [hx]; exact h⟩
theorem mem_names {l : Log} {r : Rl} {K : List Nat} {z : Str} : z ∈ namesAt l (placesT l r) K ↔ ∃ i ∈ K, ∃ x, l[i]? = some x ∧ againstRec r x = true ∧ x.who = z := by
  unfold namesAt
  rw [mem_srt, List.mem_map]
  constructor
  · rintro ⟨i, hi, rfl⟩
    rw [List.mem_filter] at hi
    obtain ⟨x, hx, h⟩ := mem_places.mp hi.1
    exact ⟨i, by simpa using hi.2, x, hx, h, by unfold whoAt; rw [hx]⟩
  · rintro ⟨i, hi, x, hx, h, rfl⟩
    exact ⟨i, List.mem_filter.mpr ⟨mem_places.mpr ⟨x, hx, h⟩, by simpa using hi⟩, by unfold whoAt; rw [hx]⟩
/-- the law's number is the price of the log of some places -/
theorem few_price {fm : Fm} (o : FmOk fm) {l m : Log} {cl : List Clm} {rows : List (List Nat)} {K : List Nat} (hr : RowsOf fm l cl rows) (hm : ∀ x, x ∈ m ↔ ∃ i ∈ K, l[i]? = some x) (h : LogOk fm m) (hw : LogW m) (hc : ClsOk fm cl) : fewT l rows K = priceL m cl := by
  have hmin := few_min l K rows (fun _ => False) none (fun k hk => hk)
  refine hmin.uniq ((price_min o h hw hc).congr fun k => ?_)
  have same : ∀ r, possL m r → (("sure" : Str) ∉ namesAt l (placesT l r) K) ∧ (namesAt l (placesT l r) K).length = (errsL m r).length := by
    intro r hp
    have hs : ("sure" : Str) ∉ namesAt l (placesT l r) K := by
      intro hz
      obtain ⟨i, hi, x, hx, ha, hwho⟩ := mem_names.mp hz
      have := hp x ((hm x).mpr ⟨i, hi, hx⟩) hwho
      rw [ha] at this; cases this
    have hmem : ∀ z, z ∈ namesAt l (placesT l r) K ↔ z ∈ errsL m r := by
      intro z
      rw [mem_names, mem_errs]
      constructor
      · rintro ⟨i, hi, x, hx, ha, rfl⟩
        exact ⟨fun e => hs (e ▸ mem_names.mpr ⟨i, hi, x, hx, ha, rfl⟩), x, (hm x).mpr ⟨i, hi, hx⟩, rfl, ha⟩
      · rintro ⟨_, x, hx, hz, ha⟩
        obtain ⟨i, hi, hx⟩ := (hm x).mp hx
        exact ⟨i, hi, x, hx, ha, hz⟩
    exact ⟨hs, Nat.le_antisymm (nodup_len (nodup_srt _) fun z hz => (hmem z).mp hz) (nodup_len (nodup_ddp _) fun z hz => (hmem z).mpr hz)⟩
  have poss : ∀ r, ("sure" : Str) ∉ namesAt l (placesT l r) K → possL m r := by
    intro r hs x hx e
    cases q : againstRec r x with
    | false => rfl
    | true =>
      obtain ⟨i, hi, hxi⟩ := (hm x).mp hx
      exact absurd (mem_names.mpr ⟨i, hi, x, hxi, q, e⟩) hs
  constructor
  · rintro ⟨r, hro, hp, hf, rfl⟩
    obtain ⟨r', hr', e⟩ := rules_all o hro
    have ea : ∀ c w, againstR r' c w = againstR r c w := fun c w => by unfold againstR; rw [e]
    have ear : ∀ x, againstRec r' x = againstRec r x := fun x => ea _ _
    have hp' : possL m r' := fun x hx hs => by rw [ear]; exact hp x hx hs
    have hf' : fitsL r' cl := fun c hc => by rw [ea]; exact hf c hc
    have hel : errsL m r' = errsL m r := by unfold errsL; simp only [ear]
    obtain ⟨h1, h2⟩ := same r' hp'
    exact .inr ⟨_, (hr _).mpr ⟨r', hr', fitsB_iff.mpr hf', rfl⟩, h1, by rw [h2, hel]⟩
  · rintro (hk | ⟨ps, hps, h1, rfl⟩)
    · exact hk.elim
    · obtain ⟨r, hr1, hf, rfl⟩ := (hr ps).mp hps
      have hp := poss r h1
      exact ⟨r, rules_of o hr1, hp, fitsB_iff.mp hf, (same r hp).2.symm⟩
end MP
end
section
set_option linter.all false
/-! F75: defs in the small language. Printed by gen_fds.py. -/
namespace MP.K75
open PySem MP
def fd__law_vine : FD := ⟨["script"], 4, true, [
    .set (.nm 1) (.lst true [.lit (.int 75029), (.lst true []), (.dct [] [])]),
    .for_ (.nm 2) 0 [.sl (.var 0) none (some (.lit (.int 46)))] [.set (.nm 3) (.bin .mod (.bf .abs [.bf .int [.var 2]]) (.bin .shl (.lit (.int 1)) (.lit (.int 1480)))), .setI (.var 1) (.lit (.int 0)) (.bin .mod (.bf .int [.bin .add (.bin .add (.bin .add (.bin .mul (.idx (.var 1) (.lit (.int 0))) (.lit (.int 99623))) (.bin .mul (.bin .mod (.var 3) (.lit (.int 999559))) (.lit (.int 43)))) (.bf .int [.cmp .lt (.bf .int [.var 2]) (.lit (.int 0))])) (.lit (.int 131))]) (.lit (.int 2147479237))), .ite (.cmp .ge (.var 3) (.bin .pow (.lit (.int 10)) (.lit (.int 18)))) [.ex (.mt .insert (.idx (.var 1) (.lit (.int 1))) [.lit (.int 0), .var 3])] []],
    .ret (.var 1)]⟩
def fd__law_leaf : FD := ⟨["vine", "many"], 3, false, [
    .ite (.cmp .gt (.bf .len [.idx (.var 0) (.lit (.int 1))]) (.lit (.int 0))) [.set (.nm 2) (.mt .pop (.idx (.var 0) (.lit (.int 1))) []), .ite (.and (.cmp .ge (.var 2) (.var 1)) (.cmp .gt (.var 1) (.lit (.int 1)))) [.ex (.mt .append (.idx (.var 0) (.lit (.int 1))) [.bin .fdiv (.var 2) (.var 1)])] [], .ret (.bin .mod (.bf .int [.var 2]) (.var 1))] [],
    .setI (.var 0) (.lit (.int 0)) (.bin .mod (.bf .int [.bin .add (.bin .mul (.idx (.var 0) (.lit (.int 0))) (.lit (.int 89533))) (.lit (.int 673))]) (.lit (.int 2147479237))),
    .ret (.bin .mod (.bf .int [.bin .fdiv (.idx (.var 0) (.lit (.int 0))) (.lit (.int 823))]) (.var 1))]⟩
def fd__law_lean : FD := ⟨["vine", "place", "many"], 6, false, [
    .ite (.cmp .notin (.var 1) (.idx (.var 0) (.lit (.int 2)))) [.setI (.idx (.var 0) (.lit (.int 2))) (.var 1) (.tup [.call "_law_leaf" [.var 0, .lit (.int 11)], .call "_law_leaf" [.var 0, .lit (.int 929)]])] [],
    .set (.tp [.nm 3, .nm 4]) (.idx (.idx (.var 0) (.lit (.int 2))) (.var 1)),
    .set (.nm 5) (.call "_law_leaf" [.var 0, .var 2]),
    .ret (.ite (.cmp .lt (.var 3) (.lit (.int 2))) (.bin .mul (.var 3) (.bin .sub (.var 2) (.lit (.int 1)))) (.ite (.cmp .eq (.var 3) (.lit (.int 2))) (.bin .mod (.bf .int [.var 4]) (.var 2)) (.var 5)))]⟩
def fd__law_same : FD := ⟨["told", "due"], 6, false, [
    .set (.nm 2) (.lst true [.tup [.var 0, .var 1]]),
    .whl (.cmp .gt (.bf .len [.var 2]) (.lit (.int 0))) [.set (.tp [.nm 3, .nm 4]) (.mt .pop (.var 2) []), .ite (.isi (.var 4) .tuple) [.ite (.or (.not (.isi (.var 3) .tuple)) (.cmp .ne (.bf .len [.var 3]) (.bf .len [.var 4]))) [.ret (.lit (.bl false))] [], .ex (.mt .extend (.var 2) [.comp false (.tup [.idx (.var 3) (.var 5), .idx (.var 4) (.var 5)]) (.nm 5) 1 [.bf .len [.var 4]] [] [5]])] [.ite (.cmp .is (.var 4) (.lit (.non))) [.ite (.cmp .isnt (.var 3) (.lit (.non))) [.ret (.lit (.bl false))] []] [.ite (.isi (.var 4) .bool) [.ite (.or (.not (.isi (.var 3) .bool)) (.cmp .ne (.var 3) (.var 4))) [.ret (.lit (.bl false))] []] [.ite (.isi (.var 4) .str) [.ite (.or (.not (.isi (.var 3) .str)) (.cmp .ne (.var 3) (.var 4))) [.ret (.lit (.bl false))] []] [.ite (.or (.not (.isi (.var 3) .int)) (.or (.isi (.var 3) .bool) (.cmp .ne (.var 3) (.var 4)))) [.ret (.lit (.bl false))] []]]]]],
    .ret (.lit (.bl true))]⟩
def fd__law_form : FD := ⟨["vine"], 11, false, [
    .set (.nm 1) (.lst true []),
    .set (.nm 2) (.lst true [.lit (.str "hour"), .lit (.str "kind"), .lit (.str "a1"), .lit (.str "zz9"), .lit (.str "size"), .lit (.str "q")]),
    .set (.nm 3) (.lst true [.lit (.str "bill"), .lit (.str "note"), .lit (.str "red"), .lit (.str "b2"), .lit (.str "x"), .lit (.str "page"), .lit (.str "p7"), .lit (.str "cash")]),
    .set (.nm 4) (.idx (.tup [.lit (.int 80), .lit (.int 150), .lit (.int 300)]) (.call "_law_leaf" [.var 0, .lit (.int 3)])),
    .for_ (.nm 5) 1 [.bin .add (.lit (.int 1)) (.call "_law_lean" [.var 0, .lit (.int 1), .lit (.int 3)])] [.set (.nm 6) (.idx (.tup [.lit (.int 2), .lit (.int 3), .lit (.int 4), .lit (.int 5), .lit (.int 6)]) (.call "_law_lean" [.var 0, .lit (.int 2), .lit (.int 5)])), .ite (.cmp .lt (.call "_law_lean" [.var 0, .lit (.int 3), .lit (.int 5)]) (.lit (.int 3))) [.set (.tp [.nm 7, .nm 8]) (.tup [.idx (.tup [.lit (.int 0), .neg (.lit (.int 3)), .bin .sub (.lit (.int 17)) (.var 6), .bin .sub (.call "_law_leaf" [.var 0, .lit (.int 9)]) (.lit (.int 6))]) (.call "_law_leaf" [.var 0, .lit (.int 4)]), .bin .fdiv (.bin .mul (.var 6) (.bin .add (.var 6) (.lit (.int 1)))) (.lit (.int 2))]), .set (.nm 9) (.tup [.var 7, .bin .sub (.bin .add (.var 7) (.var 6)) (.lit (.int 1))])] [.set (.nm 6) (.bf .min2 [.var 6, .lit (.int 4)]), .set (.tp [.nm 9, .nm 8]) (.tup [.bf .tuple [.bf .sorted [.comp false (.mt .popAt (.var 3) [.call "_law_leaf" [.var 0, .bf .len [.var 3]]]) (.nm 10) 1 [.ite (.cmp .gt (.var 6) (.bin .sub (.bf .len [.var 3]) (.lit (.int 2)))) (.lit (.int 2)) (.var 6)] [] [10]]], .bin .sub (.bin .shl (.lit (.int 1)) (.var 6)) (.lit (.int 1))])], .ite (.or (.cmp .eq (.bf .len [.var 1]) (.lit (.int 0))) (.cmp .gt (.bin .fdiv (.var 4) (.var 8)) (.lit (.int 0)))) [.ex (.mt .append (.var 1) [.tup [.mt .popAt (.var 2) [.call "_law_leaf" [.var 0, .bf .len [.var 2]]], .var 9]]), .set (.nm 4) (.bin .fdiv (.var 4) (.var 8))] [], .ite (.cmp .lt (.bf .len [.var 3]) (.lit (.int 4))) [.brk] []],
    .ret (.bf .tuple [.var 1])]⟩
def fd__law_case : FD := ⟨["vine", "form"], 5, false, [
    .set (.nm 2) (.lst true []),
    .for_ (.tp [.nm 3, .nm 4]) 0 [.var 1] [.ite (.isi (.idx (.var 4) (.lit (.int 0))) .int) [.ex (.mt .append (.var 2) [.bin .add (.idx (.var 4) (.lit (.int 0))) (.call "_law_leaf" [.var 0, .bin .add (.bin .sub (.idx (.var 4) (.lit (.int 1))) (.idx (.var 4) (.lit (.int 0)))) (.lit (.int 1))])])] [.ex (.mt .append (.var 2) [.idx (.var 4) (.call "_law_leaf" [.var 0, .bf .len [.var 4]])])]],
    .ret (.bf .tuple [.var 2])]⟩
def fd__law_lets : FD := ⟨["rule", "case"], 4, false, [
    .ite (.cmp .is (.var 0) (.lit (.non))) [.ret (.lit (.bl false))] [],
    .for_ (.nm 2) 1 [.bf .len [.var 1]] [.set (.nm 3) (.ite (.isi (.idx (.var 1) (.var 2)) .int) (.cmp2 .le .le (.idx (.idx (.var 0) (.var 2)) (.lit (.int 0))) (.idx (.var 1) (.var 2)) (.idx (.idx (.var 0) (.var 2)) (.lit (.int 1)))) (.cmp .in_ (.idx (.var 1) (.var 2)) (.idx (.var 0) (.var 2)))), .ite (.not (.var 3)) [.ret (.lit (.bl false))] []],
    .ret (.lit (.bl true))]⟩
def fd__law_log : FD := ⟨["vine", "form", "most", "many"], 19, false, [
    .set (.tp [.nm 4, .nm 5]) (.tup [.call "_law_case" [.var 0, .var 1], .call "_law_case" [.var 0, .var 1]]),
    .set (.nm 6) (.lst true []),
    .for_ (.nm 7) 1 [.bf .len [.var 1]] [.set (.nm 13) (.bf .sorted [.lst false [.idx (.var 4) (.var 7), .idx (.var 5) (.var 7)]]), .ex (.mt .append (.var 6) [.ite (.isi (.idx (.var 13) (.lit (.int 0))) .int) (.bf .tuple [.var 13]) (.bf .tuple [.bf .sorted [.bf .set [.var 13]]])])],
    .set (.nm 6) (.ite (.cmp .eq (.call "_law_leaf" [.var 0, .lit (.int 9)]) (.lit (.int 0))) (.lit (.non)) (.bf .tuple [.var 6])),
    .set (.nm 8) (.lst true [.lit (.str "ann"), .lit (.str "bob"), .lit (.str "cid"), .lit (.str "dan"), .lit (.str "eve9"), .lit (.str "z")]),
    .set (.nm 8) (.comp true (.mt .popAt (.var 8) [.call "_law_leaf" [.var 0, .bf .len [.var 8]]]) (.nm 12) 1 [.var 3] [] [12]),
    .set (.tp [.nm 9, .nm 10, .nm 11]) (.tup [.lst true [], .lst false [], .call "_law_lean" [.var 0, .lit (.int 4), .lit (.int 4)]]),
    .for_ (.nm 12) 1 [.bin .add (.lit (.int 2)) (.call "_law_lean" [.var 0, .lit (.int 5), .bin .sub (.var 2) (.lit (.int 1))])] [.set (.nm 14) (.idx (.var 8) (.call "_law_leaf" [.var 0, .bf .len [.var 8]])), .set (.nm 15) (.ite (.cmp .gt (.call "_law_leaf" [.var 0, .lit (.int 3)]) (.lit (.int 0))) (.call "_law_case" [.var 0, .var 1]) (.idx (.tup [.var 4, .var 5]) (.call "_law_leaf" [.var 0, .lit (.int 2)]))), .set (.nm 16) (.call "_law_lets" [.var 6, .var 15]), .set (.nm 17) (.or (.and (.cmp .eq (.var 14) (.idx (.var 8) (.lit (.int 0)))) (.cmp .gt (.var 11) (.lit (.int 0)))) (.or (.and (.cmp .eq (.var 14) (.idx (.var 8) (.neg (.lit (.int 1))))) (.cmp .eq (.var 11) (.lit (.int 2)))) (.and (.cmp .eq (.var 11) (.lit (.int 3))) (.cmp .eq (.call "_law_leaf" [.var 0, .lit (.int 2)]) (.lit (.int 0)))))), .set (.nm 18) (.ite (.cmp .ne (.var 16) (.var 17)) (.lit (.str "let")) (.lit (.str "refused"))), .ite (.and (.cmp .eq (.call "_law_leaf" [.var 0, .lit (.int 5)]) (.lit (.int 0))) (.cmp .ne (.var 16) (.and (.cmp .eq (.var 11) (.lit (.int 3))) (.cmp .eq (.call "_law_leaf" [.var 0, .lit (.int 3)]) (.lit (.int 0)))))) [.set (.tp [.nm 14, .nm 18]) (.tup [.lit (.str "sure"), .lit (.str "let")])] [], .ite (.and (.cmp .eq (.var 18) (.lit (.str "let"))) (.cmp .notin (.var 15) (.var 10))) [.set (.nm 18) (.ite (.cmp .lt (.bf .len [.var 10]) (.lit (.int 7))) (.lit (.str "let")) (.lit (.str "refused"))), .set (.nm 10) (.ite (.cmp .lt (.bf .len [.var 10]) (.lit (.int 7))) (.bin .add (.var 10) (.lst false [.var 15])) (.var 10))] [], .ex (.mt .append (.var 9) [.tup [.var 14, .var 15, .var 18]])],
    .ret (.bf .tuple [.var 9])]⟩
def fd__law_claims : FD := ⟨["vine", "form", "log", "most"], 7, false, [
    .set (.nm 4) (.lst true []),
    .for_ (.nm 5) 1 [.call "_law_lean" [.var 0, .lit (.int 6), .bin .add (.var 3) (.lit (.int 1))]] [.set (.nm 6) (.ite (.cmp .eq (.call "_law_leaf" [.var 0, .lit (.int 2)]) (.lit (.int 0))) (.call "_law_case" [.var 0, .var 1]) (.idx (.idx (.var 2) (.call "_law_leaf" [.var 0, .bf .len [.var 2]])) (.lit (.int 1)))), .ex (.mt .append (.var 4) [.tup [.var 6, .idx (.tup [.lit (.str "let"), .lit (.str "refused")]) (.call "_law_leaf" [.var 0, .lit (.int 2)])]])],
    .ret (.bf .tuple [.var 4])]⟩
def fd__law_rules : FD := ⟨["form"], 12, false, [
    .set (.nm 1) (.lst false [.tup []]),
    .for_ (.tp [.nm 2, .nm 3]) 0 [.var 0] [.set (.nm 4) (.lst true []), .ite (.isi (.idx (.var 3) (.lit (.int 0))) .int) [.for_ (.nm 7) 2 [.idx (.var 3) (.lit (.int 0)), .bin .add (.idx (.var 3) (.lit (.int 1))) (.lit (.int 1))] [.ex (.mt .extend (.var 4) [.comp false (.tup [.var 7, .var 10]) (.nm 10) 2 [.var 7, .bin .add (.idx (.var 3) (.lit (.int 1))) (.lit (.int 1))] [] [10]])]] [.for_ (.nm 8) 2 [.lit (.int 1), .bin .shl (.lit (.int 1)) (.bf .len [.var 3])] [.ex (.mt .append (.var 4) [.bf .tuple [.comp false (.idx (.var 3) (.var 11)) (.nm 11) 1 [.bf .len [.var 3]] [.cmp .eq (.bin .and (.bin .shr (.var 8) (.var 11)) (.lit (.int 1))) (.lit (.int 1))] [11]]])]], .set (.nm 5) (.lst true []), .for_ (.nm 6) 0 [.var 1] [.ex (.mt .extend (.var 5) [.comp false (.bin .add (.var 6) (.tup [.var 9])) (.nm 9) 0 [.var 4] [] [9]])], .set (.nm 1) (.var 5)],
    .ret (.bin .add (.lst false [.lit (.non)]) (.var 1))]⟩
def fd__law_ladder : FD := ⟨["vine", "many"], 8, false, [
    .set (.nm 2) (.lst true [.lit (.str "ann"), .lit (.str "bob"), .lit (.str "cid"), .lit (.str "dan"), .lit (.str "eve9"), .lit (.str "z")]),
    .set (.nm 2) (.comp true (.mt .popAt (.var 2) [.call "_law_leaf" [.var 0, .bf .len [.var 2]]]) (.nm 7) 1 [.var 1] [] [7]),
    .set (.tp [.nm 3, .nm 4]) (.tup [.lst true [], .idx (.tup [.lit (.int 1), .neg (.lit (.int 1))]) (.call "_law_leaf" [.var 0, .lit (.int 2)])]),
    .for_ (.nm 5) 1 [.var 1] [.ex (.mt .append (.var 3) [.tup [.idx (.var 2) (.var 5), .tup [.bin .mul (.bin .mul (.var 4) (.lit (.int 2))) (.var 5)], .lit (.str "let")]]), .ex (.mt .append (.var 3) [.tup [.idx (.var 2) (.var 5), .tup [.bin .add (.bin .mul (.bin .mul (.var 4) (.lit (.int 2))) (.var 5)) (.var 4)], .lit (.str "refused")]])],
    .set (.nm 6) (.comp false (.mt .popAt (.var 3) [.call "_law_leaf" [.var 0, .bf .len [.var 3]]]) (.nm 7) 1 [.bin .mul (.lit (.int 2)) (.var 1)] [] [7]),
    .ret (.tup [.tup [.tup [.lit (.str "q"), .ite (.cmp .gt (.var 4) (.lit (.int 0))) (.tup [.lit (.int 0), .bin .mul (.lit (.int 2)) (.var 1)]) (.tup [.bin .mul (.neg (.lit (.int 2))) (.var 1), .lit (.int 0)])]], .bf .tuple [.var 6]])]⟩
def fd__law_wrong_places : FD := ⟨["form", "log", "claims"], 9, false, [
    .set (.nm 3) (.lst true []),
    .for_ (.nm 4) 0 [.call "_law_rules" [.var 0]] [.ite (.cmp .gt (.bf .len [.comp false (.lit (.int 1)) (.tp [.nm 7, .nm 8]) 0 [.var 2] [.cmp .ne (.call "_law_lets" [.var 4, .var 7]) (.cmp .eq (.var 8) (.lit (.str "let")))] [7, 8]]) (.lit (.int 0))) [.cont] [], .set (.nm 5) (.comp false (.var 6) (.nm 6) 1 [.bf .len [.var 1]] [.cmp .ne (.call "_law_lets" [.var 4, .idx (.idx (.var 1) (.var 6)) (.lit (.int 1))]) (.cmp .eq (.idx (.idx (.var 1) (.var 6)) (.lit (.int 2))) (.lit (.str "let")))] [6]), .ite (.cmp .notin (.var 5) (.var 3)) [.ex (.mt .append (.var 3) [.var 5])] []],
    .ret (.var 3)]⟩
def fd__law_fewest : FD := ⟨["log", "rows", "kept"], 7, false, [
    .set (.nm 3) (.lit (.non)),
    .for_ (.nm 4) 0 [.var 1] [.set (.nm 5) (.bf .sorted [.bf .set [.comp false (.idx (.idx (.var 0) (.var 6)) (.lit (.int 0))) (.nm 6) 0 [.var 4] [.cmp .in_ (.var 6) (.var 2)] [6]]]), .ite (.and (.cmp .notin (.lit (.str "sure")) (.var 5)) (.or (.cmp .is (.var 3) (.lit (.non))) (.cmp .lt (.bf .len [.var 5]) (.var 3)))) [.set (.nm 3) (.bf .len [.var 5])] []],
    .ret (.var 3)]⟩
def fd__law_asked : FD := ⟨["vine", "form", "log"], 17, false, [
    .set (.nm 3) (.call "_law_claims" [.var 0, .var 1, .var 2, .lit (.int 2)]),
    .set (.tp [.nm 4, .nm 5]) (.tup [.call "_law_wrong_places" [.var 1, .var 2, .tup []], .call "_law_wrong_places" [.var 1, .var 2, .var 3]]),
    .set (.nm 6) (.rg false [.bf .len [.var 2]]),
    .set (.nm 7) (.bf .tuple [.comp false (.call "_law_fewest" [.var 2, .var 4, .sl (.var 6) none (some (.bin .add (.var 12) (.lit (.int 1))))]) (.nm 12) 0 [.var 6] [] [12]]),
    .ite (.not (.call "_law_same" [.call "growth" [.var 2], .var 7])) [.ret (.lit (.bl false))] [],
    .for_ (.nm 8) 0 [.tup [.lit (.int 0), .lit (.int 1), .lit (.int 2), .lit (.int 3), .lit (.int 4), .call "_law_leaf" [.var 0, .lit (.int 9)]]] [.set (.nm 15) (.comp false (.var 12) (.nm 12) 0 [.var 6] [.or (.cmp .is (.idx (.var 7) (.var 12)) (.lit (.non))) (.cmp .gt (.idx (.var 7) (.var 12)) (.var 8))] [12]), .ite (.not (.call "_law_same" [.call "first_broken" [.var 2, .var 8], .ite (.cmp .gt (.bf .len [.var 15]) (.lit (.int 0))) (.idx (.var 15) (.lit (.int 0))) (.lit (.non))])) [.ret (.lit (.bl false))] []],
    .set (.nm 9) (.call "_law_fewest" [.var 2, .var 5, .var 6]),
    .set (.nm 10) (.comp false (.call "_law_fewest" [.var 2, .var 5, .comp false (.var 12) (.nm 12) 0 [.var 6] [.cmp .ne (.var 12) (.var 16)] [12]]) (.nm 16) 0 [.var 6] [] [16]),
    .set (.nm 11) (.bf .tuple [.comp false (.var 12) (.nm 12) 0 [.var 6] [.cmp .ne (.idx (.var 10) (.var 12)) (.var 9)] [12]]),
    .ite (.not (.call "_law_same" [.call "needed_records" [.var 2, .var 3], .var 11])) [.ret (.lit (.bl false))] [],
    .set (.nm 12) (.call "_law_leaf" [.var 0, .bf .len [.var 2]]),
    .set (.nm 13) (.sl (.var 2) none (some (.bin .add (.var 12) (.lit (.int 1))))),
    .set (.nm 14) (.tup [.call "fewest_errs" [.var 13], .call "price" [.var 2, .var 3], .call "price" [.call "without_records" [.var 2, .tup [.var 12]], .var 3], .call "without_records" [.var 2, .var 11]]),
    .ret (.call "_law_same" [.var 14, .tup [.idx (.var 7) (.var 12), .var 9, .idx (.var 10) (.var 12), .bf .tuple [.comp false (.idx (.var 2) (.var 16)) (.nm 16) 0 [.var 6] [.cmp .notin (.var 16) (.var 11)] [16]]]])]⟩
def fd__law_hand : FD := ⟨["vine"], 5, false, [
    .set (.nm 1) (.tup [.tup [.lit (.str "ann"), .tup [.lit (.int 1), .lit (.str "note")], .lit (.str "let")], .tup [.lit (.str "bob"), .tup [.lit (.int 4), .lit (.str "note")], .lit (.str "let")], .tup [.lit (.str "cid"), .tup [.lit (.int 2), .lit (.str "note")], .lit (.str "refused")], .tup [.lit (.str "ann"), .tup [.lit (.int 5), .lit (.str "bill")], .lit (.str "refused")]]),
    .set (.nm 2) (.tup [.call "growth" [.var 1], .call "first_broken" [.var 1, .lit (.int 0)], .call "needed_records" [.var 1, .tup []], .call "first_broken" [.var 1, .lit (.int 1)], .call "growth" [.tup []], .callk "first_broken" [] [.lit (.int 0), .tup []] [1, 0], .callk "needed_records" [] [.tup [.tup [.tup [.lit (.int 2), .lit (.str "note")], .lit (.str "let")]], .var 1] [1, 0]]),
    .ite (.not (.call "_law_same" [.var 2, .tup [.tup [.lit (.int 0), .lit (.int 0), .lit (.int 1), .lit (.int 1)], .lit (.int 2), .tup [.lit (.int 0), .lit (.int 1), .lit (.int 2)], .lit (.non), .tup [], .lit (.non), .tup [.lit (.int 2)]]])) [.ret (.lit (.bl false))] [],
    .set (.nm 3) (.tup [.tup [.lit (.str "bob"), .tup [.lit (.int 1), .lit (.str "a")], .lit (.str "let")], .tup [.lit (.str "sure"), .tup [.lit (.int 1), .lit (.str "a")], .lit (.str "refused")], .tup [.lit (.str "sure"), .tup [.lit (.int 1), .lit (.str "a")], .lit (.str "let")], .tup [.lit (.str "bob"), .tup [.lit (.int 3), .lit (.str "a")], .lit (.str "let")]]),
    .set (.nm 2) (.tup [.call "growth" [.var 3], .call "first_broken" [.var 3, .lit (.int 8)], .call "first_broken" [.var 3, .lit (.int 0)], .call "needed_records" [.var 3, .tup []]]),
    .set (.nm 2) (.bin .add (.var 2) (.tup [.call "needed_records" [.bin .add (.sl (.var 3) none (some (.lit (.int 2)))) (.sl (.var 3) (some (.lit (.int 1))) (some (.lit (.int 2)))), .tup []], .call "needed_records" [.var 1, .tup [.tup [.tup [.lit (.int 1), .lit (.str "note")], .lit (.str "let")], .tup [.tup [.lit (.int 1), .lit (.str "note")], .lit (.str "refused")]]]])),
    .ite (.not (.call "_law_same" [.var 2, .tup [.tup [.lit (.int 0), .lit (.int 1), .lit (.non), .lit (.non)], .lit (.int 2), .lit (.int 1), .tup [.lit (.int 1), .lit (.int 2)], .tup [.lit (.int 0)], .tup []]])) [.ret (.lit (.bl false))] [],
    .set (.nm 4) (.tup [.tup [.lit (.str "ann"), .tup [.lit (.int 2), .lit (.str "a")], .lit (.str "let")], .tup [.lit (.str "ann"), .tup [.lit (.int 2), .lit (.str "a")], .lit (.str "refused")], .tup [.lit (.str "bob"), .tup [.lit (.int 2), .lit (.str "a")], .lit (.str "refused")]]),
    .ret (.call "_law_same" [.tup [.call "growth" [.var 4], .call "needed_records" [.var 4, .tup []], .call "needed_records" [.sl (.var 4) none (some (.lit (.int 2))), .tup []], .call "first_broken" [.var 4, .lit (.int 1)]], .tup [.tup [.lit (.int 0), .lit (.int 1), .lit (.int 1)], .tup [.lit (.int 0)], .tup [.lit (.int 0), .lit (.int 1)], .lit (.non)]])]⟩
def fd_law : FD := ⟨["script"], 5, false, [
    .set (.nm 1) (.call "_law_vine" [.var 0]),
    .ite (.not (.call "_law_hand" [.var 1])) [.ret (.lit (.bl false))] [],
    .for_ (.nm 2) 1 [.lit (.int 2)] [.set (.nm 3) (.call "_law_form" [.var 1]), .ite (.not (.call "_law_asked" [.var 1, .var 3, .call "_law_log" [.var 1, .var 3, .lit (.int 9), .bin .add (.lit (.int 1)) (.call "_law_lean" [.var 1, .lit (.int 8), .lit (.int 5)])]])) [.ret (.lit (.bl false))] []],
    .ite (.cmp .eq (.call "_law_leaf" [.var 1, .lit (.int 7)]) (.lit (.int 3))) [.set (.tp [.nm 3, .nm 4]) (.call "_law_ladder" [.var 1, .bin .add (.lit (.int 5)) (.call "_law_leaf" [.var 1, .lit (.int 2)])]), .ite (.not (.call "_law_asked" [.var 1, .var 3, .var 4])) [.ret (.lit (.bl false))] []] [],
    .set (.nm 3) (.call "_law_form" [.var 1]),
    .ret (.or (.cmp .ne (.call "_law_leaf" [.var 1, .lit (.int 11)]) (.lit (.int 4))) (.call "_law_asked" [.var 1, .var 3, .call "_law_log" [.var 1, .var 3, .lit (.int 14), .lit (.int 6)]]))]⟩
/-- these defs stand in a table -/
structure Lw (T : Tx) : Prop where
  x__law_vine : T.fn "_law_vine" = some fd__law_vine
  x__law_leaf : T.fn "_law_leaf" = some fd__law_leaf
  x__law_lean : T.fn "_law_lean" = some fd__law_lean
  x__law_same : T.fn "_law_same" = some fd__law_same
  x__law_form : T.fn "_law_form" = some fd__law_form
  x__law_case : T.fn "_law_case" = some fd__law_case
  x__law_lets : T.fn "_law_lets" = some fd__law_lets
  x__law_log : T.fn "_law_log" = some fd__law_log
  x__law_claims : T.fn "_law_claims" = some fd__law_claims
  x__law_rules : T.fn "_law_rules" = some fd__law_rules
  x__law_ladder : T.fn "_law_ladder" = some fd__law_ladder
  x__law_wrong_places : T.fn "_law_wrong_places" = some fd__law_wrong_places
  x__law_fewest : T.fn "_law_fewest" = some fd__law_fewest
  x__law_asked : T.fn "_law_asked" = some fd__law_asked
  x__law_hand : T.fn "_law_hand" = some fd__law_hand
  x_law : T.fn "law" = some fd_law
end MP.K75
end
section
set_option Elab.async false
set_option linter.all false
set_option maxRecDepth 100000
set_option maxHeartbeats 4000000
/-! LQb: k75's own defs, walked. -/
namespace MP
open PySem
theorem len_filter_pos {α : Type} {p : α → Bool} {xs : List α} : (0 : Int) < ((xs.filter p).length : Int) ↔ xs.any p = true := by
  rw [List.any_eq_true]
  constructor
  · intro h
    have : 0 < (xs.filter p).length := by omega
    obtain ⟨x, hx⟩ := List.exists_mem_of_length_pos this
    rw [List.mem_filter] at hx
    exact ⟨x, hx.1, hx.2⟩
  · rintro ⟨x, hx, h⟩
    have := List.length_pos_of_mem (List.mem_filter.mpr ⟨hx, h⟩)
    omega
theorem eNs_pls (ps : List Nat) : D.pls (eNs ps) = true := by
  rw [pls_iff]; intro d hd
  obtain ⟨i, _, rfl⟩ := List.mem_map.mp hd; rfl
theorem eNs_dps (ps : List Nat) : D.dps (eNs ps) = 0 := by
  induction ps with
  | nil => rfl
  | cons p ps ih =>
    have : eNs (p :: ps) = .int (p : Int) :: eNs ps := rfl
    rw [this, D.dps, ih]; rfl
theorem ePl_pl (ps : List Nat) : (ePl ps).pl = true := by rw [ePl, D.pl]; exact eNs_pls ps
theorem ePl_dp (ps : List Nat) : (ePl ps).dp = 1 := by rw [ePl, D.dp, eNs_dps]
theorem eNs_inj {a b : List Nat} (h : eNs a = eNs b) : a = b := map_inj (fun a b e => by simp at e; omega) h
theorem ePl_inj (a b : List Nat) (h : ePl a = ePl b) : a = b := by
  simp only [ePl, D.lst.injEq] at h
  exact eNs_inj h
section
variable {T : Tx} {n : Nat} {st : Sto} {fm : Fm}
/-- what is put behind: no row twice -/
def WI (s : Sto) (l : Log) (cl : List Clm) (e0 e1 e2 : D) (dn : List D) (env : Env) (st' : Sto) : Prop := ∃ (rs : List Rl) (rows : List (List Nat)), dn = rs.map eR ∧ rows.length ≤ rs.length ∧ (∀ ps, ps ∈ rows ↔ ∃ r ∈ rs, fitsB r cl = true ∧ placesT l r = ps) ∧ (∃ z4 z5 z6 z7 z8, env = [some e0, some e1, some e2, some (.ref s.length), z4, z5, z6, z7, z8]) ∧ st' = s ++ [.lst (rows.map ePl)]
def WF (s : Sto) (fm : Fm) (l : Log) (cl : List Clm) (p : Fl × Env × Sto) : Prop := p.1 = .nx ∧ p.2.1[3]? = some (some (.ref s.length)) ∧ ∃ rows, RowsOf fm l cl rows ∧ rows.length ≤ 8000001 ∧ p.2.2 = s ++ [.lst (rows.map ePl)]
theorem eR_inj (a b : Rl) (h : eR a = eR b) : a = b := by
  cases a <;> cases b <;> simp [eR] at h
  · rfl
  · rw [map_inj cn_inj h]
theorem rulesT_len {fs : Form} (hc : ∀ sp ∈ fs.fm, (condsT sp).length ≤ 200) (hl : fs.length ≤ 3) : (rulesT fs.fm).length ≤ 8000001 := by
  have hp := prod_le hc hl fs.fm.length
  rw [List.take_length] at hp
  unfold rulesT
  rw [List.length_cons, List.length_map]; omega
theorem recAt {l : Log} {i : Nat} (hi : i < l.length) : L2.atI (l.map Rec.d) (i : Int) = some l[i].d := at_map hi
theorem wrong_ok {fs : Form} (o : FmOk fs.fm) (hc : ∀ sp ∈ fs.fm, (condsT sp).length ≤ 200) (hl : fs.length ≤ 3) {l : Log} {cl : List Clm} (h : LogOk fs.fm l) (hcl : ClsOk fs.fm cl)
    (h1 : T.fn "_law_wrong_places" = some K75.fd__law_wrong_places) (h2 : T.fn "_law_rules" = some fdRules) (h3 : T.fn "_law_lets" = some fdLets) : ∃ rows, RowsOf fs.fm l cl rows ∧ rows.length ≤ 8000001 ∧ callD T (n + 2) "_law_wrong_places" [eF fs, eL l, eCl cl] st = some (.lst (rows.map ePl), st) := by
  have main : W (callD T (n + 2) "_law_wrong_places" [eF fs, eL l, eCl cl] st) fun p => ∃ rows, RowsOf fs.fm l cl rows ∧ rows.length ≤ 8000001 ∧ p = (.lst (rows.map ePl), st) := by
    rw [callD_eq h1]
    refine run_gen rfl rfl ?_
    simp [K75.fd__law_wrong_places, w_scons, rules_ok h2 o hc hl]
    refine (for_inv (I := WI st l cl (eF fs) (eL l) (eCl cl)) (R := WF st fs.fm l cl) (fun _ _ _ _ => same_nil) (fun dn x r env st' e h => ?step) (fun env st' ⟨rs, rows, hdn, hrl, hrows, ⟨z4, z5, z6, z7, z8, he⟩, hst⟩ => ?fin) ⟨[], [], rfl, by simp, by simp, ⟨_, _, _, _, _, rfl⟩, rfl⟩).mono fun p hp => ?post
    case step =>
      obtain ⟨rs, rows, hdn, hrl, hrows, ⟨z4, z5, z6, z7, z8, he⟩, hst⟩ := h
      obtain ⟨y, rfl, hy⟩ : ∃ y, x = eR y ∧ y ∈ rulesT fs.fm := by
        have : x ∈ (rulesT fs.fm).map eR := by rw [← e]; simp
        obtain ⟨y, hy, rfl⟩ := List.mem_map.mp this
        exact ⟨y, rfl, hy⟩
      subst he hst
      have hro := rules_of o hy
      have hN : (st ++ [Ob.lst (rows.map ePl)])[st.length]? = some (.lst (rows.map ePl)) := by simp
      have hll := h.1
      have hcc := hcl.1
      have hc1 : ∀ z5 z6 z7 z8, compD [] (st ++ [Ob.lst (rows.map ePl)]) (compB (clD T (n + 1)) (.lit (.int 1)) (.tp [.nm 7, .nm 8]) [.cmp .ne (.call "_law_lets" [.var 4, .var 7]) (.cmp .eq (.var 8) (.lit (.str "let")))] [7, 8] [some (eF fs), some (eL l), some (eCl cl), some (.ref st.length), some (eR y), z5, z6, z7, z8]) (cl.map eClm) (st ++ [Ob.lst (rows.map ePl)]) = some ((cl.filter fun c => againstR y c.1 c.2).map fun _ => .int 1, st ++ [Ob.lst (rows.map ePl)]) := by
        intro z5 z6 z7 z8
        refine comp_filter fun c hcm => ?_
        rw [← W_eq]
        simp [eClm, lawlets_ok o h3 hro (hcl.2 c hcm).1, eq_str (hcl.2 c hcm).2 strOk_let, againstR]
      have hc2 : ∀ z5 z6 z7 z8, compD [] (st ++ [Ob.lst (rows.map ePl)]) (compB (clD T (n + 1)) (.var 6) (.nm 6) [.cmp .ne (.call "_law_lets" [.var 4, .idx (.idx (.var 1) (.var 6)) (.lit (.int 1))]) (.cmp .eq (.idx (.idx (.var 1) (.var 6)) (.lit (.int 2))) (.lit (.str "let")))] [6] [some (eF fs), some (eL l), some (eCl cl), some (.ref st.length), some (eR y), z5, z6, z7, z8]) (rangeD 0 l.length) (st ++ [Ob.lst (rows.map ePl)]) = some (eNs (placesT l y), st ++ [Ob.lst (rows.map ePl)]) := by
        intro z5 z6 z7 z8
        rw [range_map]
        unfold eNs placesT
        refine comp_filter fun i hi => ?_
        have hi := List.mem_range.mp hi
        have hrk := h.2 _ (List.getElem_mem hi)
        rw [← W_eq, List.getElem?_eq_getElem hi]
        simp [eL, recAt hi, Rec.d, lawlets_ok o h3 hro hrk.case, eq_str hrk.word strOk_let, againstRec, againstR]
      have hsm : small62 (l.length : Int) = true := small_of (by omega) (by omega)
      have hb1 : cl.length ≤ sizeLine := by rw [sizeLine_eq]; omega
      have hb2 : l.length ≤ sizeLine := by rw [sizeLine_eq]; omega
      have hnot : memO (st ++ [Ob.lst (rows.map ePl)]) (ePl (placesT l y)) (.ref st.length) = some (decide (placesT l y ∈ rows)) := by
        have : dctOf (st ++ [Ob.lst (rows.map ePl)]) (.ref st.length) = none := by simp [dctOf]
        unfold memO
        rw [this]
        simp only
        rw [items_ref hN, Option.bind_some, memD_pl (ePl_pl _) (by rw [pls_iff]; intro d hd; obtain ⟨ps, _, rfl⟩ := List.mem_map.mp hd; exact ePl_pl ps) (by rw [ePl_dp]; omega) (by rw [dps_le]; intro d hd; obtain ⟨ps, _, rfl⟩ := List.mem_map.mp hd; rw [ePl_dp]; omega)]
        exact congrArg some (decide_eq_decide.mpr (mem_map_inj ePl_inj))
      have hnot2 : cmpD .notin (st ++ [Ob.lst (rows.map ePl)]) (.lst (eNs (placesT l y))) (.ref st.length) = some (!decide (placesT l y ∈ rows)) := by
        show (memO _ _ _).map _ = _
        rw [show D.lst (eNs (placesT l y)) = ePl (placesT l y) from rfl, hnot]; rfl
      have hlt : rows.length < sizeLine := by
        have h4 := rulesT_len hc hl
        have h5 := congrArg List.length e
        rw [hdn] at h5
        simp only [List.length_append, List.length_map, List.length_cons] at h5
        rw [sizeLine_eq]; omega
      have happ := append_ref hN (d := .lst (eNs (placesT l y))) (by simpa using hlt)
      rw [sk0 rfl] at happ
      obtain ⟨ones, hc1, hones⟩ : ∃ ones : List D, (∀ z5 z6 z7 z8, compD [] (st ++ [Ob.lst (rows.map ePl)]) (compB (clD T (n + 1)) (.lit (.int 1)) (.tp [.nm 7, .nm 8]) [.cmp .ne (.call "_law_lets" [.var 4, .var 7]) (.cmp .eq (.var 8) (.lit (.str "let")))] [7, 8] [some (eF fs), some (eL l), some (eCl cl), some (.ref st.length), some (eR y), z5, z6, z7, z8]) (cl.map eClm) (st ++ [Ob.lst (rows.map ePl)]) = some (ones, st ++ [Ob.lst (rows.map ePl)])) ∧ (ones = [] ↔ fitsB y cl = true) := by
        refine ⟨_, hc1, ?_⟩
        rw [List.map_eq_nil_iff, List.filter_eq_nil_iff]
        unfold fitsB
        rw [List.all_eq_true]
        simp
      simp only [eL, eCl] at hc1 hc2 ⊢
      cases q : fitsB y cl with
      | false =>
        obtain ⟨o1, os, rfl⟩ := List.exists_cons_of_ne_nil (l := ones) (fun e => by rw [hones.mp e] at q; cases q)
        simp [w_scons, hc1, hb1]
        refine ⟨rs ++ [y], rows, by simp [hdn], by simp; omega, fun ps => ?_, ⟨_, _, _, _, _, rfl⟩, rfl⟩
        rw [hrows]
        constructor
        · rintro ⟨r, hr, h⟩; exact ⟨r, by simp [hr], h⟩
        · rintro ⟨r, hr, h, h'⟩
          rcases List.mem_append.mp hr with hr | hr
          · exact ⟨r, hr, h, h'⟩
          · rw [List.mem_singleton.mp hr, q] at h; cases h
      | true =>
        have := hones.mpr q
        subst this
        have hN0 : mtOk .append (st ++ [Ob.lst (rows.map ePl)]) (.ref st.length) = true := mtok_ref hN (by simp)
        by_cases c : placesT l y ∈ rows
        · simp [w_scons, hc1, hb1, hc2, src1 hsm, hb2, hnot2, c]
          refine ⟨rs ++ [y], rows, by simp [hdn], by simp; omega, fun ps => ?_, ⟨_, _, _, _, _, rfl⟩, rfl⟩
          rw [hrows]
          constructor
          · rintro ⟨r, hr, h⟩; exact ⟨r, by simp [hr], h⟩
          · rintro ⟨r, hr, h, h'⟩
            rcases List.mem_append.mp hr with hr | hr
            · exact ⟨r, hr, h, h'⟩
            · rw [List.mem_singleton.mp hr] at h'
              rw [← h']
              exact (hrows _).mp c
        · simp [w_scons, hc1, hb1, hc2, src1 hsm, hb2, hnot2, c, hN0, happ]
          refine ⟨rs ++ [y], rows ++ [placesT l y], by simp [hdn], by simp; omega, fun ps => ?_, ⟨_, _, _, _, _, rfl⟩, by simp [ePl]⟩
          rw [List.mem_append, List.mem_singleton, hrows]
          constructor
          · rintro (⟨r, hr, h⟩ | rfl)
            · exact ⟨r, by simp [hr], h⟩
            · exact ⟨y, by simp, q, rfl⟩
          · rintro ⟨r, hr, h, h'⟩
            rcases List.mem_append.mp hr with hr | hr
            · exact .inl ⟨r, hr, h, h'⟩
            · rw [List.mem_singleton.mp hr] at h'
              exact .inr h'.symm
    case fin =>
      subst he hst
      have : rulesT fs.fm = rs := map_inj eR_inj hdn
      subst this
      exact ⟨rfl, rfl, rows, hrows, Nat.le_trans hrl (rulesT_len hc hl), rfl⟩
    case post =>
      obtain ⟨fl, env, st'⟩ := p
      obtain ⟨p1, p2, rows, p3, p4, p5⟩ := hp
      simp only at p1 p2 p5
      subst p1 p5
      have hN : (st ++ [Ob.lst (rows.map ePl)])[st.length]? = some (.lst (rows.map ePl)) := by simp
      have hfrz : frz (st ++ [Ob.lst (rows.map ePl)]) st.length 6 (.ref st.length) = some (.lst (rows.map ePl)) := by
        unfold frz
        simp only
        rw [if_neg (by omega), hN]
        simp only
        rw [mapM_low fun d hd => by
          obtain ⟨ps, _, rfl⟩ := List.mem_map.mp hd
          exact low_pl _ (ePl_pl ps)]
        rfl
      simp [w_scons, p2, hfrz, lowSt_app]
      exact ⟨rows, p3, p4, rfl⟩
  obtain ⟨p, hp, rows, h4, h5, rfl⟩ := main
  exact ⟨rows, h4, h5, hp⟩
/-! ### the fewest -/
def fewBody : List St := [.set (.nm 5) (.bf .sorted [.bf .set [.comp false (.idx (.idx (.var 0) (.var 6)) (.lit (.int 0))) (.nm 6) 0 [.var 4] [.cmp .in_ (.var 6) (.var 2)] [6]]]), .ite (.and (.cmp .notin (.lit (.str "sure")) (.var 5)) (.or (.cmp .is (.var 3) (.lit (.non))) (.cmp .lt (.bf .len [.var 5]) (.var 3)))) [.set (.nm 3) (.bf .len [.var 5])] []]
theorem mem_eNs {i : Nat} {K : List Nat} : memD (.int (i : Int)) (eNs K) = some (decide (i ∈ K)) := by
  rw [memD_pl (x := .int (i : Int)) rfl (eNs_pls K) (by simp [D.dp]) (by rw [eNs_dps]; omega)]
  exact congrArg some (decide_eq_decide.mpr (mem_map_inj (f := fun i : Nat => D.int (i : Int)) fun a b e => by simp at e; omega))
def FInv (st : Sto) (l : Log) (rows : List (List Nat)) (K : List Nat) (dn : List D) (env : Env) (st' : Sto) : Prop := ∃ rs : List (List Nat), dn = rs.map ePl ∧ st = st' ∧ ∃ z4 z5 z6, env = [some (eL l), some (.lst (rows.map ePl)), some (ePl K), some (ePr (fewT l rs K)), z4, z5, z6]
theorem few_ok {l : Log} (h : LogOk fm l) {rows : List (List Nat)} {K : List Nat} (hr : ∀ ps ∈ rows, ps.length < 60 ∧ ∀ i ∈ ps, i < l.length)
    (h1 : T.fn "_law_fewest" = some K75.fd__law_fewest) : callD T (n + 1) "_law_fewest" [eL l, .lst (rows.map ePl), ePl K] st = some (ePr (fewT l rows K), st) := by
  rw [callD_eq h1]
  refine run_ret rfl (ePr_low _) rfl ?_
  simp [K75.fd__law_fewest, w_scons]
  refine (for_inv (I := FInv st l rows K) (R := fun p => p.1 = .nx ∧ p.2.2 = st ∧ p.2.1[3]? = some (some (ePr (fewT l rows K)))) (fun _ _ _ _ => same_nil) (fun dn x r env st' e hI => ?step) (fun env st' ⟨rs, hdn, hst, z4, z5, z6, he⟩ => ?fin) ⟨[], rfl, rfl, _, _, _, rfl⟩).mono fun p hp => ?post
  case step =>
    obtain ⟨rs, hdn, hst, z4, z5, z6, he⟩ := hI
    obtain ⟨ps, rfl, hps⟩ : ∃ y, x = ePl y ∧ y ∈ rows := by
      have : x ∈ rows.map ePl := by rw [← e]; simp
      obtain ⟨y, hy, rfl⟩ := List.mem_map.mp this
      exact ⟨y, rfl, hy⟩
    subst he hst
    obtain ⟨hpl, hpi⟩ := hr ps hps
    have hcomp : ∀ z5 z6 b, compD [] st (compB (clD T n) (.idx (.idx (.var 0) (.var 6)) (.lit (.int 0))) (.nm 6) [.cmp .in_ (.var 6) (.var 2)] [6] [some (eL l), some (.lst (rows.map ePl)), some (.lst (eNs K)), b, some (.lst (eNs ps)), z5, z6]) (eNs ps) st = some (((ps.filter fun i => decide (i ∈ K)).map (whoAt l)).map .str, st) := by
      intro z5 z6 b
      rw [List.map_map]
      refine comp_filter (e := fun i : Nat => D.int (i : Int)) fun i hi => ?_
      have hil := hpi i hi
      rw [← W_eq]
      simp [mem_eNs, eL, recAt hil, Rec.d, whoAt, List.getElem?_eq_getElem hil]
    have hstr : ∀ z ∈ (ps.filter fun i => decide (i ∈ K)).map (whoAt l), PyData.strOk z = true := by
      intro z hz
      obtain ⟨i, hi, rfl⟩ := List.mem_map.mp hz
      have hil := hpi i (List.mem_filter.mp hi).1
      unfold whoAt
      rw [List.getElem?_eq_getElem hil]
      exact (h.2 _ (List.getElem_mem hil)).who
    have hlen : ((ps.filter fun i => decide (i ∈ K)).map (whoAt l)).length < 60 := by
      rw [List.length_map]; exact Nat.lt_of_le_of_lt (List.length_filter_le _ _) hpl
    have s1 := set_strs (st := st) (xs := (ps.filter fun i => decide (i ∈ K)).map (whoAt l)) (by omega)
    have s2 := sorted_strs (st := st) hstr (by omega)
    have hnm : srt .str ((ps.filter fun i => decide (i ∈ K)).map (whoAt l)) = namesAt l ps K := rfl
    rw [hnm] at s2
    have hno : ∀ z ∈ namesAt l ps K, PyData.strOk z = true := fun z hz => hstr z (mem_srt.mp hz)
    have hm2 : memD (.str ("sure" : Str)) ((namesAt l ps K).map .str) = some (decide (("sure" : Str) ∈ namesAt l ps K)) := by
      rw [memD_pl (x := .str ("sure" : Str)) strOk_sure (strs_pl hno) (by simp [D.dp]) (by rw [strs_dp]; omega)]
      exact congrArg some (decide_eq_decide.mpr (mem_map_inj str_inj))
    generalize hxs : (ps.filter fun i => decide (i ∈ K)).map (whoAt l) = xs at hcomp s1 s2
    have hb : ps.length ≤ sizeLine := by rw [sizeLine_eq]; omega
    have hbe : (eNs ps).length ≤ sizeLine := by unfold eNs; simpa using hb
    have hfold : fewT l (rs ++ [ps]) K = fewStep l K (fewT l rs K) ps := by unfold fewT; rw [List.foldl_append]; rfl
    have fin : ∀ b' z4 z5 z6, b' = ePr (fewT l (rs ++ [ps]) K) → FInv st l rows K (dn ++ [ePl ps]) [some (eL l), some (.lst (rows.map ePl)), some (ePl K), some b', z4, z5, z6] st := fun b' z4 z5 z6 hb => ⟨rs ++ [ps], by simp [hdn], rfl, z4, z5, z6, by rw [hb]⟩
    simp only [ePl] at fin ⊢
    cases q : fewT l rs K with
    | none =>
      rw [q] at hfold
      by_cases c : ("sure" : Str) ∈ namesAt l ps K
      · have h5 : fewStep l K none ps = none := by unfold fewStep; rw [if_neg (by simp [c])]
        simp [w_scons, hcomp, hbe, s1, s2, hm2, c]
        exact fin _ _ _ _ (by rw [hfold, h5])
      · have h5 : fewStep l K none ps = some (namesAt l ps K).length := by unfold fewStep; rw [if_pos ⟨c, .inl rfl⟩]
        simp [w_scons, hcomp, hbe, s1, s2, hm2, c, ePr]
        exact fin _ _ _ _ (by rw [hfold, h5]; rfl)
    | some b =>
      rw [q] at hfold
      by_cases c : ("sure" : Str) ∈ namesAt l ps K
      · have h5 : fewStep l K (some b) ps = some b := by unfold fewStep; rw [if_neg (by simp [c])]
        simp [w_scons, hcomp, hbe, s1, s2, hm2, c]
        exact fin _ _ _ _ (by rw [hfold, h5])
      · by_cases c2 : (namesAt l ps K).length < b
        · have h5 : fewStep l K (some b) ps = some (namesAt l ps K).length := by unfold fewStep; rw [if_pos ⟨c, .inr ⟨b, rfl, c2⟩⟩]
          simp [w_scons, hcomp, hbe, s1, s2, hm2, c, ePr, c2]
          exact fin _ _ _ _ (by rw [hfold, h5]; rfl)
        · have h5 : fewStep l K (some b) ps = some b := by unfold fewStep; rw [if_neg (by simp [c]; omega)]
          simp [w_scons, hcomp, hbe, s1, s2, hm2, c, ePr, c2]
          exact fin _ _ _ _ (by rw [hfold, h5]; rfl)
  case fin =>
    subst he hst
    have : rows = rs := map_inj ePl_inj hdn
    subst this
    exact ⟨rfl, rfl, rfl⟩
  case post =>
    obtain ⟨fl, env, st'⟩ := p
    obtain ⟨p1, p2, p3⟩ := hp
    simp only at p1 p2 p3
    subst p1 p2
    simp [w_scons, p3]
end
end MP
end
section
set_option Elab.async false
set_option linter.all false
set_option maxRecDepth 100000
set_option maxHeartbeats 4000000
/-! LQc: cases and claims that are drawn. -/
namespace MP
open PySem
theorem All2.take {α β : Type} {R : α → β → Prop} : ∀ {as : List α} {bs : List β} (n : Nat), All2 R as bs → All2 R (as.take n) (bs.take n)
  | _, _, 0, _ => by simp; exact .nil
  | _, _, n + 1, .nil => by simp; exact .nil
  | _, _, n + 1, .cons h t => by simp; exact .cons h (t.take n)
theorem at_len {α : Type} {e : α → D} {dn r : List D} {x : D} {xs : List α} (h : dn ++ x :: r = xs.map e) : ∃ hj : dn.length < xs.length, x = e xs[dn.length] := by
  have h1 : (xs.map e)[dn.length]? = some x := by rw [← h]; simp
  rw [List.getElem?_map] at h1
  cases q : xs[dn.length]? with
  | none => rw [q] at h1; cases h1
  | some y =>
    rw [q] at h1
    obtain ⟨h2, h3⟩ := List.getElem?_eq_some_iff.mp q
    exact ⟨h2, by rw [h3]; exact (Option.some.inj h1).symm⟩
theorem at_map' {α : Type} {e : α → D} {xs : List α} {q : Int} (h0 : 0 ≤ q) (h : q.toNat < xs.length) : L2.atI (xs.map e) q = some (e xs[q.toNat]) := by
  have := at_map (e := e) h
  rwa [Int.toNat_of_nonneg h0] at this
/-- a list grows: what it had is the first part of what is due -/
def caseBody (g : Str) : List St := [.ite (.isi (.idx (.var 4) (.lit (.int 0))) .int) [.ex (.mt .append (.var 2) [.bin .add (.idx (.var 4) (.lit (.int 0))) (.call g [.var 0, .bin .add (.bin .sub (.idx (.var 4) (.lit (.int 1))) (.idx (.var 4) (.lit (.int 0)))) (.lit (.int 1))])])] [.ex (.mt .append (.var 2) [.idx (.var 4) (.call g [.var 0, .bf .len [.var 4]])])]]
def fdCase (p g : Str) : FD := ⟨[p, ("form" : Str)], 5, false, [
    .set (.nm 2) (.lst true []),
    .for_ (.tp [.nm 3, .nm 4]) 0 [.var 1] (caseBody g),
    .ret (.bf .tuple [.var 2])]⟩
def isCase (fm : Fm) (d : D) : Prop := ∃ c, d = eC c ∧ COf fm c
section
variable {T : Tx} {n : Nat} {B : Int} {g : Str} (leaf : ∀ m : Int, 0 < m → m < 1073741824 → Dr B T n g [.ref 2, .int m] (isBelow m))
include leaf
theorem leaf_at {m : Int} (hm : 0 < m ∧ m < 1073741824) {s : Sto} (hv : Vine B s) (ls : Sto) {Q : D × Sto → Prop} (h : ∀ (r : Int) (s' : Sto), 0 ≤ r → r < m → Vine B s' → Fr s s' → Q (.int r, s' ++ ls)) : W (callD T n g [.ref 2, .int m] (s ++ ls)) Q := by
  refine ((leaf m hm.1 hm.2).at hv ls).mono ?_
  rintro ⟨d, st⟩ ⟨s', ⟨r, hr, h0, h1⟩, h2, h3, h4⟩
  simp only at hr h2
  subst hr h2
  exact h r s' h0 h1 h3 h4
def CI (B : Int) (fs : Form) (s : Sto) (dn : List D) (env : Env) (st' : Sto) : Prop := ∃ (c : Cs) (s' : Sto), All2 (fun sp v => letV sp v = true) (fs.fm.take dn.length) c ∧ (∃ z3 z4, env = [some (.ref 2), some (eF fs), some (.ref s.length), z3, z4]) ∧ st' = s' ++ [.lst (c.map Vl.d)] ∧ Vine B s' ∧ Fr s s'
theorem case_ok {f p : Str} {fs : Form} (o : FmOk fs.fm) (hf : T.fn f = some (fdCase p g)) : Dr B T (n + 1) f [.ref 2, eF fs] (isCase fs.fm) := by
  refine dr_of hf rfl rfl fun s hv => ?_
  simp [fdCase, w_scons, eF]
  refine (for_inv (I := CI B fs s) (R := fun p => p.1 = .nx ∧ ∃ c s', COf fs.fm c ∧ p.2.1[2]? = some (some (.ref s.length)) ∧ p.2.2 = s' ++ [.lst (c.map Vl.d)] ∧ Vine B s' ∧ Fr s s') (fun _ _ _ _ => same_nil) (fun dn x r env st' e hI => ?step) (fun env st' ⟨c, s', hc, ⟨z3, z4, he⟩, hst, hv', hfr⟩ => ?fin) ⟨[], s, by simp; exact .nil, ⟨_, _, rfl⟩, rfl, hv, Fr.refl s⟩).mono fun p hp => ?post
  case step =>
    obtain ⟨c, s', hc, ⟨z3, z4, he⟩, hst, hv', hfr⟩ := hI
    obtain ⟨hj, rfl⟩ := at_len e
    subst he hst
    have hjf : dn.length < fs.fm.length := by simpa [Form.fm] using hj
    have hsp : fs[dn.length].2 = fs.fm[dn.length] := by simp [Form.fm]
    have os := o.2.2 _ (List.getElem_mem hjf)
    rw [← hsp] at os
    have hcl : c.length ≤ 4 := by
      have := hc.len
      have h2 := o.2.1
      simp at this; omega
    have key : ∀ (v : Vl) (s2 : Sto), letV fs[dn.length].2 v = true → Vine B s2 → Fr s s2 → ∀ z3 z4, CI B fs s (dn ++ [eFd fs[dn.length]]) [some (.ref 2), some (eF fs), some (.ref s.length), z3, z4] (s2 ++ [.lst (c.map Vl.d ++ [v.d])]) := by
      intro v s2 hl hv2 hf2 z3 z4
      refine ⟨c ++ [v], s2, ?_, ⟨_, _, rfl⟩, by simp, hv2, hf2⟩
      rw [List.length_append, List.length_singleton, List.take_succ_eq_append_getElem hjf]
      exact All2.append hc (.cons (by rw [← hsp]; exact hl) .nil)
    have app : ∀ (s2 : Sto) (d : D), Fr s s2 → mtOk .append (s2 ++ [Ob.lst (c.map Vl.d)]) (.ref s.length) = true ∧ mtD .append (s2 ++ [Ob.lst (c.map Vl.d)]) (.ref s.length) [d] = some (.non, s2 ++ [Ob.lst (c.map Vl.d ++ [d])]) := by
      intro s2 d h2
      have hg : (s2 ++ [Ob.lst (c.map Vl.d)])[s.length]? = some (.lst (c.map Vl.d)) := by rw [gk0 h2.1]; rfl
      refine ⟨mtok_ref hg (by simp), ?_⟩
      rw [append_ref hg (by rw [sizeLine_eq]; simp; omega), sk0 h2.1]; rfl
    simp only [eF] at key
    cases q : fs[dn.length].2 with
    | r a b =>
      rw [q] at os key
      have os : a ≤ b ∧ -100000 ≤ a ∧ b ≤ 100000 := os
      simp [caseBody, w_scons, eFd, q, Cn.d, (app s' .non hfr).1]
      refine leaf_at leaf ⟨by omega, by omega⟩ hv' _ fun r s2 h0 h1 hv2 hf2 => ?_
      have h3 := app s2 (.int (a + r)) (hfr.trans hf2)
      simp [h3.1, h3.2]
      have := key (.i (a + r)) s2 (by simp [letV]; omega) hv2 (hfr.trans hf2)
      simp only [eFd, q, Cn.d] at this
      exact this _ _
    | n xs =>
      rw [q] at os key
      obtain ⟨y, ys, hys⟩ := List.exists_cons_of_ne_nil os.2.2.2
      have hxl := os.2.1
      have hpos : 0 < xs.length := by rw [hys]; simp
      have h0s : L2.atI (xs.map D.str) 0 = some (.str xs[0]) := at_map (i := 0) hpos
      simp [caseBody, w_scons, eFd, q, Cn.d, (app s' .non hfr).1, h0s]
      refine leaf_at leaf ⟨by omega, by omega⟩ hv' _ fun r s2 h0 h1 hv2 hf2 => ?_
      obtain ⟨hr, hat⟩ := at_lt (xs := xs.map D.str) h0 (by simpa using h1)
      have h3 := app s2 (.str (xs[r.toNat]'(by simpa using hr))) (hfr.trans hf2)
      simp at hat
      simp [hat, h3.1, h3.2]
      have := key (.s (xs[r.toNat]'(by simpa using hr))) s2 (by simp [letV]) hv2 (hfr.trans hf2)
      simp only [eFd, q, Cn.d] at this
      exact this _ _
  case fin =>
    subst he hst
    refine ⟨rfl, c, s', ?_, rfl, rfl, hv', hfr⟩
    rw [List.take_of_length_le (by simp [Form.fm])] at hc
    exact hc
  case post =>
    obtain ⟨fl, env, st'⟩ := p
    obtain ⟨h1, c, s', hc, h2, h3, hv', hfr⟩ := hp
    simp only at h1 h2 h3
    subst h1 h3
    have hg : (s' ++ [Ob.lst (c.map Vl.d)])[s.length]? = some (.lst (c.map Vl.d)) := by rw [gk0 hfr.1]; rfl
    simp [w_scons, h2, tuple_ref hg]
    exact drPost (low_of_pl (eC_pl o hc)) ⟨c, rfl, hc⟩ hv' hfr
/-! ### claims -/
def clBody (g c : Str) : List St := [.set (.nm 6) (.ite (.cmp .eq (.call g [.var 0, .lit (.int 2)]) (.lit (.int 0))) (.call c [.var 0, .var 1]) (.idx (.idx (.var 2) (.call g [.var 0, .bf .len [.var 2]])) (.lit (.int 1)))), .ex (.mt .append (.var 4) [.tup [.var 6, .idx (.tup [.lit (.str ("let" : Str)), .lit (.str ("refused" : Str))]) (.call g [.var 0, .lit (.int 2)])]])]
def fdClaims (p a g c : Str) (pl : Int) : FD := ⟨[p, ("form" : Str), ("log" : Str), ("most" : Str)], 7, false, [
    .set (.nm 4) (.lst true []),
    .for_ (.nm 5) 1 [.call a [.var 0, .lit (.int pl), .bin .add (.var 3) (.lit (.int 1))]] (clBody g c),
    .ret (.bf .tuple [.var 4])]⟩
def isClaims (fm : Fm) (m : Int) (d : D) : Prop := ∃ cl, d = eCl cl ∧ ClsOk fm cl ∧ (cl.length : Int) ≤ m
def KI (B : Int) (fs : Form) (l : Log) (m : Int) (s : Sto) (dn : List D) (env : Env) (st' : Sto) : Prop := ∃ (cl : List Clm) (s' : Sto), cl.length = dn.length ∧ (∀ c ∈ cl, COf fs.fm c.1 ∧ PyData.strOk c.2 = true) ∧ (∃ z3 z4, env = [some (.ref 2), some (eF fs), some (eL l), some (.int m), some (.ref s.length), z3, z4]) ∧ st' = s' ++ [.lst (cl.map eClm)] ∧ Vine B s' ∧ Fr s s'
theorem claims_ok {f p a c : Str} {pl : Nat} {fs : Form} {l : Log} {m : Int} (o : FmOk fs.fm) (hl : LogOk fs.fm l) (hl0 : 0 < l.length) (hm : 0 ≤ m ∧ m ≤ 40) (hf : T.fn f = some (fdClaims p a g c (pl : Int)))
    (lean : ∀ m : Int, 0 < m → m < 1073741824 → Dr B T n a [.ref 2, .int (pl : Int), .int m] (isBelow m)) (case : Dr B T n c [.ref 2, eF fs] (isCase fs.fm)) : Dr B T (n + 1) f [.ref 2, eF fs, eL l, .int m] (isClaims fs.fm m) := by
  refine dr_of hf rfl rfl fun s hv => ?_
  simp [fdClaims, w_scons]
  refine ((lean (m + 1) (by omega) (by omega)).at hv _).mono ?_
  rintro ⟨d, st⟩ ⟨s1, ⟨k, hr, k0, k1⟩, h2, hv1, hf1⟩
  simp only at hr h2
  subst hr h2
  have hsk : small62 k = true := small_of (by omega) (by omega)
  simp [src1 hsk]
  rw [range_map]
  refine (for_inv (I := KI B fs l m s) (R := fun p => p.1 = .nx ∧ ∃ (cl : List Clm) (s' : Sto), cl.length = k.toNat ∧ (∀ c ∈ cl, COf fs.fm c.1 ∧ PyData.strOk c.2 = true) ∧ p.2.1[4]? = some (some (.ref s.length)) ∧ p.2.2 = s' ++ [.lst (cl.map eClm)] ∧ Vine B s' ∧ Fr s s') (fun _ _ _ _ => same_nil) (fun dn x r env st' e hI => ?step) (fun env st' ⟨cl, s', hcl, hcc, ⟨z3, z4, he⟩, hst, hv', hfr⟩ => ?fin) ⟨[], s1, rfl, by simp, ⟨_, _, rfl⟩, rfl, hv1, hf1⟩).mono fun p hp => ?post
  case step =>
    obtain ⟨cl, s', hcl, hcc, ⟨z3, z4, he⟩, hst, hv', hfr⟩ := hI
    obtain ⟨hj, rfl⟩ := at_len e
    subst he hst
    have hjk : dn.length < k.toNat := by simpa using hj
    have app : ∀ (s2 : Sto) (d : D), Fr s s2 → mtOk .append (s2 ++ [Ob.lst (cl.map eClm)]) (.ref s.length) = true ∧ mtD .append (s2 ++ [Ob.lst (cl.map eClm)]) (.ref s.length) [d] = some (.non, s2 ++ [Ob.lst (cl.map eClm ++ [d])]) := by
      intro s2 d h2
      have hg : (s2 ++ [Ob.lst (cl.map eClm)])[s.length]? = some (.lst (cl.map eClm)) := by rw [gk0 h2.1]; rfl
      refine ⟨mtok_ref hg (by simp), ?_⟩
      rw [append_ref hg (by rw [sizeLine_eq]; simp; omega), sk0 h2.1]; rfl
    -- the second half: the word, put behind
    have tail : ∀ (c : Cs) (s2 : Sto) (z : Option D), COf fs.fm c → Vine B s2 → Fr s s2 → ∀ x, W (evSs (clD T n) [.ex (.mt .append (.var 4) [.tup [.var 6, .idx (.tup [.lit (.str ("let" : Str)), .lit (.str ("refused" : Str))]) (.call g [.var 0, .lit (.int 2)])]])] [some (.ref 2), some (eF fs), some (eL l), some (.int m), some (.ref s.length), z, some (eC c)] (s2 ++ [.lst (cl.map eClm)])) fun p => p.1 = .nx ∧ KI B fs l m s (dn ++ [x]) p.2.1 p.2.2 := by
      intro c s2 z hc hv2 hf2 x
      simp [w_scons, (app s2 .non hf2).1]
      refine leaf_at leaf ⟨by omega, by omega⟩ hv2 _ fun r s3 h0 h1 hv3 hf3 => ?_
      rcases (by omega : r = 0 ∨ r = 1) with e | e
      · subst e
        have h3 := (app s3 (.tup [eC c, .str ("let" : Str)]) (hf2.trans hf3)).2
        simp [h3]
        refine ⟨cl ++ [(c, ("let" : Str))], s3, by simp [hcl], ?_, ⟨_, _, rfl⟩, by simp [eClm], hv3, hf2.trans hf3⟩
        intro y hy
        rcases List.mem_append.mp hy with hy | hy
        · exact hcc y hy
        · rw [List.mem_singleton.mp hy]; exact ⟨hc, strOk_let⟩
      · subst e
        have h3 := (app s3 (.tup [eC c, .str ("refused" : Str)]) (hf2.trans hf3)).2
        simp [h3]
        refine ⟨cl ++ [(c, ("refused" : Str))], s3, by simp [hcl], ?_, ⟨_, _, rfl⟩, by simp [eClm], hv3, hf2.trans hf3⟩
        intro y hy
        rcases List.mem_append.mp hy with hy | hy
        · exact hcc y hy
        · rw [List.mem_singleton.mp hy]; exact ⟨hc, strOk_refused⟩
    show W (forB (clD T n) (.nm 5) (clBody g c) _ _ _) _
    rw [w_forB, w_bnm, clBody, w_scons, w_set, w_ite, w_cmp, w_call]
    simp
    refine leaf_at leaf ⟨by omega, by omega⟩ hv' _ fun r s2 h0 h1 hv2 hf2 => ?_
    by_cases c0 : r = 0
    · subst c0
      simp
      refine (case.at hv2 _).mono ?_
      rintro ⟨d, st⟩ ⟨s3, ⟨c', hd, hc'⟩, h3, hv3, hf3⟩
      simp only at hd h3
      subst hd h3
      refine (tail c' s3 _ hc' hv3 ((hfr.trans hf2).trans hf3) (.int ((dn.length : Nat) : Int))).mono fun p hp => ?_
      exact .inl ⟨.inl hp.1, hp.2⟩
    · have hll := hl.1
      have hlen : ∀ st, bfD .len st [eL l] = some (.int (l.length : Int)) := fun st => by simp [eL]
      simp [c0, hlen]
      refine leaf_at leaf ⟨by omega, by omega⟩ hv2 _ fun q s3 q0 q1 hv3 hf3 => ?_
      have hq : q.toNat < l.length := by omega
      have hat : ∀ st, ixD st (eL l) (.int q) = some l[q.toNat].d := fun st => by
        rw [eL, ix_tup, at_map' q0 hq]
      simp [hat, Rec.d]
      refine (tail _ s3 _ (hl.2 _ (List.getElem_mem hq)).case hv3 ((hfr.trans hf2).trans hf3) (.int ((dn.length : Nat) : Int))).mono fun p hp => ?_
      exact .inl ⟨.inl hp.1, hp.2⟩
  case fin =>
    subst he hst
    exact ⟨rfl, cl, s', by simpa using hcl, hcc, rfl, rfl, hv', hfr⟩
  case post =>
    obtain ⟨fl, env, st'⟩ := p
    obtain ⟨h1, cl, s', hcl, hcc, h2, h3, hv', hfr⟩ := hp
    simp only at h1 h2 h3
    subst h1 h3
    have hg : (s' ++ [Ob.lst (cl.map eClm)])[s.length]? = some (.lst (cl.map eClm)) := by rw [gk0 hfr.1]; rfl
    simp [w_scons, h2, tuple_ref hg]
    refine drPost (fun k => ?_) ⟨cl, rfl, ⟨by omega, hcc⟩, by omega⟩ hv' hfr
    rw [D.low, lows_iff]
    intro d hd
    obtain ⟨c, hc, rfl⟩ := List.mem_map.mp hd
    show D.lows k [eC c.1, .str c.2] = true
    rw [D.lows, D.lows, low_pl _ (eC_pl o (hcc c hc).1)]; rfl
end
end MP
end
section
set_option Elab.async false
set_option linter.all false
set_option maxRecDepth 100000
set_option maxHeartbeats 4000000
/-! LQd: drawing without putting back; people; a ladder. -/
namespace MP
open PySem
theorem erase_perm {α : Type} : ∀ {xs : List α} {i : Nat} (h : i < xs.length), (xs[i] :: xs.eraseIdx i).Perm xs
  | x :: xs, 0, _ => by simp
  | x :: xs, i + 1, h => by
    have hi : i < xs.length := by simpa using h
    have := erase_perm hi
    simp only [List.getElem_cons_succ, List.eraseIdx_cons_succ]
    exact (List.Perm.swap x xs[i] _).trans (this.cons x)
theorem set_same {α : Type} : ∀ {xs : List α} {i : Nat} {x : α}, xs[i]? = some x → xs.set i x = xs
  | [], _, _, h => by simp at h
  | y :: ys, 0, x, h => by simp at h; simp [h]
  | y :: ys, i + 1, x, h => by simp at h; simp [set_same h]
section
variable {T : Tx} {n : Nat} {B : Int} {g : Str} (leaf : ∀ m : Int, 0 < m → m < 1073741824 → Dr B T n g [.ref 2, .int m] (isBelow m))
include leaf
/-- one is taken out of a list of the store -/
theorem pop_one {s : Sto} {N : Nat} (hN : s.length = N) (hv : Vine B s) {ls : Sto} {k : Nat} {xs : List D} (hk : ls[k]? = some (.lst xs)) (hx : 0 < xs.length) (hx2 : xs.length ≤ 10000) {env : Env} {L : Nat} (h0 : env[0]? = some (some (.ref 2))) (hL : env[L]? = some (some (.ref (N + k)))) {Q : D × Sto → Prop}
    (h : ∀ (i : Nat) (hi : i < xs.length) (s' : Sto), Vine B s' → Fr s s' → Q (xs[i], s' ++ ls.set k (.lst (xs.eraseIdx i)))) : W (evE (clD T n) (.mt .popAt (.var L) [.call g [.var 0, .bf .len [.var L]]]) env (s ++ ls)) Q := by
  have hg : (s ++ ls)[N + k]? = some (.lst xs) := by rw [gk hN]; exact hk
  simp [hL, h0, mtok_ref hg, len_ref hg]
  refine leaf_at leaf ⟨by omega, by omega⟩ hv _ fun r s' r0 r1 hv' hf => ?_
  have hg2 : (s' ++ ls)[N + k]? = some (.lst xs) := by rw [gk (hf.1.trans hN)]; exact hk
  obtain ⟨hi, hp⟩ := popAt_ref hg2 r0 r1 (by rw [sizeLine_eq]; omega)
  rw [sk (hf.1.trans hN)] at hp
  simp [hp]
  exact h _ hi s' hv' hf
/-- many are taken out, one by one -/
theorem pop_comp {s : Sto} {N : Nat} (hN : s.length = N) (hv : Vine B s) {ls : Sto} {k : Nat} {xs : List D} (hk : ls[k]? = some (.lst xs)) (hx2 : xs.length ≤ 10000) {env : Env} {L V : Nat} (h0 : env[0]? = some (some (.ref 2))) (hL : env[L]? = some (some (.ref (N + k)))) (hV0 : V ≠ 0) (hVL : V ≠ L) {ds : List D} (hd : ds.length ≤ xs.length) {st0 : Sto} :
    W (compD [] st0 (compB (clD T n) (.mt .popAt (.var L) [.call g [.var 0, .bf .len [.var L]]]) (.nm V) [] [V] env) ds (s ++ ls)) fun p => ∃ (s' : Sto) (zs : List D), p.2 = s' ++ ls.set k (.lst zs) ∧ Vine B s' ∧ Fr s s' ∧ (p.1 ++ zs).Perm xs ∧ p.1.length = ds.length := by
  have hkl := (List.getElem?_eq_some_iff.mp hk).1
  refine (comp_inv (I := fun dn ys st => ∃ (s' : Sto) (zs : List D), st = s' ++ ls.set k (.lst zs) ∧ Vine B s' ∧ Fr s s' ∧ (ys ++ zs).Perm xs ∧ ys.length = dn.length) (fun _ _ _ _ => same_nil) (xs := ds) (fun dn x r ys st e ⟨s', zs, hst, hv', hf, hp, hy⟩ => ?_) ⟨s, xs, ?_, hv, Fr.refl s, by simp, rfl⟩)
  · subst hst
    have hzl : 0 < zs.length := by
      have h1 := hp.length_eq
      have h2 := congrArg List.length e
      simp at h1 h2; omega
    have hzl2 : zs.length ≤ 10000 := by
      have h1 := hp.length_eq
      simp at h1; omega
    simp
    have he0 : ((env.set V none).set V (some x))[0]? = some (some (.ref 2)) := by
      rw [List.getElem?_set_ne hV0, List.getElem?_set_ne hV0]; exact h0
    have heL : ((env.set V none).set V (some x))[L]? = some (some (.ref (N + k))) := by
      rw [List.getElem?_set_ne hVL, List.getElem?_set_ne hVL]; exact hL
    have := pop_one leaf (hf.1.trans hN) hv' (ls := ls.set k (.lst zs)) (k := k) (xs := zs) (by rw [List.getElem?_set_self hkl]) hzl hzl2 he0 heL (Q := fun p => ∃ (s'' : Sto) (zs' : List D), p.2 = s'' ++ ls.set k (.lst zs') ∧ Vine B s'' ∧ Fr s s'' ∧ (ys ++ (p.1 :: zs')).Perm xs ∧ (ys ++ [p.1]).length = dn.length + 1) (fun i hi s'' hv'' hf'' => ⟨s'', zs.eraseIdx i, by simp, hv'', hf.trans hf'', (List.Perm.append_left ys (erase_perm hi)).trans hp, by simp [hy]⟩)
    simp at this
    exact this
  · rw [set_same hk]
end
end MP
end
section
set_option Elab.async false
set_option linter.all false
set_option maxRecDepth 100000
set_option maxHeartbeats 4000000
/-! LQe: forms that are drawn (k75 to k77). -/
namespace MP
open PySem
theorem erase_map {α β : Type} {f : α → β} : ∀ (xs : List α) (i : Nat), (xs.map f).eraseIdx i = (xs.eraseIdx i).map f
  | [], _ => by simp
  | x :: xs, 0 => by simp
  | x :: xs, i + 1 => by simp [erase_map xs i]
theorem w_sapp {c : Cl} : ∀ {a b : List St} {env : Env} {st : Sto} {Q : Fl × Env × Sto → Prop}, W (evSs c (a ++ b) env st) Q ↔ W (evSs c a env st) fun p => nxt p (fun env st => W (evSs c b env st) Q) Q
  | [], b, env, st, Q => by simp
  | s :: a, b, env, st, Q => by
    rw [List.cons_append, w_scons, w_scons]
    constructor
    · intro h
      refine h.mono fun p hp => ?_
      obtain ⟨fl, env1, st1⟩ := p
      cases fl <;> simp at hp ⊢
      · exact w_sapp.mp hp
      · exact hp
      · exact hp
      · exact hp
    · intro h
      refine h.mono fun p hp => ?_
      obtain ⟨fl, env1, st1⟩ := p
      cases fl <;> simp at hp ⊢
      · exact w_sapp.mpr hp
      · exact hp
      · exact hp
      · exact hp
theorem conds_r_len {a b : Int} (h : b - a ≤ 13) : (condsT (.r a b)).length ≤ 200 := by
  unfold condsT
  rw [List.length_flatMap]
  have h1 : ∀ x ∈ (intsL a (b + 1)).map fun l => ((intsL l (b + 1)).map fun m => Cn.r l m).length, x ≤ 14 := by
    intro x hx
    obtain ⟨l, hl, rfl⟩ := List.mem_map.mp hx
    have := mem_intsL.mp hl
    simp [intsL]; omega
  have h2 : ((intsL a (b + 1)).map fun l => ((intsL l (b + 1)).map fun m => Cn.r l m).length).length ≤ 14 := by
    simp [intsL]; omega
  generalize (intsL a (b + 1)).map (fun l => ((intsL l (b + 1)).map fun m => Cn.r l m).length) = xs at *
  have : ∀ (xs : List Nat), (∀ x ∈ xs, x ≤ 14) → xs.sum ≤ 14 * xs.length := by
    intro xs
    induction xs with
    | nil => intro _; simp
    | cons x xs ih => intro h; have := h x (by simp); have := ih fun y hy => h y (by simp [hy]); simp; omega
  have := this xs h1
  omega
theorem conds_n_len {xs : List Str} (h : xs.length ≤ 7) : (condsT (.n xs)).length ≤ 200 := by
  unfold condsT
  rw [List.length_map]
  have hp : (2 : Int) ^ xs.length ≤ 2 ^ 7 := by
    have := Nat.pow_le_pow_right (n := 2) (by omega) h
    have h2 : ((2 ^ xs.length : Nat) : Int) ≤ ((2 ^ 7 : Nat) : Int) := Int.ofNat_le.mpr this
    push_cast at h2; exact h2
  simp [intsL]
  omega
/-- a form as the laws' tools want it -/
structure FoOk (fs : Form) : Prop where
  fm : FmOk fs.fm
  len : fs.length ≤ 3
  conds : ∀ sp ∈ fs.fm, (condsT sp).length ≤ 200
def isForm (d : D) : Prop := ∃ fs, d = eF fs ∧ FoOk fs
def SpGood (sp : Cn) : Prop := SpOk sp ∧ (condsT sp).length ≤ 200
theorem sorted_lst {st : Sto} {xs : List Str} (h : ∀ x ∈ xs, PyData.strOk x = true) (hl : xs.length < 64) : bfD .sorted st [.lst (xs.map .str)] = some (.lst ((xs.mergeSort fun a b => dle (.str a) (.str b)).map .str)) := by
  show ((itemsOf st (.lst (xs.map .str))).bind sortD).map D.lst = _
  rw [items_lst, Option.bind_some, sortD_map (p := .str) (fun _ _ => rfl) (fun _ _ _ _ => rfl) (sortable_strs _) (fun x hx => ⟨h x hx, by rw [PyData.depth]; omega⟩) (by rw [sizeLine_eq]; omega)]
  rfl
/-! ### the def -/
def formA (g a : Str) : List St := [.set (.nm 6) (.idx (.tup [.lit (.int 2), .lit (.int 3), .lit (.int 4), .lit (.int 5), .lit (.int 6)]) (.call a [.var 0, .lit (.int 2), .lit (.int 5)])), .ite (.cmp .lt (.call a [.var 0, .lit (.int 3), .lit (.int 5)]) (.lit (.int 3))) [.set (.tp [.nm 7, .nm 8]) (.tup [.idx (.tup [.lit (.int 0), .neg (.lit (.int 3)), .bin .sub (.lit (.int 17)) (.var 6), .bin .sub (.call g [.var 0, .lit (.int 9)]) (.lit (.int 6))]) (.call g [.var 0, .lit (.int 4)]), .bin .fdiv (.bin .mul (.var 6) (.bin .add (.var 6) (.lit (.int 1)))) (.lit (.int 2))]), .set (.nm 9) (.tup [.var 7, .bin .sub (.bin .add (.var 7) (.var 6)) (.lit (.int 1))])] [.set (.nm 6) (.bf .min2 [.var 6, .lit (.int 4)]), .set (.tp [.nm 9, .nm 8]) (.tup [.bf .tuple [.bf .sorted [.comp false (.mt .popAt (.var 3) [.call g [.var 0, .bf .len [.var 3]]]) (.nm 10) 1 [.ite (.cmp .gt (.var 6) (.bin .sub (.bf .len [.var 3]) (.lit (.int 2)))) (.lit (.int 2)) (.var 6)] [] [10]]], .bin .sub (.bin .shl (.lit (.int 1)) (.var 6)) (.lit (.int 1))])]]
def formB (g : Str) : List St := [.ite (.or (.cmp .eq (.bf .len [.var 1]) (.lit (.int 0))) (.cmp .gt (.bin .fdiv (.var 4) (.var 8)) (.lit (.int 0)))) [.ex (.mt .append (.var 1) [.tup [.mt .popAt (.var 2) [.call g [.var 0, .bf .len [.var 2]]], .var 9]]), .set (.nm 4) (.bin .fdiv (.var 4) (.var 8))] [], .ite (.cmp .lt (.bf .len [.var 3]) (.lit (.int 4))) [.brk] []]
def fdForm (p g a : Str) : FD := ⟨[p], 11, false, [
    .set (.nm 1) (.lst true []),
    .set (.nm 2) (.lst true [.lit (.str ("hour" : Str)), .lit (.str ("kind" : Str)), .lit (.str ("a1" : Str)), .lit (.str ("zz9" : Str)), .lit (.str ("size" : Str)), .lit (.str ("q" : Str))]),
    .set (.nm 3) (.lst true [.lit (.str ("bill" : Str)), .lit (.str ("note" : Str)), .lit (.str ("red" : Str)), .lit (.str ("b2" : Str)), .lit (.str ("x" : Str)), .lit (.str ("page" : Str)), .lit (.str ("p7" : Str)), .lit (.str ("cash" : Str))]),
    .set (.nm 4) (.idx (.tup [.lit (.int 80), .lit (.int 150), .lit (.int 300)]) (.call g [.var 0, .lit (.int 3)])),
    .for_ (.nm 5) 1 [.bin .add (.lit (.int 1)) (.call a [.var 0, .lit (.int 1), .lit (.int 3)])] (formA g a ++ formB g),
    .ret (.bf .tuple [.var 1])]⟩
section
variable {T : Tx} {n : Nat} {B : Int} {g a : Str} (leaf : ∀ m : Int, 0 < m → m < 1073741824 → Dr B T n g [.ref 2, .int m] (isBelow m))
  (lean : ∀ (pl : Nat) (m : Int), pl < 100 → 0 < m → m < 1073741824 → Dr B T n a [.ref 2, .int (pl : Int), .int m] (isBelow m))
include leaf lean
theorem lean_at {pl : Nat} {m : Int} (hpl : pl < 100) (hm : 0 < m ∧ m < 1073741824) {s : Sto} (hv : Vine B s) (ls : Sto) {Q : D × Sto → Prop} (h : ∀ (r : Int) (s' : Sto), 0 ≤ r → r < m → Vine B s' → Fr s s' → Q (.int r, s' ++ ls)) : W (callD T n a [.ref 2, .int (pl : Int), .int m] (s ++ ls)) Q := by
  refine ((lean pl m hpl hm.1 hm.2).at hv ls).mono ?_
  rintro ⟨d, st⟩ ⟨s', ⟨r, hr, h0, h1⟩, h2, h3, h4⟩
  simp only at hr h2
  subst hr h2
  exact h r s' h0 h1 h3 h4
omit leaf lean in
theorem perm_strs {l : List D} {vs : List Str} (h : l.Perm (vs.map .str)) : ∃ w : List Str, l = w.map .str ∧ w.Perm vs := by
  let un : D → Str := fun d => match d with | .str x => x | _ => ⟨#[]⟩
  refine ⟨l.map un, ?_, ?_⟩
  · rw [List.map_map]
    conv => lhs; rw [← List.map_id l]
    refine List.map_congr_left fun d hd => ?_
    obtain ⟨x, _, rfl⟩ := List.mem_map.mp (h.mem_iff.mp hd)
    rfl
  · have := h.map un
    rw [List.map_map] at this
    have e : vs.map (un ∘ D.str) = vs := by
      conv => rhs; rw [← List.map_id vs]
      exact List.map_congr_left fun _ _ => rfl
    rw [e] at this
    exact this
/-- behind the span: what it is, what it costs, the values that are left -/
def FA (B : Int) (N : Nat) (left : Int) (z5 : Option D) (o0 o1 : Ob) (s : Sto) (p : Fl × Env × Sto) : Prop := ∃ (s' : Sto) (sp : Cn) (vs' : List Str) (cost : Int) (y6 y7 y10 : Option D), p = (.nx, [some (.ref 2), some (.ref N), some (.ref (N + 1)), some (.ref (N + 2)), some (.int left), z5, y6, y7, some (.int cost), some sp.d, y10], s' ++ [o0, o1, .lst (vs'.map .str)]) ∧ Vine B s' ∧ Fr s s' ∧ SpGood sp ∧ 0 < cost ∧ cost < 1000 ∧ vs'.Nodup ∧ (∀ x ∈ vs', PyData.strOk x = true) ∧ 2 ≤ vs'.length ∧ vs'.length ≤ 8
theorem formA_ok {s : Sto} {N : Nat} (hN : s.length = N) (hv : Vine B s) {o0 o1 : Ob} {vs : List Str} (hvs : vs.Nodup) (hst : ∀ x ∈ vs, PyData.strOk x = true) (h4 : 4 ≤ vs.length) (h8 : vs.length ≤ 8) {left : Int} {z5 z6 z7 z8 z9 z10 : Option D} :
    W (evSs (clD T n) (formA g a) [some (.ref 2), some (.ref N), some (.ref (N + 1)), some (.ref (N + 2)), some (.int left), z5, z6, z7, z8, z9, z10] (s ++ [o0, o1, .lst (vs.map .str)])) (FA B N left z5 o0 o1 s) := by
  simp only [formA]
  rw [w_scons, w_set, w_idx]
  simp
  refine lean_at leaf lean (pl := 2) (by omega) ⟨by omega, by omega⟩ hv _ fun r s1 r0 r1 hv1 hf1 => ?_
  have hmany : ∃ many : Int, 2 ≤ many ∧ many ≤ 6 ∧ ∀ st, ixD st (.tup [.int 2, .int 3, .int 4, .int 5, .int 6]) (.int r) = some (.int many) := by
    rcases (by omega : r = 0 ∨ r = 1 ∨ r = 2 ∨ r = 3 ∨ r = 4) with e | e | e | e | e <;> subst e
    · exact ⟨2, by omega, by omega, fun st => by simp⟩
    · exact ⟨3, by omega, by omega, fun st => by simp⟩
    · exact ⟨4, by omega, by omega, fun st => by simp⟩
    · exact ⟨5, by omega, by omega, fun st => by simp⟩
    · exact ⟨6, by omega, by omega, fun st => by simp⟩
  obtain ⟨many, m2, m6, hix⟩ := hmany
  simp only [hix, W_some]
  rw [w_scons, w_if, w_cmp, w_call]
  simp
  refine lean_at leaf lean (pl := 3) (by omega) ⟨by omega, by omega⟩ hv1 _ fun q s2 q0 q1 hv2 hf2 => ?_
  have hf12 := hf1.trans hf2
  simp
  split
  · -- numbers
    simp [w_scons]
    refine leaf_at leaf ⟨by omega, by omega⟩ hv2 _ fun u s3 u0 u1 hv3 hf3 => ?_
    simp
    refine leaf_at leaf ⟨by omega, by omega⟩ hv3 _ fun w s4 w0 w1 hv4 hf4 => ?_
    have hleast : ∃ least : Int, -10 ≤ least ∧ least ≤ 20 ∧ ∀ st, ixD st (.tup [.int 0, .int (-3), .int (17 - many), .int (u - 6)]) (.int w) = some (.int least) := by
      rcases (by omega : w = 0 ∨ w = 1 ∨ w = 2 ∨ w = 3) with e | e | e | e <;> subst e
      · exact ⟨0, by omega, by omega, fun st => by simp⟩
      · exact ⟨-3, by omega, by omega, fun st => by simp⟩
      · exact ⟨17 - many, by omega, by omega, fun st => by simp⟩
      · exact ⟨u - 6, by omega, by omega, fun st => by simp⟩
    obtain ⟨least, l0, l1, hix2⟩ := hleast
    simp only [ix_tup] at hix2
    simp [hix2 [], mul_int (i := many) (j := many + 1) (.inl (by omega)), fdiv_int (i := many * (many + 1)) (j := 2) (by omega) (by omega)]
    refine ⟨s4, .r least (least + many - 1), vs, many * (many + 1) / 2, _, _, _, rfl, hv4, hf12.trans (hf3.trans hf4), ⟨?_, conds_r_len (by omega)⟩, ?_, ?_, hvs, hst, by omega, h8⟩
    · show least ≤ least + many - 1 ∧ -100000 ≤ least ∧ least + many - 1 ≤ 100000
      omega
    · rcases (by omega : many = 2 ∨ many = 3 ∨ many = 4 ∨ many = 5 ∨ many = 6) with e | e | e | e | e <;> subst e <;> decide
    · rcases (by omega : many = 2 ∨ many = 3 ∨ many = 4 ∨ many = 5 ∨ many = 6) with e | e | e | e | e <;> subst e <;> decide
  · -- names
    have hmin : ∃ mm : Nat, 2 ≤ mm ∧ mm ≤ 4 ∧ (if (4 : Int) < many then (4 : Int) else many) = (mm : Int) := by
      split
      · exact ⟨4, by omega, by omega, rfl⟩
      · exact ⟨many.toNat, by omega, by omega, by omega⟩
    obtain ⟨mm, mm2, mm4, hmm⟩ := hmin
    have hg : ∀ s' : Sto, s'.length = N → (s' ++ [o0, o1, Ob.lst (vs.map .str)])[N + 2]? = some (.lst (vs.map .str)) := fun s' hs => by rw [gk hs]; rfl
    have hsl : s2.length = N := hf12.1.trans hN
    have key : ∀ cnt : Nat, 2 ≤ cnt → cnt ≤ 4 → cnt + 2 ≤ vs.length → ∀ (y6 y7 y8 y9 y10 : Option D) (Q : List D × Sto → Prop), (∀ (s3 : Sto) (w : List Str), Vine B s3 → Fr s s3 → w.Perm vs → Q ((w.take cnt).map .str, s3 ++ [o0, o1, .lst ((w.drop cnt).map .str)])) →
        W (srcD (s2 ++ [o0, o1, Ob.lst (vs.map .str)]) 1 [.int (cnt : Int)]) fun xs => xs.length ≤ sizeLine ∧ W (compD [] (s2 ++ [o0, o1, Ob.lst (vs.map .str)]) (compB (clD T n) (.mt .popAt (.var 3) [.call g [.var 0, .bf .len [.var 3]]]) (.nm 10) [] [10] [some (.ref 2), some (.ref N), some (.ref (N + 1)), some (.ref (N + 2)), some (.int left), z5, y6, y7, y8, y9, y10]) xs (s2 ++ [o0, o1, Ob.lst (vs.map .str)])) Q := by
      intro cnt c2 c4 cl y6 y7 y8 y9 y10 Q hQ
      rw [src1 (small_of (by omega) (by omega)), W_some]
      refine ⟨by simp; rw [sizeLine_eq]; omega, ?_⟩
      refine (pop_comp leaf hsl hv2 (ls := [o0, o1, Ob.lst (vs.map .str)]) (k := 2) (xs := vs.map .str) rfl (by simp; omega) rfl rfl (by omega) (by omega) (by simp; omega)).mono ?_
      rintro ⟨ys, st⟩ ⟨s3, zs, h1, hv3, hf3, hp, hl⟩
      simp only at h1 hp hl
      subst h1
      obtain ⟨w, hw, hpw⟩ := perm_strs hp
      have h5 : ys = (w.take cnt).map .str := by
        have := congrArg (List.take ys.length) hw
        rw [List.take_left' rfl, ← List.map_take] at this
        rw [this, hl]; simp
      have h6 : zs = (w.drop cnt).map .str := by
        have := congrArg (List.drop ys.length) hw
        rw [List.drop_left' rfl, ← List.map_drop] at this
        rw [this, hl]; simp
      have := hQ s3 w hv3 (hf12.trans hf3) hpw
      rw [← h5, ← h6] at this
      exact this
    have fin : ∀ cnt : Nat, 2 ≤ cnt → cnt ≤ 4 → cnt + 2 ≤ vs.length → ∀ (s3 : Sto) (w : List Str), Vine B s3 → Fr s s3 → w.Perm vs → ∀ (y6 y7 y10 : Option D), W (bfD .sorted (s3 ++ [o0, o1, Ob.lst ((w.drop cnt).map .str)]) [.lst ((w.take cnt).map .str)]) fun d => W (bfD .tuple (s3 ++ [o0, o1, Ob.lst ((w.drop cnt).map .str)]) [d]) fun d => W (binD .shl (s3 ++ [o0, o1, Ob.lst ((w.drop cnt).map .str)]) (.int 1) (.int (mm : Int))) fun d_1 => W (binD .sub (s3 ++ [o0, o1, Ob.lst ((w.drop cnt).map .str)]) d_1 (.int 1)) fun d_2 => FA B N left z5 o0 o1 s (.nx, [some (.ref 2), some (.ref N), some (.ref (N + 1)), some (.ref (N + 2)), some (.int left), z5, y6, y7, some d_2, some d, y10], s3 ++ [o0, o1, Ob.lst ((w.drop cnt).map .str)]) := by
      intro cnt c2 c4 cl s3 w hv3 hf3 hp y6 y7 y10
      have hwn : w.Nodup := hp.nodup_iff.mpr hvs
      have hwo : ∀ x ∈ w, PyData.strOk x = true := fun x hx => hst x (hp.mem_iff.mp hx)
      have hwl := hp.length_eq
      rw [sorted_lst (fun x hx => hwo x (List.mem_of_mem_take hx)) (by simp; omega), W_some]
      have hshl : ∀ st, binD .shl st (.int 1) (.int (mm : Int)) = some (.int (2 ^ mm)) := fun st => by
        show (if 0 ≤ (mm : Int) ∧ (mm : Int) ≤ 1000000 ∧ (1 : Int).natAbs < 2 ^ 64 then _ else _) = _
        rw [if_pos ⟨by omega, by omega, by decide⟩]
        simp
      simp only [tuple_lst, W_some, hshl, sub_int]
      have hps := List.mergeSort_perm (w.take cnt) fun a b => dle (.str a) (.str b)
      refine ⟨s3, .n ((w.take cnt).mergeSort fun a b => dle (.str a) (.str b)), w.drop cnt, 2 ^ mm - 1, y6, y7, y10, rfl, hv3, hf3, ⟨⟨fun x hx => hwo x (List.mem_of_mem_take (hps.mem_iff.mp hx)), ?_, hps.nodup_iff.mpr (hwn.sublist (List.take_sublist _ _)), ?_⟩, conds_n_len ?_⟩, ?_, ?_, hwn.sublist (List.drop_sublist _ _), fun x hx => hwo x (List.mem_of_mem_drop hx), by simp; omega, by simp; omega⟩
      · rw [List.length_mergeSort, List.length_take]; omega
      · intro e
        have := congrArg List.length e
        rw [List.length_mergeSort, List.length_take, List.length_nil] at this
        omega
      · rw [List.length_mergeSort, List.length_take]; omega
      · rcases (by omega : mm = 2 ∨ mm = 3 ∨ mm = 4) with e | e | e <;> subst e <;> decide
      · rcases (by omega : mm = 2 ∨ mm = 3 ∨ mm = 4) with e | e | e <;> subst e <;> decide
    simp [w_scons, hmm, len_ref (hg s2 hsl)]
    split
    · exact key 2 (by omega) (by omega) (by omega) _ _ _ _ _ _ fun s3 w hv3 hf3 hp => fin 2 (by omega) (by omega) (by omega) s3 w hv3 hf3 hp _ _ _
    · exact key mm mm2 mm4 (by omega) _ _ _ _ _ _ fun s3 w hv3 hf3 hp => fin mm mm2 mm4 (by omega) s3 w hv3 hf3 hp _ _ _
/-- how the fields, the names, the values stand -/
def FJ (B : Int) (s : Sto) (dn : List D) (env : Env) (st' : Sto) : Prop := ∃ (s' : Sto) (fs : Form) (nm vs : List Str) (left : Int) (z5 z6 z7 z8 z9 z10 : Option D), fs.length ≤ dn.length ∧ (dn ≠ [] → fs ≠ []) ∧ nm.length + dn.length ≥ 6 ∧ nm.length ≤ 6 ∧ (∀ p ∈ fs, SpGood p.2) ∧ vs.Nodup ∧ (∀ x ∈ vs, PyData.strOk x = true) ∧ 4 ≤ vs.length ∧ vs.length ≤ 8 ∧
  env = [some (.ref 2), some (.ref s.length), some (.ref (s.length + 1)), some (.ref (s.length + 2)), some (.int left), z5, z6, z7, z8, z9, z10] ∧ st' = s' ++ [.lst (fs.map eFd), .lst (nm.map .str), .lst (vs.map .str)] ∧ Vine B s' ∧ Fr s s'
def FE (B : Int) (s : Sto) (p : Fl × Env × Sto) : Prop := p.1 = .nx ∧ p.2.1[1]? = some (some (.ref s.length)) ∧ ∃ (s' : Sto) (fs : Form) (o1 o2 : Ob), p.2.2 = s' ++ [.lst (fs.map eFd), o1, o2] ∧ fs ≠ [] ∧ fs.length ≤ 3 ∧ (∀ p ∈ fs, SpGood p.2) ∧ Vine B s' ∧ Fr s s'
omit leaf lean in
theorem foOk_of {fs : Form} (h1 : fs ≠ []) (h2 : fs.length ≤ 3) (h3 : ∀ p ∈ fs, SpGood p.2) : FoOk fs := by
  refine ⟨⟨by simp [Form.fm]; exact h1, by simp [Form.fm]; omega, fun sp hsp => ?_⟩, h2, fun sp hsp => ?_⟩
  · obtain ⟨p, hp, rfl⟩ := List.mem_map.mp hsp
    exact (h3 p hp).1
  · obtain ⟨p, hp, rfl⟩ := List.mem_map.mp hsp
    exact (h3 p hp).2
/-- one lap -/
theorem form_lap {s : Sto} (hv0 : Vine B s) {dn : List D} {x : D} (hdn : dn.length ≤ 2) {env : Env} {st' : Sto} (h : FJ B s dn env st') : W (forB (clD T n) (.nm 5) (formA g a ++ formB g) x env st') fun p => p.1 = .nx ∧ FJ B s (dn ++ [x]) p.2.1 p.2.2 ∨ p.1 = .brk ∧ FE B s (.nx, p.2) := by
  obtain ⟨s', fs, nm, vs, left, z5, z6, z7, z8, z9, z10, h1, h2, h3, h3', h4, h5, h6, h7, h8, he, hst, hv, hf⟩ := h
  subst he hst
  rw [w_forB, w_bnm, w_sapp]
  simp only [List.set_cons_succ, List.set_cons_zero]
  refine (formA_ok leaf lean (N := s.length) hf.1 hv (vs := vs) h5 h6 h7 h8).mono ?_
  rintro p ⟨s1, sp, vs', cost, y6, y7, y10, rfl, hv1, hf1, hsp, hc0, hc1, h5', h6', h7', h8'⟩
  have hN : s1.length = s.length := hf1.1.trans hf.1
  have hff := hf.trans hf1
  rw [nxt_nx]
  simp only [formB]
  have gg : ∀ (s2 : Sto), s2.length = s.length → ∀ (xs : List D) (o1 o2 : Ob), (s2 ++ [Ob.lst xs, o1, o2])[s.length]? = some (.lst xs) := fun s2 h xs o1 o2 => by rw [gk0 h]; rfl
  have gv : ∀ (s2 : Sto), s2.length = s.length → ∀ (o0 o1 : Ob) (xs : List D), (s2 ++ [o0, o1, Ob.lst xs])[s.length + 2]? = some (.lst xs) := fun s2 h o0 o1 xs => by rw [gk h]; rfl
  have hdl : fs.length ≤ 2 := by omega
  -- the end of the lap
  have tail : ∀ (s2 : Sto) (fs2 : Form) (nm2 : List Str) (left2 : Int), Vine B s2 → Fr s s2 → fs2.length ≤ dn.length + 1 → fs2 ≠ [] → nm2.length + (dn.length + 1) ≥ 6 → nm2.length ≤ 6 → (∀ p ∈ fs2, SpGood p.2) → W (evSs (clD T n) [.ite (.cmp .lt (.bf .len [.var 3]) (.lit (.int 4))) [.brk] []] [some (.ref 2), some (.ref s.length), some (.ref (s.length + 1)), some (.ref (s.length + 2)), some (.int left2), some x, y6, y7, some (.int cost), some sp.d, y10] (s2 ++ [.lst (fs2.map eFd), .lst (nm2.map .str), .lst (vs'.map .str)])) fun p => p.1 = .nx ∧ FJ B s (dn ++ [x]) p.2.1 p.2.2 ∨ p.1 = .brk ∧ FE B s (.nx, p.2) := by
    intro s2 fs2 nm2 left2 hv2 hf2 a1 a2 a3 a4 a5
    simp [w_scons, len_ref (gv s2 hf2.1 _ _ _)]
    split
    · exact ⟨rfl, rfl, s2, fs2, _, _, rfl, a2, by omega, a5, hv2, hf2⟩
    · exact ⟨s2, fs2, nm2, vs', left2, _, _, _, _, _, _, by simp; omega, fun _ => a2, by simp; omega, a4, a5, h5', h6', by omega, h8', rfl, rfl, hv2, hf2⟩
  have hdiv : ∀ st, binD .fdiv st (.int left) (.int cost) = some (.int (left / cost)) := fun st => fdiv_int hc0 (by omega)
  have hnl : 0 < (nm.map D.str).length := by simp; omega
  have app : W (evSs (clD T n) [.ex (.mt .append (.var 1) [.tup [.mt .popAt (.var 2) [.call g [.var 0, .bf .len [.var 2]]], .var 9]]), .set (.nm 4) (.bin .fdiv (.var 4) (.var 8))] [some (.ref 2), some (.ref s.length), some (.ref (s.length + 1)), some (.ref (s.length + 2)), some (.int left), some x, y6, y7, some (.int cost), some sp.d, y10] (s1 ++ [.lst (fs.map eFd), .lst (nm.map .str), .lst (vs'.map .str)])) fun p => nxt p (fun env st => W (evSs (clD T n) [.ite (.cmp .lt (.bf .len [.var 3]) (.lit (.int 4))) [.brk] []] env st) fun p => p.1 = .nx ∧ FJ B s (dn ++ [x]) p.2.1 p.2.2 ∨ p.1 = .brk ∧ FE B s (.nx, p.2)) fun p => p.1 = .nx ∧ FJ B s (dn ++ [x]) p.2.1 p.2.2 ∨ p.1 = .brk ∧ FE B s (.nx, p.2) := by
    rw [w_scons, w_ex, w_mt, w_var]
    refine ⟨_, rfl, mtok_ref (gg s1 hN _ _ _) (by simp), ?_⟩
    rw [w_cons, w_tup, w_cons]
    refine pop_one leaf hN hv1 (ls := [.lst (fs.map eFd), .lst (nm.map .str), .lst (vs'.map .str)]) (k := 1) (xs := nm.map .str) rfl hnl (by simp; omega) rfl rfl fun i hi s2 hv2 hf2 => ?_
    have hN2 : s2.length = s.length := hf2.1.trans hN
    have hap := append_ref (gg s2 hN2 (fs.map eFd) (.lst ((nm.map D.str).eraseIdx i)) (.lst (vs'.map .str))) (d := .tup [(nm.map D.str)[i], sp.d]) (by rw [sizeLine_eq]; simp; omega)
    rw [sk0 hN2] at hap
    simp at hap
    simp [hap, w_scons, hdiv]
    have hi' : i < nm.length := by simpa using hi
    have := tail s2 (fs ++ [(nm[i], sp)]) (nm.eraseIdx i) (left / cost) hv2 (hff.trans hf2) (by simp; omega) (by simp) (by rw [List.length_eraseIdx_of_lt hi']; omega) (by rw [List.length_eraseIdx_of_lt hi']; omega) (fun p hp => by
      rcases List.mem_append.mp hp with h | h
      · exact h4 p h
      · rw [List.mem_singleton.mp h]; exact hsp)
    have he : (nm.map D.str).eraseIdx i = (nm.eraseIdx i).map D.str := erase_map nm i
    simp [w_scons, eFd] at this
    simp [he]
    exact this
  rw [w_scons, w_if, w_or, w_cmp, w_bf, w_cons, w_var]
  refine ⟨_, rfl, ?_⟩
  simp only [w_nil, len_ref (gg s1 hN _ _ _), W_some, w_lit, eq_int, asBl_bl]
  by_cases c0 : fs = []
  · subst c0
    simp
    exact app
  · have c0' : ¬ ((fs.map eFd).length : Int) = 0 := by
      intro e
      have : fs.length = 0 := by simpa using e
      exact c0 (List.length_eq_zero_iff.mp this)
    simp [c0, hdiv]
    split
    · exact app
    · exact tail s1 fs nm left hv1 hff (by omega) c0 (by omega) h3' h4
theorem form_ok {f p : Str} (hf : T.fn f = some (fdForm p g a)) : Dr B T (n + 1) f [.ref 2] isForm := by
  refine dr_of hf rfl rfl fun s hv => ?_
  simp [fdForm, w_scons]
  refine leaf_at leaf ⟨by omega, by omega⟩ hv _ fun r s1 r0 r1 hv1 hf1 => ?_
  obtain ⟨left, hleft⟩ : ∃ left : Int, L2.atI [D.int 80, .int 150, .int 300] r = some (.int left) := by
    rcases (by omega : r = 0 ∨ r = 1 ∨ r = 2) with e | e | e <;> subst e
    · exact ⟨80, by simp⟩
    · exact ⟨150, by simp⟩
    · exact ⟨300, by simp⟩
  simp [hleft]
  refine lean_at leaf lean (pl := 1) (by omega) ⟨by omega, by omega⟩ hv1 _ fun k s2 k0 k1 hv2 hf2 => ?_
  simp [src1 (small_of (i := 1 + k) (by omega) (by omega))]
  refine (for_inv (I := FJ B s) (R := FE B s) (fun _ _ _ _ => same_nil) (fun dn x rr env st' e hI => ?step) (fun env st' hI => ?fin) ?init).mono fun p hp => ?post
  case init =>
    refine ⟨s2, [], [("hour" : Str), ("kind" : Str), ("a1" : Str), ("zz9" : Str), ("size" : Str), ("q" : Str)], [("bill" : Str), ("note" : Str), ("red" : Str), ("b2" : Str), ("x" : Str), ("page" : Str), ("p7" : Str), ("cash" : Str)], left, _, _, _, _, _, _, by simp, by simp, by simp, by simp, by simp, by decide +kernel, by decide +kernel, by simp, by simp, rfl, rfl, hv2, hf1.trans hf2⟩
  case step =>
    have hdn : dn.length ≤ 2 := by
      have := congrArg List.length e
      simp at this; omega
    refine (form_lap leaf lean hv hdn hI).mono fun p hp => ?_
    rcases hp with ⟨h1, h2⟩ | ⟨h1, h2⟩
    · exact .inl ⟨.inl h1, h2⟩
    · exact .inr (.inr ⟨h1, h2⟩)
  case fin =>
    obtain ⟨s', fs, nm, vs, left, z5, z6, z7, z8, z9, z10, h1, h2, h3, h3', h4, h5, h6, h7, h8, he, hst, hv', hf'⟩ := hI
    subst he hst
    have hne : rangeD 0 (1 + k).toNat ≠ [] := by
      intro e
      have := congrArg List.length e
      simp at this; omega
    have hlen : (rangeD 0 (1 + k).toNat).length ≤ 3 := by simp; omega
    exact ⟨rfl, rfl, s', fs, _, _, rfl, h2 hne, by omega, h4, hv', hf'⟩
  case post =>
    obtain ⟨fl, env, st'⟩ := p
    obtain ⟨h1, h2, s', fs, o1, o2, h3, h4, h5, h6, hv', hf'⟩ := hp
    simp only at h1 h2 h3
    subst h1 h3
    have hg : (s' ++ [Ob.lst (fs.map eFd), o1, o2])[s.length]? = some (.lst (fs.map eFd)) := by rw [gk0 hf'.1]; rfl
    simp [w_scons, h2, tuple_ref hg]
    have hfo := foOk_of h4 h5 h6
    refine drPost (fun m => ?_) ⟨fs, rfl, hfo⟩ hv' hf'
    rw [D.low, lows_iff]
    intro d hd
    obtain ⟨p, hp, rfl⟩ := List.mem_map.mp hd
    show D.lows m [.str p.1, p.2.d] = true
    have : p.2.d.low m = true := by
      cases p.2 with
      | r a b => rfl
      | n xs => rw [Cn.d, D.low, lows_iff]; intro d hd; obtain ⟨x, _, rfl⟩ := List.mem_map.mp hd; rfl
    rw [D.lows, D.lows, this]; rfl
end
end MP
end
section
set_option Elab.async false
set_option linter.all false
set_option maxRecDepth 100000
set_option maxHeartbeats 4000000
/-! LQf: logs that are drawn (k75 to k77). -/
namespace MP
open PySem
theorem strOk_people : ∀ x ∈ ([("ann" : Str), ("bob" : Str), ("cid" : Str), ("dan" : Str), ("eve9" : Str), ("z" : Str)] : List Str), PyData.strOk x = true := by decide +kernel
theorem nodup_people : ([("ann" : Str), ("bob" : Str), ("cid" : Str), ("dan" : Str), ("eve9" : Str), ("z" : Str)] : List Str).Nodup := by decide +kernel
theorem at_last {α : Type} {xs : List α} (h : 0 < xs.length) : ∃ y ∈ xs, L2.atI xs (-1) = some y := by
  refine ⟨xs[xs.length - 1], List.getElem_mem _, ?_⟩
  unfold L2.atI L2.ixN
  rw [if_neg (by omega), if_pos (by omega)]
  simp
  rw [show (-1 + (xs.length : Int)).toNat = xs.length - 1 by omega]
  exact List.getElem?_eq_getElem _
theorem ints_py : ∀ xs : List Int, sortD (xs.map .int) = some ((xs.mergeSort fun a b => dle (.int a) (.int b)).map .int) ∨ ¬ xs.length ≤ sizeLine := fun xs => by
  by_cases h : xs.length ≤ sizeLine
  · left
    refine sortD_map (p := .int) (fun _ _ => rfl) (fun _ _ _ _ => rfl) ?_ (fun x _ => ⟨rfl, by rw [PyData.depth]; omega⟩) h
    unfold sortableP
    rw [Bool.or_eq_true]; right; simp
  · exact .inr h
/-- the hidden rule -/
def hidBody : List St := [.set (.nm 13) (.bf .sorted [.lst false [.idx (.var 4) (.var 7), .idx (.var 5) (.var 7)]]), .ex (.mt .append (.var 6) [.ite (.isi (.idx (.var 13) (.lit (.int 0))) .int) (.bf .tuple [.var 13]) (.bf .tuple [.bf .sorted [.bf .set [.var 13]]])])]
def logL1 (g c : Str) : List St := [.set (.nm 14) (.idx (.var 8) (.call g [.var 0, .bf .len [.var 8]])), .set (.nm 15) (.ite (.cmp .gt (.call g [.var 0, .lit (.int 3)]) (.lit (.int 0))) (.call c [.var 0, .var 1]) (.idx (.tup [.var 4, .var 5]) (.call g [.var 0, .lit (.int 2)])))]
def logLies (g : Str) : Ex := .or (.and (.cmp .eq (.var 14) (.idx (.var 8) (.lit (.int 0)))) (.cmp .gt (.var 11) (.lit (.int 0)))) (.or (.and (.cmp .eq (.var 14) (.idx (.var 8) (.neg (.lit (.int 1))))) (.cmp .eq (.var 11) (.lit (.int 2)))) (.and (.cmp .eq (.var 11) (.lit (.int 3))) (.cmp .eq (.call g [.var 0, .lit (.int 2)]) (.lit (.int 0)))))
def logSure (g : Str) : Ex := .and (.cmp .eq (.call g [.var 0, .lit (.int 5)]) (.lit (.int 0))) (.cmp .ne (.var 16) (.and (.cmp .eq (.var 11) (.lit (.int 3))) (.cmp .eq (.call g [.var 0, .lit (.int 3)]) (.lit (.int 0)))))
def logL2 (g e : Str) : List St := [.set (.nm 16) (.call e [.var 6, .var 15]), .set (.nm 17) (logLies g), .set (.nm 18) (.ite (.cmp .ne (.var 16) (.var 17)) (.lit (.str ("let" : Str))) (.lit (.str ("refused" : Str)))), .ite (logSure g) [.set (.tp [.nm 14, .nm 18]) (.tup [.lit (.str ("sure" : Str)), .lit (.str ("let" : Str))])] []]
def logL3 : List St := [.ite (.and (.cmp .eq (.var 18) (.lit (.str ("let" : Str)))) (.cmp .notin (.var 15) (.var 10))) [.set (.nm 18) (.ite (.cmp .lt (.bf .len [.var 10]) (.lit (.int 7))) (.lit (.str ("let" : Str))) (.lit (.str ("refused" : Str)))), .set (.nm 10) (.ite (.cmp .lt (.bf .len [.var 10]) (.lit (.int 7))) (.bin .add (.var 10) (.lst false [.var 15])) (.var 10))] [], .ex (.mt .append (.var 9) [.tup [.var 14, .var 15, .var 18]])]
def fdLog (p g a c e : Str) : FD := ⟨[p, ("form" : Str), ("most" : Str), ("many" : Str)], 19, false, [
    .set (.tp [.nm 4, .nm 5]) (.tup [.call c [.var 0, .var 1], .call c [.var 0, .var 1]]),
    .set (.nm 6) (.lst true []),
    .for_ (.nm 7) 1 [.bf .len [.var 1]] hidBody,
    .set (.nm 6) (.ite (.cmp .eq (.call g [.var 0, .lit (.int 9)]) (.lit (.int 0))) (.lit (.non)) (.bf .tuple [.var 6])),
    .set (.nm 8) (.lst true [.lit (.str ("ann" : Str)), .lit (.str ("bob" : Str)), .lit (.str ("cid" : Str)), .lit (.str ("dan" : Str)), .lit (.str ("eve9" : Str)), .lit (.str ("z" : Str))]),
    .set (.nm 8) (.comp true (.mt .popAt (.var 8) [.call g [.var 0, .bf .len [.var 8]]]) (.nm 12) 1 [.var 3] [] [12]),
    .set (.tp [.nm 9, .nm 10, .nm 11]) (.tup [.lst true [], .lst false [], .call a [.var 0, .lit (.int 4), .lit (.int 4)]]),
    .for_ (.nm 12) 1 [.bin .add (.lit (.int 2)) (.call a [.var 0, .lit (.int 5), .bin .sub (.var 2) (.lit (.int 1))])] (logL1 g c ++ (logL2 g e ++ logL3)),
    .ret (.bf .tuple [.var 9])]⟩
/-- what a drawn log is: at most so many records, of these witnesses -/
def isLog (fm : Fm) (most many : Int) (d : D) : Prop := ∃ l, d = eL l ∧ LogOk fm l ∧ LogW l ∧ 2 ≤ l.length ∧ (l.length : Int) ≤ most ∧ ∃ P : List Str, (P.length : Int) = many ∧ ∀ r ∈ l, r.who ∈ P ∨ r.who = ("sure" : Str)
section
variable {T : Tx} {n : Nat} {B : Int} {g a c e : Str} (leaf : ∀ m : Int, 0 < m → m < 1073741824 → Dr B T n g [.ref 2, .int m] (isBelow m))
  (lean : ∀ (pl : Nat) (m : Int), pl < 100 → 0 < m → m < 1073741824 → Dr B T n a [.ref 2, .int (pl : Int), .int m] (isBelow m))
/-- the hidden rule grows -/
def HI (fs : Form) (e0 e2 e3 : Option D) (one other : Cs) (N : Nat) (s : Sto) (dn : List D) (env : Env) (st' : Sto) : Prop := ∃ (r : List Cn) (z7 z13 : Option D), All2 kin (fs.fm.take dn.length) r ∧ env = [e0, some (eF fs), e2, e3, some (eC one), some (eC other), some (.ref N), z7, none, none, none, none, none, z13, none, none, none, none, none] ∧ st' = s ++ [.lst (r.map Cn.d)]
theorem hid_step {fs : Form} (o : FoOk fs) {one other : Cs} (h1 : COf fs.fm one) (h2 : COf fs.fm other) {e0 e2 e3 : Option D} {N : Nat} {s : Sto} (hN : s.length = N) {dn r : List D} {x : D} (he : dn ++ x :: r = (List.range fs.length).map fun i => D.int ((i : Nat) : Int)) {env : Env} {st' : Sto} (h : HI fs e0 e2 e3 one other N s dn env st') : W (forB (clD T n) (.nm 7) hidBody x env st') fun p => p.1 = .nx ∧ HI fs e0 e2 e3 one other N s (dn ++ [x]) p.2.1 p.2.2 := by
  obtain ⟨rr, z7, z13, hk, henv, hst⟩ := h
  obtain ⟨hj, hx⟩ := at_len (e := fun i : Nat => D.int (i : Int)) he
  subst henv hst
  have hj' : dn.length < fs.length := by simpa using hj
  have hxx : x = .int ((dn.length : Nat) : Int) := by rw [hx]; simp
  subst hxx
  have hf1 : dn.length < fs.fm.length := by simpa [Form.fm] using hj'
  have l1 := h1.len
  have l2 := h2.len
  have a1 := at_map (e := Vl.d) (xs := one) (i := dn.length) (by omega)
  have a2 := at_map (e := Vl.d) (xs := other) (i := dn.length) (by omega)
  have k1 := h1.get (List.getElem?_eq_getElem hf1) (List.getElem?_eq_getElem (l := one) (i := dn.length) (by omega))
  have k2 := h2.get (List.getElem?_eq_getElem hf1) (List.getElem?_eq_getElem (l := other) (i := dn.length) (by omega))
  have hg : (s ++ [Ob.lst (rr.map Cn.d)])[N]? = some (.lst (rr.map Cn.d)) := by rw [gk0 hN]; rfl
  have hrl : rr.length ≤ 4 := by
    have := hk.len
    have h3 := o.fm.2.1
    simp at this; omega
  have app : ∀ d, mtD .append (s ++ [Ob.lst (rr.map Cn.d)]) (.ref N) [d] = some (.non, s ++ [Ob.lst (rr.map Cn.d ++ [d])]) := fun d => by
    rw [append_ref hg (by rw [sizeLine_eq]; simp; omega), sk0 hN]; rfl
  have os := o.fm.2.2 _ (List.getElem_mem hf1)
  have key : ∀ k : Cn, kin fs.fm[dn.length] k → ∀ z13, HI fs e0 e2 e3 one other N s (dn ++ [.int ((dn.length : Nat) : Int)]) [e0, some (eF fs), e2, e3, some (eC one), some (eC other), some (.ref N), some (.int ((dn.length : Nat) : Int)), none, none, none, none, none, z13, none, none, none, none, none] (s ++ [.lst (rr.map Cn.d ++ [k.d])]) := fun k hkk z13 => by
    refine ⟨rr ++ [k], _, z13, ?_, rfl, by simp⟩
    rw [List.length_append, List.length_singleton, List.take_succ_eq_append_getElem hf1]
    exact All2.append hk (.cons hkk .nil)
  generalize hone : one[dn.length] = u at *
  generalize hoth : other[dn.length] = w at *
  generalize fs.fm[dn.length] = sp at *
  cases sp with
  | r lo hi =>
    cases u with
    | s _ => simp [letV] at k1
    | i u =>
      cases w with
      | s _ => simp [letV] at k2
      | i w =>
        have hs := (ints_py [u, w]).resolve_right (by rw [sizeLine_eq]; simp)
        have hp := List.mergeSort_perm [u, w] fun a b => dle (.int a) (.int b)
        have hl := hp.length_eq
        generalize ([u, w].mergeSort fun a b => dle (.int a) (.int b)) = q at hs hl
        obtain ⟨a, b, rfl⟩ : ∃ a b, q = [a, b] := by
          match q, hl with
          | [a, b], _ => exact ⟨a, b, rfl⟩
        simp only [List.map_cons, List.map_nil] at hs
        have hsort : ∀ st, bfD .sorted st [.lst [.int u, .int w]] = some (.lst [.int a, .int b]) := fun st => by
          show ((itemsOf st (.lst [.int u, .int w])).bind sortD).map D.lst = _
          rw [items_lst, Option.bind_some, hs]; rfl
        simp [hidBody, w_scons, eC, a1, a2, hone, hoth, Vl.d, hsort, mtok_ref hg, app]
        have := key (.r a b) trivial (some (.lst [.int a, .int b]))
        simp [Cn.d, eC] at this
        exact this
  | n ns =>
    cases u with
    | i _ => simp [letV] at k1
    | s u =>
      cases w with
      | i _ => simp [letV] at k2
      | s w =>
        have ku : u ∈ ns := by simpa [letV] using k1
        have kw : w ∈ ns := by simpa [letV] using k2
        have hso : ∀ z ∈ [u, w], PyData.strOk z = true := by
          intro z hz
          simp at hz
          rcases hz with rfl | rfl
          · exact os.1 _ ku
          · exact os.1 _ kw
        have hs := fun st => sorted_lst (st := st) hso (by simp)
        have hp := List.mergeSort_perm [u, w] fun a b => dle (.str a) (.str b)
        generalize ([u, w].mergeSort fun a b => dle (.str a) (.str b)) = q at hs hp
        have hl := hp.length_eq
        have hqo : ∀ z ∈ q, PyData.strOk z = true := fun z hz => hso z (hp.mem_iff.mp hz)
        have hq0 : 0 < q.length := by rw [hl]; simp
        have q0 : L2.atI (q.map D.str) 0 = some (.str q[0]) := at_map (i := 0) hq0
        have s1 := set_strs (st := []) (xs := q) (by rw [hl]; simp)
        have s2 := fun st => sorted_strs (st := st) hqo (by rw [hl]; simp)
        simp only [List.map_cons, List.map_nil] at hs
        simp [hidBody, w_scons, eC, a1, a2, hone, hoth, Vl.d, hs, mtok_ref hg, q0, s1, s2, app]
        have := key (.n (srt .str q)) (fun x hx => by
          have hx := hp.mem_iff.mp (mem_srt.mp hx)
          simp at hx
          rcases hx with rfl | rfl
          · exact ku
          · exact kw) (some (.lst (q.map .str)))
        simp [Cn.d, eC] at this
        exact this
/-! ### the loop -/
/-- the slots: what stands through the loop, and the rest -/
def lE (fs : Form) (most many : Int) (one other : Cs) (rule : Rl) (z7 : Option D) (N : Nat) (seen : List Cs) (style : Int) (z12 z13 z14 z15 z16 z17 z18 : Option D) : Env :=
  [some (.ref 2), some (eF fs), some (.int most), some (.int many), some (eC one), some (eC other), some (eR rule), z7, some (.ref (N + 2)), some (.ref (N + 3)), some (.lst (seen.map eC)), some (.int style), z12, z13, z14, z15, z16, z17, z18]
include leaf
theorem lies_ok {s : Sto} {N : Nat} (hN : s.length = N) (hv : Vine B s) {o0 o1 o3 : Ob} {P : List Str} (hP : ∀ x ∈ P, PyData.strOk x = true) (hP0 : 0 < P.length) {fs : Form} {most many : Int} {one other : Cs} {rule : Rl} {z7 : Option D} {seen : List Cs} {style : Int} {z12 z13 z15 z16 z17 z18 : Option D} {who : Str} (hw : PyData.strOk who = true) {Q : D × Sto → Prop}
    (h : ∀ (b : Bool) (s' : Sto), Vine B s' → Fr s s' → Q (.bl b, s' ++ [o0, o1, .lst (P.map .str), o3])) : W (evE (clD T n) (logLies g) (lE fs most many one other rule z7 N seen style z12 z13 (some (.str who)) z15 z16 z17 z18) (s ++ [o0, o1, .lst (P.map .str), o3])) Q := by
  have hg : (s ++ [o0, o1, .lst (P.map .str), o3])[N + 2]? = some (.lst (P.map .str)) := by rw [gk hN]; rfl
  have h0 : L2.atI (P.map D.str) 0 = some (.str P[0]) := at_map (i := 0) hP0
  obtain ⟨y, hy, hl⟩ := at_last (xs := P.map D.str) (by simpa using hP0)
  obtain ⟨y, hy', rfl⟩ := List.mem_map.mp hy
  have e1 := eq_str (st := s ++ [o0, o1, .lst (P.map .str), o3]) hw (hP _ (List.getElem_mem hP0))
  have e2 := eq_str (st := s ++ [o0, o1, .lst (P.map .str), o3]) hw (hP _ hy')
  have hc : W (callD T n g [.ref 2, .int 2] (s ++ [o0, o1, .lst (P.map .str), o3])) (fun p => W (cmpD .eq p.2 p.1 (.int 0)) fun z => Q (.bl z, p.2)) := by
    refine leaf_at leaf ⟨by omega, by omega⟩ hv _ fun r s' r0 r1 hv' hf' => ?_
    simp
    exact h _ s' hv' hf'
  have hd : ∀ b, Q (.bl b, s ++ [o0, o1, .lst (P.map .str), o3]) := fun b => h b s hv (Fr.refl s)
  simp [logLies, lE, ix_ref hg, h0, hl, e1, e2]
  by_cases c1 : who = P[0]
  · simp [c1]
    repeat' split
    all_goals first | exact hd _ | exact hc
  · simp [c1]
    repeat' split
    all_goals first | exact hd _ | exact hc
theorem sure_ok {s : Sto} {N : Nat} (hv : Vine B s) {ls : Sto} {fs : Form} {most many : Int} {one other : Cs} {rule : Rl} {z7 : Option D} {seen : List Cs} {style : Int} {z12 z13 z14 z15 z17 z18 : Option D} {right : Bool} {Q : D × Sto → Prop}
    (h : ∀ (b : Bool) (s' : Sto), Vine B s' → Fr s s' → Q (.bl b, s' ++ ls)) : W (evE (clD T n) (logSure g) (lE fs most many one other rule z7 N seen style z12 z13 z14 z15 (some (.bl right)) z17 z18) (s ++ ls)) Q := by
  simp [logSure, lE]
  refine leaf_at leaf ⟨by omega, by omega⟩ hv _ fun r s1 r0 r1 hv1 hf1 => ?_
  simp
  split
  · split
    · refine leaf_at leaf ⟨by omega, by omega⟩ hv1 _ fun r s2 r0 r1 hv2 hf2 => ?_
      simp
      exact h _ s2 hv2 (hf1.trans hf2)
    · exact h _ s1 hv1 hf1
  · exact h _ s1 hv1 hf1
/-- who, about which case -/
theorem logL1_ok {s : Sto} {N : Nat} (hN : s.length = N) (hv : Vine B s) {o0 o1 o3 : Ob} {P : List Str} (hP0 : 0 < P.length) (hP2 : P.length ≤ 1000) {fs : Form} {most many : Int} {one other : Cs} (h1 : COf fs.fm one) (h2 : COf fs.fm other) {rule : Rl} {z7 : Option D} {seen : List Cs} {style : Int} {z12 z13 z14 z15 z16 z17 z18 : Option D} (case : Dr B T n c [.ref 2, eF fs] (isCase fs.fm)) :
    W (evSs (clD T n) (logL1 g c) (lE fs most many one other rule z7 N seen style z12 z13 z14 z15 z16 z17 z18) (s ++ [o0, o1, .lst (P.map .str), o3])) fun p => ∃ (s' : Sto) (who : Str) (cs : Cs), p = (.nx, lE fs most many one other rule z7 N seen style z12 z13 (some (.str who)) (some (eC cs)) z16 z17 z18, s' ++ [o0, o1, .lst (P.map .str), o3]) ∧ who ∈ P ∧ COf fs.fm cs ∧ Vine B s' ∧ Fr s s' := by
  have gg : ∀ s2 : Sto, s2.length = N → (s2 ++ [o0, o1, .lst (P.map .str), o3])[N + 2]? = some (.lst (P.map .str)) := fun s2 h => by rw [gk h]; rfl
  simp [logL1, w_scons, lE, len_ref (gg s hN)]
  refine leaf_at leaf ⟨by omega, by omega⟩ hv _ fun r s1 r0 r1 hv1 hf1 => ?_
  have hr : r.toNat < P.length := by omega
  have hwho : ixD (s1 ++ [o0, o1, .lst (P.map .str), o3]) (.ref (N + 2)) (.int r) = some (.str P[r.toNat]) := by
    rw [ix_ref (gg s1 (hf1.1.trans hN)), at_map' r0 hr]
  simp [hwho]
  refine leaf_at leaf ⟨by omega, by omega⟩ hv1 _ fun q s2 q0 q1 hv2 hf2 => ?_
  simp
  have hf12 := hf1.trans hf2
  split
  · refine (case.at hv2 _).mono ?_
    rintro ⟨d, st⟩ ⟨s3, ⟨cs, hd, hc⟩, h3, hv3, hf3⟩
    simp only at hd h3
    subst hd h3
    exact ⟨s3, _, cs, ⟨⟨rfl, rfl⟩, rfl⟩, List.getElem_mem hr, hc, hv3, hf12.trans hf3⟩
  · refine leaf_at leaf ⟨by omega, by omega⟩ hv2 _ fun w s3 w0 w1 hv3 hf3 => ?_
    rcases (by omega : w = 0 ∨ w = 1) with e | e <;> subst e
    · simp
      exact ⟨s3, _, one, ⟨⟨rfl, rfl⟩, rfl⟩, List.getElem_mem hr, h1, hv3, hf12.trans hf3⟩
    · simp
      exact ⟨s3, _, other, ⟨⟨rfl, rfl⟩, rfl⟩, List.getElem_mem hr, h2, hv3, hf12.trans hf3⟩
theorem logL2_ok {s : Sto} {N : Nat} (hN : s.length = N) (hv : Vine B s) {o0 o1 o3 : Ob} {P : List Str} (hP : ∀ x ∈ P, PyData.strOk x = true) (hP0 : 0 < P.length) {fs : Form} {most many : Int} {one other : Cs} {rule : Rl} {z7 : Option D} {seen : List Cs} {style : Int} {z12 z13 z16 z17 z18 : Option D} {who : Str} (hw : PyData.strOk who = true) {cs : Cs} (hcs : COf fs.fm cs) (hlets : ∀ st cs, COf fs.fm cs → callD T n e [eR rule, eC cs] st = some (.bl (letR rule cs), st)) :
    W (evSs (clD T n) (logL2 g e) (lE fs most many one other rule z7 N seen style z12 z13 (some (.str who)) (some (eC cs)) z16 z17 z18) (s ++ [o0, o1, .lst (P.map .str), o3])) fun p => ∃ (s' : Sto) (who' word : Str) (y16 y17 : Option D), p = (.nx, lE fs most many one other rule z7 N seen style z12 z13 (some (.str who')) (some (eC cs)) y16 y17 (some (.str word)), s' ++ [o0, o1, .lst (P.map .str), o3]) ∧ (who' = who ∨ who' = ("sure" : Str)) ∧ (word = ("let" : Str) ∨ word = ("refused" : Str)) ∧ Vine B s' ∧ Fr s s' := by
  have s1 : evS (clD T n) (.set (.nm 16) (.call e [.var 6, .var 15])) (lE fs most many one other rule z7 N seen style z12 z13 (some (.str who)) (some (eC cs)) z16 z17 z18) (s ++ [o0, o1, .lst (P.map .str), o3]) = some (.nx, lE fs most many one other rule z7 N seen style z12 z13 (some (.str who)) (some (eC cs)) (some (.bl (letR rule cs))) z17 z18, s ++ [o0, o1, .lst (P.map .str), o3]) := W.eq1 (by simp [lE, hlets _ _ hcs])
  rw [logL2, seq_of s1, w_scons, w_set]
  refine lies_ok leaf hN hv hP hP0 hw fun b s' hv' hf' => ?_
  obtain ⟨word, hword, hwd⟩ : ∃ word : Str, (word = ("let" : Str) ∨ word = ("refused" : Str)) ∧ evS (clD T n) (.set (.nm 18) (.ite (.cmp .ne (.var 16) (.var 17)) (.lit (.str ("let" : Str))) (.lit (.str ("refused" : Str))))) (lE fs most many one other rule z7 N seen style z12 z13 (some (.str who)) (some (eC cs)) (some (.bl (letR rule cs))) (some (.bl b)) z18) (s' ++ [o0, o1, .lst (P.map .str), o3]) = some (.nx, lE fs most many one other rule z7 N seen style z12 z13 (some (.str who)) (some (eC cs)) (some (.bl (letR rule cs))) (some (.bl b)) (some (.str word)), s' ++ [o0, o1, .lst (P.map .str), o3]) := by
    cases q : (letR rule cs != b) with
    | true => exact ⟨("let" : Str), .inl rfl, W.eq1 (by simp [lE, q])⟩
    | false => exact ⟨("refused" : Str), .inr rfl, W.eq1 (by simp [lE, q])⟩
  rw [w_bnm, nxt_nx]
  show W (evSs (clD T n) _ (lE fs most many one other rule z7 N seen style z12 z13 (some (.str who)) (some (eC cs)) (some (.bl (letR rule cs))) (some (.bl b)) z18) (s' ++ [o0, o1, .lst (P.map .str), o3])) _
  rw [seq_of hwd, w_scons, w_if]
  refine sure_ok leaf hv' fun d s2 hv2 hf2 => ?_
  rw [tru_bl, W_some]
  cases d with
  | true =>
    simp [w_scons, lE]
    exact ⟨s2, ("sure" : Str), ("let" : Str), ⟨⟨rfl, rfl⟩, rfl⟩, .inr rfl, .inl rfl, hv2, hf'.trans hf2⟩
  | false =>
    simp [lE]
    exact ⟨s2, who, word, ⟨⟨rfl, rfl⟩, rfl⟩, .inl rfl, hword, hv2, hf'.trans hf2⟩
omit leaf in
theorem logL3_ok {s : Sto} {N : Nat} (hN : s.length = N) {o0 o1 o2 : Ob} {l : Log} (hl : l.length ≤ 100) {fs : Form} (o : FmOk fs.fm) {most many : Int} {one other : Cs} {rule : Rl} {z7 : Option D} {seen : List Cs} (hsn : seen.length ≤ 7) (hso : ∀ c ∈ seen, COf fs.fm c) {style : Int} {z12 z13 z16 z17 : Option D} {who word : Str} {cs : Cs} (hcs : COf fs.fm cs) (hword : word = ("let" : Str) ∨ word = ("refused" : Str)) :
    W (evSs (clD T n) logL3 (lE fs most many one other rule z7 N seen style z12 z13 (some (.str who)) (some (eC cs)) z16 z17 (some (.str word))) (s ++ [o0, o1, o2, .lst (l.map Rec.d)])) fun p => ∃ (seen' : List Cs) (word' : Str), p = (.nx, lE fs most many one other rule z7 N seen' style z12 z13 (some (.str who)) (some (eC cs)) z16 z17 (some (.str word')), s ++ [o0, o1, o2, .lst ((l ++ [Rec.mk who cs word']).map Rec.d)]) ∧ seen'.length ≤ 7 ∧ (∀ c ∈ seen', COf fs.fm c) ∧ (word' = ("let" : Str) ∨ word' = ("refused" : Str)) := by
  have hg : (s ++ [o0, o1, o2, Ob.lst (l.map Rec.d)])[N + 3]? = some (.lst (l.map Rec.d)) := by rw [gk hN]; rfl
  have app : ∀ d, mtD .append (s ++ [o0, o1, o2, Ob.lst (l.map Rec.d)]) (.ref (N + 3)) [d] = some (.non, s ++ [o0, o1, o2, Ob.lst (l.map Rec.d ++ [d])]) := fun d => by
    rw [append_ref hg (by rw [sizeLine_eq]; simp; omega), sk hN]; rfl
  have hm : memD (eC cs) (seen.map eC) = some (decide (cs ∈ seen)) := by
    rw [memD_pl (eC_pl o hcs) (by rw [pls_iff]; intro d hd; obtain ⟨c, hc, rfl⟩ := List.mem_map.mp hd; exact eC_pl o (hso c hc)) (by rw [eC_dp]; omega) (by rw [dps_le]; intro d hd; obtain ⟨c, hc, rfl⟩ := List.mem_map.mp hd; rw [eC_dp]; omega)]
    exact congrArg some (decide_eq_decide.mpr (mem_map_inj eC_inj))
  have hsw : PyData.strOk word = true := by rcases hword with h | h <;> rw [h] <;> decide +kernel
  have hadd : ∀ st, binD .add st (.lst (seen.map eC)) (.lst [eC cs]) = some (.lst (seen.map eC ++ [eC cs])) := fun st => add_lst (by rw [sizeLine_eq]; simp; omega)
  have fin : ∀ (seen' : List Cs) (word' : Str), seen'.length ≤ 7 → (∀ c ∈ seen', COf fs.fm c) → (word' = ("let" : Str) ∨ word' = ("refused" : Str)) → W (evSs (clD T n) [.ex (.mt .append (.var 9) [.tup [.var 14, .var 15, .var 18]])] (lE fs most many one other rule z7 N seen' style z12 z13 (some (.str who)) (some (eC cs)) z16 z17 (some (.str word'))) (s ++ [o0, o1, o2, .lst (l.map Rec.d)])) fun p => ∃ (seen' : List Cs) (word' : Str), p = (.nx, lE fs most many one other rule z7 N seen' style z12 z13 (some (.str who)) (some (eC cs)) z16 z17 (some (.str word')), s ++ [o0, o1, o2, .lst ((l ++ [Rec.mk who cs word']).map Rec.d)]) ∧ seen'.length ≤ 7 ∧ (∀ c ∈ seen', COf fs.fm c) ∧ (word' = ("let" : Str) ∨ word' = ("refused" : Str)) := by
    intro seen' word' a1 a2 a3
    refine (show W _ (fun p => p = (.nx, lE fs most many one other rule z7 N seen' style z12 z13 (some (.str who)) (some (eC cs)) z16 z17 (some (.str word')), s ++ [o0, o1, o2, .lst ((l ++ [Rec.mk who cs word']).map Rec.d)])) from ?_).mono fun p hp => ⟨seen', word', hp, a1, a2, a3⟩
    simp [w_scons, lE, mtok_ref hg, app, Rec.d]
  obtain ⟨seen', word', b1, b2, b3, hite⟩ : ∃ (seen' : List Cs) (word' : Str), seen'.length ≤ 7 ∧ (∀ c ∈ seen', COf fs.fm c) ∧ (word' = ("let" : Str) ∨ word' = ("refused" : Str)) ∧ evS (clD T n) (.ite (.and (.cmp .eq (.var 18) (.lit (.str ("let" : Str)))) (.cmp .notin (.var 15) (.var 10))) [.set (.nm 18) (.ite (.cmp .lt (.bf .len [.var 10]) (.lit (.int 7))) (.lit (.str ("let" : Str))) (.lit (.str ("refused" : Str)))), .set (.nm 10) (.ite (.cmp .lt (.bf .len [.var 10]) (.lit (.int 7))) (.bin .add (.var 10) (.lst false [.var 15])) (.var 10))] []) (lE fs most many one other rule z7 N seen style z12 z13 (some (.str who)) (some (eC cs)) z16 z17 (some (.str word))) (s ++ [o0, o1, o2, .lst (l.map Rec.d)]) = some (.nx, lE fs most many one other rule z7 N seen' style z12 z13 (some (.str who)) (some (eC cs)) z16 z17 (some (.str word')), s ++ [o0, o1, o2, .lst (l.map Rec.d)]) := by
    by_cases c1 : word = ("let" : Str)
    · by_cases c2 : cs ∈ seen
      · exact ⟨seen, word, hsn, hso, hword, W.eq1 (by simp [lE, eq_str strOk_let strOk_let, c1, hm, c2])⟩
      · by_cases c3 : seen.length < 7
        · have c3' : ((seen.length : Nat) : Int) < 7 := by omega
          refine ⟨seen ++ [cs], ("let" : Str), by simp; omega, fun c hc => ?_, .inl rfl, W.eq1 (by simp [lE, w_scons, eq_str strOk_let strOk_let, c1, hm, c2, c3', hadd])⟩
          rcases List.mem_append.mp hc with h | h
          · exact hso c h
          · rw [List.mem_singleton.mp h]; exact hcs
        · have c3' : ¬ ((seen.length : Nat) : Int) < 7 := by omega
          exact ⟨seen, ("refused" : Str), hsn, hso, .inr rfl, W.eq1 (by simp [lE, w_scons, eq_str strOk_let strOk_let, c1, hm, c2, c3'])⟩
    · exact ⟨seen, word, hsn, hso, hword, W.eq1 (by simp [lE, eq_str hsw strOk_let, c1])⟩
  rw [logL3, seq_of hite]
  exact fin seen' word' b1 b2 b3
structure RecW (fm : Fm) (P : List Str) (r : Rec) : Prop where
  ok : RecOk fm r
  word : r.word = ("let" : Str) ∨ r.word = ("refused" : Str)
  who : r.who ∈ P ∨ r.who = ("sure" : Str)
def LJ (B : Int) (fs : Form) (most many : Int) (one other : Cs) (rule : Rl) (z7 : Option D) (N : Nat) (style : Int) (z13 : Option D) (o0 o1 : Ob) (P : List Str) (s : Sto) (dn : List D) (env : Env) (st' : Sto) : Prop := ∃ (s' : Sto) (l : Log) (seen : List Cs) (z12 z14 z15 z16 z17 z18 : Option D), l.length = dn.length ∧ (∀ r ∈ l, RecW fs.fm P r) ∧ seen.length ≤ 7 ∧ (∀ c ∈ seen, COf fs.fm c) ∧ env = lE fs most many one other rule z7 N seen style z12 z13 z14 z15 z16 z17 z18 ∧ st' = s' ++ [o0, o1, .lst (P.map .str), .lst (l.map Rec.d)] ∧ Vine B s' ∧ Fr s s'
theorem log_lap {s : Sto} {N : Nat} (hN : s.length = N) {o0 o1 : Ob} {P : List Str} (hP : ∀ x ∈ P, PyData.strOk x = true) (hP0 : 0 < P.length) (hP2 : P.length ≤ 1000) {fs : Form} (o : FmOk fs.fm) {most many : Int} {one other : Cs} (h1 : COf fs.fm one) (h2 : COf fs.fm other) {rule : Rl} {z7 z13 : Option D} {style : Int} (case : Dr B T n c [.ref 2, eF fs] (isCase fs.fm)) (hlets : ∀ st cs, COf fs.fm cs → callD T n e [eR rule, eC cs] st = some (.bl (letR rule cs), st))
    {dn : List D} {x : D} (hdn : dn.length ≤ 90) {env : Env} {st' : Sto} (h : LJ B fs most many one other rule z7 N style z13 o0 o1 P s dn env st') : W (forB (clD T n) (.nm 12) (logL1 g c ++ (logL2 g e ++ logL3)) x env st') fun p => p.1 = .nx ∧ LJ B fs most many one other rule z7 N style z13 o0 o1 P s (dn ++ [x]) p.2.1 p.2.2 := by
  obtain ⟨s', l, seen, z12, z14, z15, z16, z17, z18, hl, hr, hs7, hsc, he, hst, hv, hf⟩ := h
  subst he hst
  have hN' : s'.length = N := hf.1.trans hN
  rw [w_forB, w_bnm, w_sapp]
  show W (evSs (clD T n) (logL1 g c) (lE fs most many one other rule z7 N seen style (some x) z13 z14 z15 z16 z17 z18) _) _
  refine (logL1_ok leaf hN' hv hP0 hP2 h1 h2 case).mono ?_
  rintro _ ⟨s1, who, cs, rfl, hwho, hcs, hv1, hf1⟩
  rw [nxt_nx, w_sapp]
  have hww := hP who hwho
  refine (logL2_ok leaf (hf1.1.trans hN') hv1 hP hP0 hww hcs hlets).mono ?_
  rintro _ ⟨s2, who', word, y16, y17, rfl, hw', hwd, hv2, hf2⟩
  rw [nxt_nx]
  refine (logL3_ok (hf2.1.trans (hf1.1.trans hN')) (by omega) o hs7 hsc hcs hwd).mono ?_
  rintro _ ⟨seen', word', rfl, a1, a2, a3⟩
  refine ⟨rfl, s2, l ++ [Rec.mk who' cs word'], seen', _, _, _, _, _, _, by simp [hl], fun r hr' => ?_, a1, a2, rfl, rfl, hv2, hf.trans (hf1.trans hf2)⟩
  rcases List.mem_append.mp hr' with h | h
  · exact hr r h
  · rw [List.mem_singleton.mp h]
    refine ⟨⟨?_, hcs, ?_⟩, a3, ?_⟩
    · rcases hw' with e | e
      · show PyData.strOk who' = true
        rw [e]; exact hww
      · show PyData.strOk who' = true
        rw [e]; exact strOk_sure
    · show PyData.strOk word' = true
      rcases a3 with e | e <;> rw [e] <;> decide +kernel
    · show who' ∈ P ∨ who' = _
      rcases hw' with e | e
      · rw [e]; exact .inl hwho
      · exact .inr e
include lean
theorem log_ok {f p : Str} {fs : Form} (o : FoOk fs) {most many : Nat} (hm : 2 ≤ most ∧ most ≤ 20) (hk : 1 ≤ many ∧ many ≤ 6) (hf : T.fn f = some (fdLog p g a c e)) (case : Dr B T n c [.ref 2, eF fs] (isCase fs.fm)) (hlets : ∀ (r : Rl) st cs, KOf fs.fm r → COf fs.fm cs → callD T n e [eR r, eC cs] st = some (.bl (letR r cs), st)) : Dr B T (n + 1) f [.ref 2, eF fs, .int (most : Int), .int (many : Int)] (isLog fs.fm most many) := by
  refine dr_of hf rfl rfl fun s hv => ?_
  have hfl := o.len
  show W (evSs (clD T n) (_ :: _) _ _) _
  rw [w_scons, w_set, w_tup, w_cons, w_call]
  simp
  refine (case s hv).mono ?_
  rintro ⟨d, s1⟩ ⟨⟨one, hd, h1⟩, hv1, hf1⟩
  simp only at hd hv1 hf1
  subst hd
  simp
  refine (case s1 hv1).mono ?_
  rintro ⟨d, s2⟩ ⟨⟨other, hd, h2⟩, hv2, hf2⟩
  simp only at hd hv2 hf2
  subst hd
  have hf12 := hf1.trans hf2
  have hN2 : s2.length = s.length := hf12.1
  simp
  rw [w_scons]
  simp [hN2]
  rw [w_scons]
  have hlenF : ∀ st, bfD .len st [eF fs] = some (.int (fs.length : Int)) := fun st => by simp [eF]
  simp [hlenF, src1 (small_of (i := (fs.length : Int)) (by omega) (by omega))]
  rw [range_map]
  refine (for_inv (I := HI fs (some (.ref 2)) (some (.int (most : Int))) (some (.int (many : Int))) one other s.length s2) (R := fun p => p.1 = .nx ∧ HI fs (some (.ref 2)) (some (.int (most : Int))) (some (.int (many : Int))) one other s.length s2 ((List.range fs.length).map fun i => D.int ((i : Nat) : Int)) p.2.1 p.2.2) (fun _ _ _ _ => same_nil) (fun dn x r env st' he hI => (hid_step o h1 h2 hN2 he hI).mono fun p hp => .inl ⟨.inl hp.1, hp.2⟩) (fun env st' hI => ⟨rfl, hI⟩) ⟨[], none, none, by simp; exact .nil, rfl, rfl⟩).mono ?_
  rintro ⟨fl, env, st'⟩ ⟨hfl1, r, z7, z13, hk1, henv, hst⟩
  simp only at hfl1 henv hst
  subst hfl1 henv hst
  have hrk : KOf fs.fm (some r) := by
    have : (((List.range fs.length).map fun i => D.int ((i : Nat) : Int))).length = fs.fm.length := by simp [Form.fm]
    rw [this, List.take_length] at hk1
    exact hk1
  rw [nxt_nx, w_scons, w_set, w_ite, w_cmp, w_call]
  simp
  refine leaf_at leaf ⟨by omega, by omega⟩ hv2 _ fun q s3 q0 q1 hv3 hf3 => ?_
  have hf123 := hf12.trans hf3
  have hN3 : s3.length = s.length := hf123.1
  have hg3 : (s3 ++ [Ob.lst (r.map Cn.d)])[s.length]? = some (.lst (r.map Cn.d)) := by rw [gk0 hN3]; rfl
  -- the rule: none, or what was drawn
  have rest : ∀ rule : Rl, KOf fs.fm rule → W (evSs (clD T n) [.set (.nm 8) (.lst true [.lit (.str ("ann" : Str)), .lit (.str ("bob" : Str)), .lit (.str ("cid" : Str)), .lit (.str ("dan" : Str)), .lit (.str ("eve9" : Str)), .lit (.str ("z" : Str))]),
    .set (.nm 8) (.comp true (.mt .popAt (.var 8) [.call g [.var 0, .bf .len [.var 8]]]) (.nm 12) 1 [.var 3] [] [12]),
    .set (.tp [.nm 9, .nm 10, .nm 11]) (.tup [.lst true [], .lst false [], .call a [.var 0, .lit (.int 4), .lit (.int 4)]]),
    .for_ (.nm 12) 1 [.bin .add (.lit (.int 2)) (.call a [.var 0, .lit (.int 5), .bin .sub (.var 2) (.lit (.int 1))])] (logL1 g c ++ (logL2 g e ++ logL3)),
    .ret (.bf .tuple [.var 9])] [some (.ref 2), some (eF fs), some (.int (most : Int)), some (.int (many : Int)), some (eC one), some (eC other), some (eR rule), z7, none, none, none, none, none, z13, none, none, none, none, none] (s3 ++ [Ob.lst (r.map Cn.d)])) (DrPost B (isLog fs.fm most many) s) := by
    intro rule hrule
    rw [w_scons]
    simp [hN3]
    rw [w_scons]
    simp [src1 (small_of (i := (many : Int)) (by omega) (by omega))]
    refine ⟨by rw [sizeLine_eq]; omega, ?_⟩
    refine (pop_comp leaf hN3 hv3 (ls := [Ob.lst (r.map Cn.d), .lst ([("ann" : Str), ("bob" : Str), ("cid" : Str), ("dan" : Str), ("eve9" : Str), ("z" : Str)].map D.str)]) (k := 1) (xs := [("ann" : Str), ("bob" : Str), ("cid" : Str), ("dan" : Str), ("eve9" : Str), ("z" : Str)].map D.str) rfl (by simp) rfl rfl (by omega) (by omega) (by simp; omega)).mono ?_
    rintro ⟨ys, st⟩ ⟨s4, zs, h4, hv4, hf4, hperm, hyl⟩
    simp only at h4 hperm hyl
    subst h4
    obtain ⟨w, hw, hpw⟩ := perm_strs hperm
    have hys : ys = (w.take many).map D.str := by
      have := congrArg (List.take ys.length) hw
      rw [List.take_left' rfl, ← List.map_take] at this
      rw [this, hyl]; simp
    have hPo : ∀ x ∈ w.take many, PyData.strOk x = true := fun x hx => strOk_people x (hpw.mem_iff.mp (List.mem_of_mem_take hx))
    have hPl : (w.take many).length = many := by
      have := hpw.length_eq
      simp at this ⊢; omega
    generalize hP : w.take many = P at *
    subst hys
    have hf1234 := hf123.trans hf4
    have hN4 : s4.length = s.length := hf1234.1
    simp [hN4]
    rw [w_scons]
    simp [hN4]
    refine lean_at leaf lean (pl := 4) (by omega) ⟨by omega, by omega⟩ hv4 _ fun style s5 st0 st1 hv5 hf5 => ?_
    rw [w_scons]
    simp
    refine lean_at leaf lean (pl := 5) (by omega) ⟨by omega, by omega⟩ hv5 _ fun laps s6 lp0 lp1 hv6 hf6 => ?_
    simp [src1 (small_of (i := 2 + laps) (by omega) (by omega))]
    have hf6' := hf1234.trans (hf5.trans hf6)
    have hN6 : s6.length = s.length := hf6'.1
    refine (for_inv (I := LJ B fs most many one other rule z7 s.length style z13 (.lst (r.map Cn.d)) (.lst zs) P s6) (R := fun p => p.1 = .nx ∧ LJ B fs most many one other rule z7 s.length style z13 (.lst (r.map Cn.d)) (.lst zs) P s6 (rangeD 0 (2 + laps).toNat) p.2.1 p.2.2) (fun _ _ _ _ => same_nil) (fun dn x rr env st' he hI => ?step) (fun env st' hI => ⟨rfl, hI⟩) ⟨s6, [], [], _, _, _, _, _, _, rfl, by simp, by simp, by simp, rfl, rfl, hv6, Fr.refl s6⟩).mono ?post
    case step =>
      have hdn : dn.length ≤ 90 := by
        have := congrArg List.length he
        simp at this; omega
      exact (log_lap leaf hN6 hPo (by omega) (by omega) o.fm h1 h2 case (fun st cs hc => hlets rule st cs hrule hc) hdn hI).mono fun p hp => .inl ⟨.inl hp.1, hp.2⟩
    case post =>
      rintro ⟨fl, env, st'⟩ ⟨hfl2, s7, l, seen, y12, y14, y15, y16, y17, y18, hl, hr, _, _, henv, hst, hv7, hf7⟩
      simp only at hfl2 henv hst
      subst hfl2 henv hst
      have hg : (s7 ++ [Ob.lst (r.map Cn.d), .lst zs, .lst (P.map .str), .lst (l.map Rec.d)])[s.length + 3]? = some (.lst (l.map Rec.d)) := by rw [gk (hf7.1.trans hN6)]; rfl
      simp [w_scons, lE, tuple_ref hg]
      have hll : l.length = (2 + laps).toNat := by simpa using hl
      have hlog : LogOk fs.fm l := ⟨by omega, fun x hx => (hr x hx).ok⟩
      exact drPost (low_of_pl (eL_pl o.fm hlog)) ⟨l, rfl, hlog, fun x hx => (hr x hx).word, by omega, by omega, P, by omega, fun x hx => (hr x hx).who⟩ hv7 (hf6'.trans hf7)
  simp
  split
  · exact rest none trivial
  · simp [tuple_ref hg3]
    exact rest (some r) hrk
end
end MP
end
section
set_option Elab.async false
set_option linter.all false
set_option maxRecDepth 100000
set_option maxHeartbeats 4000000
/-! LQg: ladders (k75, k77). -/
namespace MP
open PySem
theorem perm_map {α : Type} {e : α → D} {l m : List D} (h : l.Perm m) : ∀ xs : List α, m = xs.map e → ∃ w : List α, l = w.map e ∧ w.Perm xs := by
  induction h with
  | nil =>
    intro xs hx
    have : xs = [] := by simpa using hx.symm
    subst this
    exact ⟨[], rfl, .nil⟩
  | cons x _ ih =>
    intro xs hx
    cases xs with
    | nil => simp at hx
    | cons y ys =>
      simp only [List.map_cons, List.cons.injEq] at hx
      obtain ⟨w, hw, hp⟩ := ih ys hx.2
      exact ⟨y :: w, by rw [List.map_cons, hw, hx.1], hp.cons y⟩
  | swap x y _ =>
    intro xs hx
    match xs, hx with
    | a :: b :: ys, hx =>
      simp only [List.map_cons, List.cons.injEq] at hx
      exact ⟨b :: a :: ys, by rw [List.map_cons, List.map_cons, hx.1, hx.2.1, hx.2.2], List.Perm.swap _ _ _⟩
  | trans _ _ ih1 ih2 =>
    intro xs hx
    obtain ⟨w, hw, hp⟩ := ih2 xs hx
    obtain ⟨v, hv, hq⟩ := ih1 w hw
    exact ⟨v, hv, hq.trans hp⟩
def ladBody : List St := [.ex (.mt .append (.var 3) [.tup [.idx (.var 2) (.var 5), .tup [.bin .mul (.bin .mul (.var 4) (.lit (.int 2))) (.var 5)], .lit (.str ("let" : Str))]]), .ex (.mt .append (.var 3) [.tup [.idx (.var 2) (.var 5), .tup [.bin .add (.bin .mul (.bin .mul (.var 4) (.lit (.int 2))) (.var 5)) (.var 4)], .lit (.str ("refused" : Str))]])]
def fdLadder (p g : Str) : FD := ⟨[p, ("many" : Str)], 8, false, [
    .set (.nm 2) (.lst true [.lit (.str ("ann" : Str)), .lit (.str ("bob" : Str)), .lit (.str ("cid" : Str)), .lit (.str ("dan" : Str)), .lit (.str ("eve9" : Str)), .lit (.str ("z" : Str))]),
    .set (.nm 2) (.comp true (.mt .popAt (.var 2) [.call g [.var 0, .bf .len [.var 2]]]) (.nm 7) 1 [.var 1] [] [7]),
    .set (.tp [.nm 3, .nm 4]) (.tup [.lst true [], .idx (.tup [.lit (.int 1), .neg (.lit (.int 1))]) (.call g [.var 0, .lit (.int 2)])]),
    .for_ (.nm 5) 1 [.var 1] ladBody,
    .set (.nm 6) (.comp false (.mt .popAt (.var 3) [.call g [.var 0, .bf .len [.var 3]]]) (.nm 7) 1 [.bin .mul (.lit (.int 2)) (.var 1)] [] [7]),
    .ret (.tup [.tup [.tup [.lit (.str ("q" : Str)), .ite (.cmp .gt (.var 4) (.lit (.int 0))) (.tup [.lit (.int 0), .bin .mul (.lit (.int 2)) (.var 1)]) (.tup [.bin .mul (.neg (.lit (.int 2))) (.var 1), .lit (.int 0)])]], .bf .tuple [.var 6]])]⟩
def isLadder (many : Nat) (d : D) : Prop := ∃ fs l, d = .tup [eF fs, eL l] ∧ FoOk fs ∧ LogOk fs.fm l ∧ LogW l ∧ l.length = 2 * many ∧ ∃ P : List Str, P.length = many ∧ ∀ r ∈ l, r.who ∈ P
/-- the span of a ladder -/
def ladSp (step : Int) (many : Nat) : Cn := if 0 < step then .r 0 (2 * many) else .r (-2 * many) 0
section
variable {T : Tx} {n : Nat} {B : Int} {g : Str} (leaf : ∀ m : Int, 0 < m → m < 1073741824 → Dr B T n g [.ref 2, .int m] (isBelow m))
def LDI (many : Nat) (step : Int) (N : Nat) (o0 : Ob) (P : List Str) (s : Sto) (dn : List D) (env : Env) (st' : Sto) : Prop := ∃ (l : Log) (z5 : Option D), l.length = 2 * dn.length ∧ (∀ r ∈ l, RecOk [ladSp step many] r ∧ (r.word = ("let" : Str) ∨ r.word = ("refused" : Str)) ∧ r.who ∈ P) ∧ env = [some (.ref 2), some (.int (many : Int)), some (.ref (N + 1)), some (.ref (N + 2)), some (.int step), z5, none, none] ∧ st' = s ++ [o0, .lst (P.map .str), .lst (l.map Rec.d)]
theorem lad_step {many : Nat} (hm : many ≤ 6) {step : Int} (hstep : step = 1 ∨ step = -1) {N : Nat} {o0 : Ob} {P : List Str} (hP : ∀ x ∈ P, PyData.strOk x = true) (hPl : P.length = many) {s : Sto} (hN : s.length = N) {dn r : List D} {x : D} (he : dn ++ x :: r = (List.range many).map fun i => D.int ((i : Nat) : Int)) {env : Env} {st' : Sto} (h : LDI many step N o0 P s dn env st') : W (forB (clD T n) (.nm 5) ladBody x env st') fun p => p.1 = .nx ∧ LDI many step N o0 P s (dn ++ [x]) p.2.1 p.2.2 := by
  obtain ⟨l, z5, hl, hr, henv, hst⟩ := h
  obtain ⟨hj, hx⟩ := at_len (e := fun i : Nat => D.int (i : Int)) he
  subst henv hst
  have hj' : dn.length < many := by simpa using hj
  have hxx : x = .int ((dn.length : Nat) : Int) := by rw [hx]; simp
  subst hxx
  have gp : ∀ o : Ob, (s ++ [o0, .lst (P.map .str), o])[N + 1]? = some (.lst (P.map .str)) := fun o => by rw [gk hN]; rfl
  have gt : ∀ xs : List D, (s ++ [o0, .lst (P.map .str), .lst xs])[N + 2]? = some (.lst xs) := fun xs => by rw [gk hN]; rfl
  have hwho : ∀ o : Ob, ixD (s ++ [o0, .lst (P.map .str), o]) (.ref (N + 1)) (.int ((dn.length : Nat) : Int)) = some (.str (P[dn.length]'(by omega))) := fun o => by
    rw [ix_ref (gp o)]; exact at_map (by omega)
  have app : ∀ (xs : List D) (d : D), xs.length ≤ 100 → mtD .append (s ++ [o0, .lst (P.map .str), .lst xs]) (.ref (N + 2)) [d] = some (.non, s ++ [o0, .lst (P.map .str), .lst (xs ++ [d])]) := fun xs d hxs => by
    rw [append_ref (gt xs) (by rw [sizeLine_eq]; omega), sk hN]; rfl
  have a1 := app (l.map Rec.d) (.tup [.str (P[dn.length]'(by omega)), .tup [.int (step * 2 * dn.length)], .str ("let" : Str)]) (by simp; omega)
  have a2 := app (l.map Rec.d ++ [.tup [.str (P[dn.length]'(by omega)), .tup [.int (step * 2 * dn.length)], .str ("let" : Str)]]) (.tup [.str (P[dn.length]'(by omega)), .tup [.int (step * 2 * dn.length + step)], .str ("refused" : Str)]) (by simp; omega)
  have m1 : ∀ st, binD .mul st (.int step) (.int 2) = some (.int (step * 2)) := fun st => mul_int (.inr (by omega))
  have m2 : ∀ st, binD .mul st (.int (step * 2)) (.int ((dn.length : Nat) : Int)) = some (.int (step * 2 * dn.length)) := fun st => mul_int (.inr (by omega))
  simp [ladBody, w_scons, hwho, m1, m2, mtok_ref (gt _), a1]
  simp at a2
  simp [a2]
  have hpw := hP _ (List.getElem_mem (l := P) (n := dn.length) (by omega))
  have hc : ∀ v : Int, (step = 1 ∧ 0 ≤ v ∧ v ≤ 2 * many ∨ step = -1 ∧ -2 * (many : Int) ≤ v ∧ v ≤ 0) → COf [ladSp step many] [.i v] := by
    intro v hv
    refine .cons ?_ .nil
    rcases hv with ⟨e, h1, h2⟩ | ⟨e, h1, h2⟩ <;> subst e <;> simp [ladSp, letV] <;> omega
  have hv1 : step = 1 ∧ 0 ≤ step * 2 * (dn.length : Int) ∧ step * 2 * (dn.length : Int) ≤ 2 * many ∨ step = -1 ∧ -2 * (many : Int) ≤ step * 2 * (dn.length : Int) ∧ step * 2 * (dn.length : Int) ≤ 0 := by
    rcases hstep with e | e <;> subst e
    · left; omega
    · right; omega
  have hv2 : step = 1 ∧ 0 ≤ step * 2 * (dn.length : Int) + step ∧ step * 2 * (dn.length : Int) + step ≤ 2 * many ∨ step = -1 ∧ -2 * (many : Int) ≤ step * 2 * (dn.length : Int) + step ∧ step * 2 * (dn.length : Int) + step ≤ 0 := by
    rcases hstep with e | e <;> subst e
    · left; omega
    · right; omega
  refine ⟨l ++ [Rec.mk (P[dn.length]'(by omega)) [.i (step * 2 * dn.length)] ("let" : Str), Rec.mk (P[dn.length]'(by omega)) [.i (step * 2 * dn.length + step)] ("refused" : Str)], _, by simp [hl]; omega, fun y hy => ?_, rfl, by simp [Rec.d, eC, Vl.d]⟩
  rcases List.mem_append.mp hy with hy | hy
  · exact hr y hy
  · simp only [List.mem_cons, List.not_mem_nil, or_false] at hy
    rcases hy with rfl | rfl
    · exact ⟨⟨hpw, hc _ hv1, strOk_let⟩, .inl rfl, List.getElem_mem _⟩
    · exact ⟨⟨hpw, hc _ hv2, strOk_refused⟩, .inr rfl, List.getElem_mem _⟩
include leaf
theorem ladder_ok {f p : Str} {many : Nat} (hm : 1 ≤ many ∧ many ≤ 6) (hf : T.fn f = some (fdLadder p g)) : Dr B T (n + 1) f [.ref 2, .int (many : Int)] (isLadder many) := by
  refine dr_of hf rfl rfl fun s hv => ?_
  show W (evSs (clD T n) (_ :: _) _ _) _
  rw [w_scons]
  simp
  rw [w_scons]
  simp [src1 (small_of (i := (many : Int)) (by omega) (by omega))]
  refine ⟨by rw [sizeLine_eq]; omega, ?_⟩
  refine (pop_comp leaf rfl hv (ls := [.lst ([("ann" : Str), ("bob" : Str), ("cid" : Str), ("dan" : Str), ("eve9" : Str), ("z" : Str)].map D.str)]) (k := 0) (xs := [("ann" : Str), ("bob" : Str), ("cid" : Str), ("dan" : Str), ("eve9" : Str), ("z" : Str)].map D.str) rfl (by simp) rfl rfl (by omega) (by omega) (by simp; omega)).mono ?_
  rintro ⟨ys, st⟩ ⟨s4, zs, h4, hv4, hf4, hperm, hyl⟩
  simp only at h4 hperm hyl
  subst h4
  obtain ⟨w, hw, hpw⟩ := perm_strs hperm
  have hys : ys = (w.take many).map D.str := by
    have := congrArg (List.take ys.length) hw
    rw [List.take_left' rfl, ← List.map_take] at this
    rw [this, hyl]; simp
  have hPo : ∀ x ∈ w.take many, PyData.strOk x = true := fun x hx => strOk_people x (hpw.mem_iff.mp (List.mem_of_mem_take hx))
  have hPl : (w.take many).length = many := by
    have := hpw.length_eq
    simp at this ⊢; omega
  generalize hP : w.take many = P at *
  subst hys
  have hN4 : s4.length = s.length := hf4.1
  simp [hN4]
  rw [w_scons]
  simp [hN4]
  refine leaf_at leaf ⟨by omega, by omega⟩ hv4 _ fun q s5 q0 q1 hv5 hf5 => ?_
  have hf45 := hf4.trans hf5
  obtain ⟨step, hstep, hix⟩ : ∃ step : Int, (step = 1 ∨ step = -1) ∧ L2.atI [D.int 1, .int (-1)] q = some (.int step) := by
    rcases (by omega : q = 0 ∨ q = 1) with e | e <;> subst e
    · exact ⟨1, .inl rfl, by simp⟩
    · exact ⟨-1, .inr rfl, by simp⟩
  simp [hix]
  rw [w_scons]
  simp [src1 (small_of (i := (many : Int)) (by omega) (by omega))]
  rw [range_map]
  refine (for_inv (I := LDI many step s.length (.lst zs) P s5) (R := fun p => p.1 = .nx ∧ LDI many step s.length (.lst zs) P s5 ((List.range many).map fun i => D.int ((i : Nat) : Int)) p.2.1 p.2.2) (fun _ _ _ _ => same_nil) (fun dn x rr env st' he hI => (lad_step (by omega) hstep hPo hPl hf45.1 he hI).mono fun p hp => .inl ⟨.inl hp.1, hp.2⟩) (fun env st' hI => ⟨rfl, hI⟩) ⟨[], none, rfl, by simp, rfl, rfl⟩).mono ?_
  rintro ⟨fl, env, st'⟩ ⟨hfl, l, z5, hl, hr, henv, hst⟩
  simp only at hfl henv hst
  subst hfl henv hst
  have hll : l.length = 2 * many := by simpa using hl
  rw [nxt_nx, w_scons]
  simp [mul_int (i := 2) (j := (many : Int)) (.inl (by omega)), src1 (small_of (i := 2 * (many : Int)) (by omega) (by omega))]
  refine ⟨by rw [sizeLine_eq]; omega, ?_⟩
  refine (pop_comp leaf hf45.1 hv5 (ls := [.lst zs, .lst (P.map .str), .lst (l.map Rec.d)]) (k := 2) (xs := l.map Rec.d) rfl (by simp; omega) rfl rfl (by omega) (by omega) (by simp; omega)).mono ?_
  rintro ⟨us, st⟩ ⟨s6, vs, h6, hv6, hf6, hperm2, hul⟩
  simp only at h6 hperm2 hul
  subst h6
  have hvs : vs = [] := by
    have h7 := hperm2.length_eq
    simp at h7 hul
    exact List.length_eq_zero_iff.mp (by omega)
  subst hvs
  rw [List.append_nil] at hperm2
  obtain ⟨m, hm1, hm2⟩ := perm_map hperm2 l rfl
  subst hm1
  have hml := hm2.length_eq
  have hsp : FoOk [(("q" : Str), ladSp step many)] := by
    refine foOk_of (by simp) (by simp) fun p hp => ?_
    rw [List.mem_singleton.mp hp]
    unfold ladSp
    split
    · exact ⟨by show (0 : Int) ≤ _ ∧ _ ∧ _; omega, conds_r_len (by omega)⟩
    · exact ⟨by show (_ : Int) ≤ 0 ∧ _ ∧ _; omega, conds_r_len (by omega)⟩
  have hlog : LogOk (Form.fm [(("q" : Str), ladSp step many)]) m := ⟨by omega, fun r hr' => (hr r (hm2.mem_iff.mp hr')).1⟩
  have hfin : ∀ env, DrPost B (isLadder many) s (.ret (.tup [eF [(("q" : Str), ladSp step many)], eL m]), env, s6 ++ [.lst zs, .lst (P.map .str), .lst []]) := fun env => by
    refine drPost (fun k => ?_) ⟨_, m, rfl, hsp, hlog, fun r hr' => (hr r (hm2.mem_iff.mp hr')).2.1, by omega, P, hPl, fun r hr' => (hr r (hm2.mem_iff.mp hr')).2.2⟩ hv6 (hf45.trans hf6)
    have e1 : (eL m).low k = true := low_pl _ (eL_pl hsp.fm hlog)
    have e2 : (eF [(("q" : Str), ladSp step many)]).low k = true := by
      unfold ladSp; split <;> rfl
    rw [D.low, D.lows, D.lows, e1, e2]; rfl
  rcases hstep with e | e
  · subst e
    simp [w_scons, mul_int (i := 2) (j := (many : Int)) (.inl (by omega))]
    have := hfin [some (.ref 2), some (.int (many : Int)), some (.ref (s.length + 1)), some (.ref (s.length + 2)), some (.int 1), z5, some (.lst (m.map Rec.d)), none]
    simpa [eF, eL, eFd, ladSp, Cn.d] using this
  · subst e
    simp [w_scons, mul_int (i := -2) (j := (many : Int)) (.inl (by omega))]
    have := hfin [some (.ref 2), some (.int (many : Int)), some (.ref (s.length + 1)), some (.ref (s.length + 2)), some (.int (-1)), z5, some (.lst (m.map Rec.d)), none]
    simpa [eF, eL, eFd, ladSp, Cn.d] using this
end
end MP
end
section
set_option Elab.async false
set_option linter.all false
set_option maxRecDepth 100000
set_option maxHeartbeats 4000000
/-! LQh: k75's plain laws: what is asked agrees. -/
namespace MP
open PySem
/-! ### sizes -/
theorem szs_le {k : Nat} : ∀ {xs : List D}, (∀ x ∈ xs, x.sz ≤ k) → D.szs xs ≤ k * xs.length
  | [], _ => by simp [D.szs]
  | x :: xs, h => by
    rw [D.szs, List.length_cons, Nat.mul_succ]
    have := h x List.mem_cons_self
    have := szs_le fun y hy => h y (List.mem_cons_of_mem _ hy)
    omega
theorem tup_sz {k m : Nat} {xs : List D} (h : ∀ x ∈ xs, x.sz ≤ k) (hl : xs.length ≤ m) : (D.tup xs).sz ≤ k * m + 1 := by
  rw [D.sz]
  have := szs_le h
  have := Nat.mul_le_mul_left k hl
  omega
theorem tup_cq {xs : List D} (h : ∀ x ∈ xs, x.cq = true) : (D.tup xs).cq = true := by
  rw [D.cq]; exact cqs_iff.mpr h
theorem ePr_cq (p : Option Nat) : (ePr p).cq = true := by cases p <;> rfl
theorem ePr_sz (p : Option Nat) : (ePr p).sz = 1 := by cases p <;> rfl
theorem vl_cq {sp : Cn} {v : Vl} (h : letV sp v = true) (o : SpOk sp) : v.d.cq = true := by
  cases v with
  | i n => rfl
  | s x => exact letV_s h o
theorem vl_sz (v : Vl) : v.d.sz = 1 := by cases v <;> rfl
theorem eC_cq {fm : Fm} {c : Cs} (o : FmOk fm) (h : COf fm c) : (eC c).cq = true := by
  refine tup_cq fun d hd => ?_
  obtain ⟨v, hv, rfl⟩ := List.mem_map.mp hd
  obtain ⟨i, hi⟩ := List.mem_iff_getElem?.mp hv
  have hil := (List.getElem?_eq_some_iff.mp hi).1
  have hl := h.len
  have hf : i < fm.length := by omega
  exact vl_cq (h.get (List.getElem?_eq_getElem hf) hi) (o.2.2 _ (List.getElem_mem hf))
theorem eC_sz {fm : Fm} {c : Cs} (o : FmOk fm) (h : COf fm c) : (eC c).sz ≤ 5 := by
  have := tup_sz (xs := c.map Vl.d) (k := 1) (m := 4) (fun d hd => by
    obtain ⟨v, _, rfl⟩ := List.mem_map.mp hd
    rw [vl_sz]; exact Nat.le_refl _) (by have := h.len; have := o.2.1; simp; omega)
  exact this
theorem rec_cq {fm : Fm} {r : Rec} (o : FmOk fm) (h : RecOk fm r) : r.d.cq = true := by
  rw [Rec.d, D.cq, D.cqs, D.cqs, D.cqs, eC_cq o h.case]
  simp only [D.cq, h.who, h.word, D.cqs]; rfl
theorem rec_sz {fm : Fm} {r : Rec} (o : FmOk fm) (h : RecOk fm r) : r.d.sz ≤ 8 := by
  rw [Rec.d, D.sz, D.szs, D.szs, D.szs, D.szs]
  have := eC_sz o h.case
  have e1 : (D.str r.who).sz = 1 := rfl
  have e2 : (D.str r.word).sz = 1 := rfl
  omega
theorem eL_cq {fm : Fm} {l : Log} (o : FmOk fm) (h : LogOk fm l) : (eL l).cq = true := by
  refine tup_cq fun d hd => ?_
  obtain ⟨r, hr, rfl⟩ := List.mem_map.mp hd
  exact rec_cq o (h.2 r hr)
theorem eL_sz {fm : Fm} {l : Log} (o : FmOk fm) (h : LogOk fm l) : (eL l).sz ≤ 161 := by
  exact tup_sz (k := 8) (m := 20) (fun d hd => by
    obtain ⟨r, hr, rfl⟩ := List.mem_map.mp hd
    exact rec_sz o (h.2 r hr)) (by simpa using h.1)
/-! ### parts of a log by places -/
theorem mem_all {l : Log} {x : Rec} : x ∈ l ↔ ∃ i ∈ List.range l.length, l[i]? = some x := by
  constructor
  · intro h
    obtain ⟨i, hi⟩ := List.mem_iff_getElem?.mp h
    exact ⟨i, List.mem_range.mpr (List.getElem?_eq_some_iff.mp hi).1, hi⟩
  · rintro ⟨i, _, h⟩
    exact List.mem_of_getElem? h
theorem mem_take {l : Log} {n : Nat} {x : Rec} : x ∈ l.take n ↔ ∃ i ∈ (List.range l.length).take n, l[i]? = some x := by
  constructor
  · intro h
    obtain ⟨i, hi⟩ := List.mem_iff_getElem?.mp h
    rw [List.getElem?_take] at hi
    split at hi
    · rename_i hin
      have hl := (List.getElem?_eq_some_iff.mp hi).1
      refine ⟨i, List.mem_iff_getElem?.mpr ⟨i, ?_⟩, hi⟩
      rw [List.getElem?_take, if_pos hin, List.getElem?_range hl]
    · cases hi
  · rintro ⟨i, hi, h⟩
    obtain ⟨j, hj⟩ := List.mem_iff_getElem?.mp hi
    rw [List.getElem?_take] at hj
    split at hj
    · rename_i hjn
      have hl := (List.getElem?_eq_some_iff.mp hj).1
      have e : j = i := by
        rw [List.getElem?_range (by simpa using hl)] at hj
        exact Option.some.inj hj
      subst e
      refine List.mem_iff_getElem?.mpr ⟨j, ?_⟩
      rw [List.getElem?_take, if_pos hjn]; exact h
    · cases hj
theorem mem_withoutR {l : Log} {ps : List Int} {x : Rec} : x ∈ withoutR l ps ↔ ∃ i ∈ (List.range l.length).filter (fun i : Nat => !decide ((i : Int) ∈ ps)), l[i]? = some x := by
  unfold withoutR
  rw [List.mem_map]
  constructor
  · rintro ⟨⟨i, y⟩, h, rfl⟩
    rw [List.mem_filter] at h
    obtain ⟨j, hj⟩ := List.mem_iff_getElem?.mp h.1
    rw [List.getElem?_zip_eq_some] at hj
    have hl := (List.getElem?_eq_some_iff.mp hj.2).1
    rw [List.getElem?_range hl] at hj
    have e : j = i := Option.some.inj hj.1
    subst e
    exact ⟨j, List.mem_filter.mpr ⟨List.mem_range.mpr hl, h.2⟩, hj.2⟩
  · rintro ⟨i, hi, h⟩
    rw [List.mem_filter] at hi
    have hl := List.mem_range.mp hi.1
    refine ⟨(i, x), List.mem_filter.mpr ⟨?_, hi.2⟩, rfl⟩
    refine List.mem_iff_getElem?.mpr ⟨i, ?_⟩
    rw [List.getElem?_zip_eq_some]
    exact ⟨List.getElem?_range hl, h⟩
theorem withoutR_map (l : Log) (ps : List Int) : withoutR l ps = ((List.range l.length).filter fun i : Nat => !decide ((i : Int) ∈ ps)).map fun i => (l[i]?).getD ⟨⟨#[]⟩, [], ⟨#[]⟩⟩ := by
  unfold withoutR
  have h : (List.range l.length).zip l = (List.range l.length).map fun i => (i, (l[i]?).getD ⟨⟨#[]⟩, [], ⟨#[]⟩⟩) := by
    refine List.ext_getElem (by simp) fun i h1 h2 => ?_
    have hl : i < l.length := by simpa using h2
    simp [List.getElem?_eq_getElem hl]
  rw [h, List.filter_map, List.map_map]
  rfl
theorem LogW.sub {l m : Log} (h : LogW l) (k : m.Sublist l) : LogW m := fun x hx => h x (k.subset hx)
/-- the first place that is beyond -/
theorem first_head (g : List (Option Nat)) (k : Int) : firstB g k = ((List.range g.length).filter fun i => match g[i]? with | some p => beyond p k | none => false).head? := by
  unfold firstB
  rw [List.head?_filter]
  induction g with
  | nil => rfl
  | cons p g ih =>
    rw [List.findIdx?_cons, List.length_cons, List.range_succ_eq_map, List.find?_cons]
    simp only [List.getElem?_cons_zero]
    cases q : beyond p k with
    | true => rfl
    | false =>
      simp only [Bool.false_eq_true, if_false]
      rw [ih, List.find?_map]
      congr 1
end MP
end
section
set_option Elab.async false
set_option linter.all false
set_option maxRecDepth 100000
set_option maxHeartbeats 4000000
/-! LQi: k75's question, walked. -/
namespace MP
open PySem
theorem rg_every {k : Nat} (hk : k ≤ 20) : rgD [.int (k : Int)] = some (0, (k : Int)) := by
  unfold rgD
  simp only
  rw [if_pos (by rw [Bool.and_eq_true, decide_eq_true_eq]; exact ⟨small_of (by omega) (by omega), by omega⟩)]
theorem range_eNs (k : Nat) : rangeD 0 k = eNs (List.range k) := range_map k
theorem rows_small {fm : Fm} {l : Log} {cl : List Clm} {rows : List (List Nat)} (h : LogOk fm l) (hr : RowsOf fm l cl rows) : ∀ ps ∈ rows, ps.length < 60 ∧ ∀ i ∈ ps, i < l.length := by
  intro ps hps
  obtain ⟨r, _, _, rfl⟩ := (hr ps).mp hps
  refine ⟨?_, fun i hi => ?_⟩
  · have h1 : (placesT l r).length ≤ (List.range l.length).length := List.length_filter_le _ _
    have := h.1
    simp at h1; omega
  · obtain ⟨x, hx, _⟩ := mem_places.mp hi
    exact (List.getElem?_eq_some_iff.mp hx).1
/-- what the law's defs of k75 do -/
structure Asks (B : Int) (T : Tx) (n : Nat) : Prop where
  L : La T
  V : LaW T
  lap : 2 ^ 24 ≤ T.lap
  wrong : T.fn "_law_wrong_places" = some K75.fd__law_wrong_places
  few : T.fn "_law_fewest" = some K75.fd__law_fewest
  same : T.fn "_law_same" = some fdSame
  rules : T.fn "_law_rules" = some fdRules
  lets : T.fn "_law_lets" = some fdLets
  asked : T.fn "_law_asked" = some K75.fd__law_asked
  leaf : ∀ m : Int, 0 < m → m < 1073741824 → Dr B T (n + 20) "_law_leaf" [.ref 2, .int m] (isBelow m)
section
variable {B : Int} {T : Tx} {n : Nat} (A : Asks B T n) {fs : Form} (o : FoOk fs) {l : Log} (hl : LogOk fs.fm l) (hw : LogW l) {cl : List Clm} (hc : ClsOk fs.fm cl) {rows : List (List Nat)} (hr : RowsOf fs.fm l cl rows) {st : Sto}
include A o hl hw hc hr
theorem few_all {K : List Nat} {m : Log} (hm : ∀ x, x ∈ m ↔ ∃ i ∈ K, l[i]? = some x) (hms : m.Sublist l) : callD T (n + 20) "_law_fewest" [eL l, .lst (rows.map ePl), ePl K] st = some (ePr (priceL m cl), st) := by
  rw [few_ok hl (rows_small hl hr) A.few (n := n + 19), few_price o.fm hr hm (hl.sub hms) (hw.sub hms) hc]
end
theorem cut_eNs {ps : List Nat} {i : Int} (h : 0 ≤ i) : cutD (eNs ps) none (some i) = eNs (ps.take i.toNat) := by
  rw [cut_to h, eNs, eNs, List.map_take]
theorem beyond_ix {g : List (Option Nat)} {i : Nat} (h : i < g.length) : L2.atI (g.map ePr) (i : Int) = some (ePr g[i]) := at_map h
section
variable {B : Int} {T : Tx} {n : Nat} (A : Asks B T n)
include A
/-- the slots in the loop over the numbers -/
def AJ (fs : Form) (l : Log) (cl : List Clm) (rows0 rows1 : List (List Nat)) (s : Sto) (dn : List D) (env : Env) (st' : Sto) : Prop := ∃ z8 z12 z15 : Option D, env = [some (.ref 2), some (eF fs), some (eL l), some (eCl cl), some (.lst (rows0.map ePl)), some (.lst (rows1.map ePl)), some (.lst (eNs (List.range l.length))), some (.tup ((growthL l).map ePr)), z8, none, none, none, z12, none, none, z15, none] ∧ s = st'
def lapBody : List St := [.set (.nm 15) (.comp false (.var 12) (.nm 12) 0 [.var 6] [.or (.cmp .is (.idx (.var 7) (.var 12)) (.lit (.non))) (.cmp .gt (.idx (.var 7) (.var 12)) (.var 8))] [12]), .ite (.not (.call ("_law_same" : Str) [.call ("first_broken" : Str) [.var 2, .var 8], .ite (.cmp .gt (.bf .len [.var 15]) (.lit (.int 0))) (.idx (.var 15) (.lit (.int 0))) (.lit (.non))])) [.ret (.lit (.bl false))] []]
theorem asked_lap {fs : Form} (o : FoOk fs) {l : Log} (hl : LogOk fs.fm l) {cl : List Clm} {rows0 rows1 : List (List Nat)} (hsame : ∀ (d : D) (st : Sto), d.cq = true → d.sz ≤ 2 ^ 20 → callD T (n + 20) "_law_same" [d, d] st = some (.bl true, st)) {s st' : Sto} {dn : List D} {k : Int} {env : Env} (h : AJ fs l cl rows0 rows1 s dn env st') : W (forB (clD T (n + 20)) (.nm 8) lapBody (.int k) env st') fun p => p.1 = .nx ∧ AJ fs l cl rows0 rows1 s (dn ++ [.int k]) p.2.1 p.2.2 := by
  obtain ⟨z8, z12, z15, henv, hst⟩ := h
  subst henv hst
  have hl20 := hl.1
  have hgl : (growthL l).length = l.length := by simp [growthL]
  let bs := (List.range l.length).filter fun i => match (growthL l)[i]? with | some p => beyond p k | none => false
  have hcomp : compD [] s (compB (clD T (n + 20)) (.var 12) (.nm 12) [.or (.cmp .is (.idx (.var 7) (.var 12)) (.lit (.non))) (.cmp .gt (.idx (.var 7) (.var 12)) (.var 8))] [12] [some (.ref 2), some (eF fs), some (eL l), some (eCl cl), some (.lst (rows0.map ePl)), some (.lst (rows1.map ePl)), some (.lst (eNs (List.range l.length))), some (.tup ((growthL l).map ePr)), some (.int k), none, none, none, z12, none, none, z15, none]) (eNs (List.range l.length)) s = some (eNs bs, s) := by
    refine comp_filter (e := fun i : Nat => D.int (i : Int)) fun i hi => ?_
    have hi := List.mem_range.mp hi
    have hig : i < (growthL l).length := by omega
    have hat := beyond_ix hig
    rw [← W_eq, List.getElem?_eq_getElem hig]
    generalize (growthL l)[i] = g at *
    cases g with
    | none => simp [hat, ePr, beyond]
    | some m =>
      simp [hat, ePr, beyond]
  have hfb := first_broken_ok A.L A.V o.fm (n := n + 11) (st := s) (k := k) hl
  have hhead : firstB (growthL l) k = bs.head? := by rw [first_head, hgl] <;> rfl
  have hln : (eNs (List.range l.length)).length ≤ sizeLine := by unfold eNs; simp; rw [sizeLine_eq]; omega
  have hs := hsame (ePr (firstB (growthL l) k)) s (ePr_cq _) (by rw [ePr_sz]; omega)
  simp [lapBody, w_scons, hcomp, hln, hfb]
  rw [hhead] at hs ⊢
  generalize bs = q at *
  cases q with
  | nil =>
    simp [eNs, ePr] at hs ⊢
    simp [hs]
    exact ⟨_, _, _, rfl, rfl⟩
  | cons b r =>
    simp [eNs, ePr] at hs ⊢
    have : (0 : Int) < (r.length : Int) + 1 := by omega
    simp [hs, this]
    exact ⟨_, _, _, rfl, rfl⟩
def endBody : List St := [.set (.nm 9) (.call ("_law_fewest" : Str) [.var 2, .var 5, .var 6]),
    .set (.nm 10) (.comp false (.call ("_law_fewest" : Str) [.var 2, .var 5, .comp false (.var 12) (.nm 12) 0 [.var 6] [.cmp .ne (.var 12) (.var 16)] [12]]) (.nm 16) 0 [.var 6] [] [16]),
    .set (.nm 11) (.bf .tuple [.comp false (.var 12) (.nm 12) 0 [.var 6] [.cmp .ne (.idx (.var 10) (.var 12)) (.var 9)] [12]]),
    .ite (.not (.call ("_law_same" : Str) [.call ("needed_records" : Str) [.var 2, .var 3], .var 11])) [.ret (.lit (.bl false))] [],
    .set (.nm 12) (.call ("_law_leaf" : Str) [.var 0, .bf .len [.var 2]]),
    .set (.nm 13) (.sl (.var 2) none (some (.bin .add (.var 12) (.lit (.int 1))))),
    .set (.nm 14) (.tup [.call ("fewest_errs" : Str) [.var 13], .call ("price" : Str) [.var 2, .var 3], .call ("price" : Str) [.call ("without_records" : Str) [.var 2, .tup [.var 12]], .var 3], .call ("without_records" : Str) [.var 2, .var 11]]),
    .ret (.call ("_law_same" : Str) [.var 14, .tup [.idx (.var 7) (.var 12), .var 9, .idx (.var 10) (.var 12), .bf .tuple [.comp false (.idx (.var 2) (.var 16)) (.nm 16) 0 [.var 6] [.cmp .notin (.var 16) (.var 11)] [16]]]])]
theorem asked_end {fs : Form} (o : FoOk fs) {l : Log} (hl : LogOk fs.fm l) (hw : LogW l) (hl0 : 0 < l.length) {cl : List Clm} (hc : ClsOk fs.fm cl) {rows0 rows1 : List (List Nat)} (hr1 : RowsOf fs.fm l cl rows1) (hsame : ∀ (d : D) (st : Sto), d.cq = true → d.sz ≤ 2 ^ 20 → callD T (n + 20) "_law_same" [d, d] st = some (.bl true, st)) {s0 s : Sto} (hv : Vine B s) (hf : Fr s0 s) {z8 z12 z15 : Option D} :
    W (evSs (clD T (n + 20)) endBody [some (.ref 2), some (eF fs), some (eL l), some (eCl cl), some (.lst (rows0.map ePl)), some (.lst (rows1.map ePl)), some (.lst (eNs (List.range l.length))), some (.tup ((growthL l).map ePr)), z8, none, none, none, z12, none, none, z15, none] s) (DrPost B (fun d => d = .bl true) s0) := by
  have hl20 := hl.1
  have hln : (eNs (List.range l.length)).length ≤ sizeLine := by unfold eNs; simp; rw [sizeLine_eq]; omega
  have hwhole : ∀ st, callD T (n + 20) "_law_fewest" [eL l, .lst (rows1.map ePl), .lst (eNs (List.range l.length))] st = some (ePr (priceL l cl), st) := fun st => few_all A o hl hw hc hr1 (K := List.range l.length) (m := l) (fun x => mem_all) (List.Sublist.refl _)
  -- less
  have hother : ∀ (i : Nat) (z9 z10 : Option D), compD [] s (compB (clD T (n + 20)) (.var 12) (.nm 12) [.cmp .ne (.var 12) (.var 16)] [12] [some (.ref 2), some (eF fs), some (eL l), some (eCl cl), some (.lst (rows0.map ePl)), some (.lst (rows1.map ePl)), some (.lst (eNs (List.range l.length))), some (.tup ((growthL l).map ePr)), z8, z9, z10, none, z12, none, none, z15, some (.int (i : Int))]) (eNs (List.range l.length)) s = some (eNs ((List.range l.length).filter fun j : Nat => !decide ((j : Int) ∈ [(i : Int)])), s) := by
    intro i z9 z10
    refine comp_filter (e := fun i : Nat => D.int (i : Int)) fun j hj => ?_
    rw [← W_eq]
    simp
  have hless : ∀ z9 z10, compD [] s (compB (clD T (n + 20)) (.call ("_law_fewest" : Str) [.var 2, .var 5, .comp false (.var 12) (.nm 12) 0 [.var 6] [.cmp .ne (.var 12) (.var 16)] [12]]) (.nm 16) [] [16] [some (.ref 2), some (eF fs), some (eL l), some (eCl cl), some (.lst (rows0.map ePl)), some (.lst (rows1.map ePl)), some (.lst (eNs (List.range l.length))), some (.tup ((growthL l).map ePr)), z8, z9, z10, none, z12, none, none, z15, none]) (eNs (List.range l.length)) s = some ((List.range l.length).map fun i : Nat => ePr (priceL (withoutR l [(i : Int)]) cl), s) := by
    intro z9 z10
    refine comp_map (e := fun i : Nat => D.int (i : Int)) fun i hi => ?_
    have hfew := few_all A o hl hw hc hr1 (st := s) (K := (List.range l.length).filter fun j : Nat => !decide ((j : Int) ∈ [(i : Int)])) (m := withoutR l [(i : Int)]) (fun x => mem_withoutR) (withoutR_sub l _)
    simp only [ePl, List.mem_singleton] at hfew hother
    rw [← W_eq]
    simp [hln, hother, hfew]
  have hneed : ∀ z10 (z11 : Option D), compD [] s (compB (clD T (n + 20)) (.var 12) (.nm 12) [.cmp .ne (.idx (.var 10) (.var 12)) (.var 9)] [12] [some (.ref 2), some (eF fs), some (eL l), some (eCl cl), some (.lst (rows0.map ePl)), some (.lst (rows1.map ePl)), some (.lst (eNs (List.range l.length))), some (.tup ((growthL l).map ePr)), z8, some (ePr (priceL l cl)), some (.lst ((List.range l.length).map fun i : Nat => ePr (priceL (withoutR l [(i : Int)]) cl))), z11, z12, none, none, z15, z10]) (eNs (List.range l.length)) s = some (eNs (neededL l cl), s) := by
    intro z10 z11
    refine comp_filter (e := fun i : Nat => D.int (i : Int)) fun i hi => ?_
    have hi := List.mem_range.mp hi
    have hat : L2.atI ((List.range l.length).map fun i : Nat => ePr (priceL (withoutR l [(i : Int)]) cl)) (i : Int) = some (ePr (priceL (withoutR l [(i : Int)]) cl)) := by
      rw [at_map (e := fun i : Nat => ePr (priceL (withoutR l [(i : Int)]) cl)) (by simpa using hi)]
      simp
    rw [← W_eq]
    simp [hat, ne_ePr]
  have hn := needed_records_ok A.L A.V o.fm (n := n + 12) (st := s) hl hc
  have hsn := hsame (.tup (eNs (neededL l cl))) s (tup_cq fun d hd => by obtain ⟨p, _, rfl⟩ := List.mem_map.mp hd; rfl) (Nat.le_trans (tup_sz (k := 1) (m := 20) (fun d hd => by obtain ⟨p, _, rfl⟩ := List.mem_map.mp hd; simp [D.sz]) (by
    have : (neededL l cl).length ≤ (List.range l.length).length := List.length_filter_le _ _
    unfold eNs; simp at this ⊢; omega)) (by omega))
  have hn' : callD T (n + 20) "needed_records" [eL l, eCl cl] s = some (.tup (eNs (neededL l cl)), s) := hn
  rw [endBody, w_scons]
  simp [hwhole]
  rw [w_scons]
  simp [hln, hless]
  rw [w_scons]
  simp [hln, hneed]
  rw [w_scons]
  simp [hn', hsn]
  rw [w_scons]
  have hlenL : ∀ st, bfD .len st [eL l] = some (.int (l.length : Int)) := fun st => by simp [eL]
  simp [hlenL]
  refine A.leaf l.length (by omega) (by omega) s hv |>.mono ?_
  rintro ⟨d, s2⟩ ⟨⟨q, hd, q0, q1⟩, hv2, hf2⟩
  simp only at hd hv2 hf2
  subst hd
  obtain ⟨i, rfl⟩ : ∃ i : Nat, q = (i : Int) := ⟨q.toNat, by omega⟩
  have hi : i < l.length := by omega
  have hcut : ∀ st, slD st (eL l) none (some ((i : Int) + 1)) = some (eL (l.take (i + 1))) := fun st => by
    rw [eL, sl_tup, cut_to (by omega), eL, List.map_take]; rfl
  simp
  rw [w_scons]
  simp [hcut]
  rw [w_scons]
  have hp1 := fewest_errs_ok A.L A.V o.fm (n := n + 13) (st := s2) (hl.sub (List.take_sublist (i + 1) l))
  have hp2 := price_ok A.L A.V o.fm (n := n + 13) (st := s2) hl hc
  have hp3 := without_records_ok A.L A.V o.fm (n := n + 19) (st := s2) (ps := [(i : Int)]) hl
  have hp4 := price_ok A.L A.V o.fm (n := n + 13) (st := s2) (hl.sub (withoutR_sub l [(i : Int)])) hc
  have hp5 := without_records_ok A.L A.V o.fm (n := n + 19) (st := s2) (ps := (neededL l cl).map fun i : Nat => (i : Int)) hl
  have heI : eI ((neededL l cl).map fun i : Nat => (i : Int)) = .tup (eNs (neededL l cl)) := by unfold eI eNs; rw [List.map_map]; rfl
  rw [heI] at hp5
  simp only [eI, List.map_cons, List.map_nil] at hp3
  simp [hp1, hp2, hp3, hp4, hp5]
  -- what is due
  have hg : L2.atI ((growthL l).map ePr) (i : Int) = some (ePr (priceL (l.take (i + 1)) [])) := by
    rw [beyond_ix (by simp [growthL]; omega)]
    simp [growthL]
  have hlat : L2.atI ((List.range l.length).map fun i : Nat => ePr (priceL (withoutR l [(i : Int)]) cl)) (i : Int) = some (ePr (priceL (withoutR l [(i : Int)]) cl)) := by
    rw [at_map (e := fun i : Nat => ePr (priceL (withoutR l [(i : Int)]) cl)) (by simpa using hi)]
    simp
  have hlast : ∀ z13 z14 z16, compD [] s2 (compB (clD T (n + 20)) (.idx (.var 2) (.var 16)) (.nm 16) [.cmp .notin (.var 16) (.var 11)] [16] [some (.ref 2), some (eF fs), some (eL l), some (eCl cl), some (.lst (rows0.map ePl)), some (.lst (rows1.map ePl)), some (.lst (eNs (List.range l.length))), some (.tup ((growthL l).map ePr)), z8, some (ePr (priceL l cl)), some (.lst ((List.range l.length).map fun i : Nat => ePr (priceL (withoutR l [(i : Int)]) cl))), some (.tup (eNs (neededL l cl))), some (.int (i : Int)), z13, z14, z15, z16]) (eNs (List.range l.length)) s2 = some ((withoutR l ((neededL l cl).map fun i : Nat => (i : Int))).map Rec.d, s2) := by
    intro z13 z14 z16
    rw [withoutR_map, List.map_map]
    refine comp_filter (e := fun i : Nat => D.int (i : Int)) fun j hj => ?_
    have hj := List.mem_range.mp hj
    have hm : decide ((j : Int) ∈ (neededL l cl).map fun i : Nat => (i : Int)) = decide (j ∈ neededL l cl) := by
      rw [decide_eq_decide, List.mem_map]
      constructor
      · rintro ⟨k, hk, e⟩
        have : k = j := by omega
        rw [← this]; exact hk
      · intro h; exact ⟨j, h, rfl⟩
    rw [← W_eq, hm]
    simp [mem_eNs, eL, recAt hj, List.getElem?_eq_getElem hj]
  have hfinal := hsame (.tup [ePr (priceL (l.take (i + 1)) []), ePr (priceL l cl), ePr (priceL (withoutR l [(i : Int)]) cl), eL (withoutR l ((neededL l cl).map fun i : Nat => (i : Int)))]) s2 (by
    have := eL_cq o.fm (hl.sub (withoutR_sub l ((neededL l cl).map fun i : Nat => (i : Int))))
    simp [D.cq, D.cqs, ePr_cq, this]) (by
    have := eL_sz o.fm (hl.sub (withoutR_sub l ((neededL l cl).map fun i : Nat => (i : Int))))
    simp [D.sz, D.szs, ePr_sz]; omega)
  have hlw : eL (withoutR l ((neededL l cl).map fun i : Nat => (i : Int))) = .tup ((withoutR l ((neededL l cl).map fun i : Nat => (i : Int))).map Rec.d) := rfl
  rw [hlw] at hfinal ⊢
  rw [w_scons]
  simp [hg, hlat, hlast, hln, hfinal]
  exact drPost0 (fun _ => rfl) rfl hv2 (hf.trans hf2)
theorem asked_ok {fs : Form} (o : FoOk fs) {l : Log} (hl : LogOk fs.fm l) (hw : LogW l) (hl0 : 0 < l.length) (claims : Dr B T (n + 20) "_law_claims" [.ref 2, eF fs, eL l, .int 2] (isClaims fs.fm 2)) : Dr B T (n + 21) "_law_asked" [.ref 2, eF fs, eL l] (fun d => d = .bl true) := by
  refine dr_of A.asked rfl rfl fun s hv => ?_
  have hl20 := hl.1
  show W (evSs (clD T (n + 20)) (_ :: _) [some (.ref 2), some (eF fs), some (eL l), none, none, none, none, none, none, none, none, none, none, none, none, none, none] s) _
  rw [w_scons]
  simp
  refine (claims s hv).mono ?_
  rintro ⟨d, s1⟩ ⟨⟨cl, hd, hc, hc2⟩, hv1, hf1⟩
  simp only at hd hv1 hf1
  subst hd
  simp
  -- the rows
  obtain ⟨rows0, hr0, _, hw0⟩ := wrong_ok (st := s1) (n := n + 18) o.fm o.conds o.len hl (nil_claims fs.fm) A.wrong A.rules A.lets
  obtain ⟨rows1, hr1, _, hw1⟩ := wrong_ok (st := s1) (n := n + 18) o.fm o.conds o.len hl hc A.wrong A.rules A.lets
  simp only [eCl, List.map_nil] at hw0
  have hlenL : ∀ st, bfD .len st [eL l] = some (.int (l.length : Int)) := fun st => by simp [eL]
  rw [w_scons]
  simp [hw0, hw1]
  rw [w_scons]
  simp [hlenL, rg_every hl20]
  rw [range_eNs]
  rw [w_scons]
  -- grown
  have hgrow : ∀ (z8 z9 z10 z11 z13 z14 z15 z16 : Option D), compD [] s1 (compB (clD T (n + 20)) (.call "_law_fewest" [.var 2, .var 4, .sl (.var 6) none (some (.bin .add (.var 12) (.lit (.int 1))))]) (.nm 12) [] [12] [some (.ref 2), some (eF fs), some (eL l), some (eCl cl), some (.lst (rows0.map ePl)), some (.lst (rows1.map ePl)), some (.lst (eNs (List.range l.length))), none, z8, z9, z10, z11, none, z13, z14, z15, z16]) (eNs (List.range l.length)) s1 = some ((growthL l).map ePr, s1) := by
    intro z8 z9 z10 z11 z13 z14 z15 z16
    have : (growthL l).map ePr = (List.range l.length).map fun i => ePr (priceL (l.take (i + 1)) []) := by
      unfold growthL; rw [List.map_map]; rfl
    rw [this]
    refine comp_map (e := fun i : Nat => D.int (i : Int)) fun i hi => ?_
    rw [← W_eq]
    have hfew := few_all A o hl hw (nil_claims fs.fm) hr0 (st := s1) (K := (List.range l.length).take (i + 1)) (m := l.take (i + 1)) (fun x => mem_take) (List.take_sublist _ _)
    simp only [ePl, List.take_range] at hfew
    simp [sl_lst, cut_eNs (show (0 : Int) ≤ (i : Int) + 1 by omega), hfew]
  have hln : (eNs (List.range l.length)).length ≤ sizeLine := by unfold eNs; simp; rw [sizeLine_eq]; omega
  simp [hgrow, hln]
  have hg := growth_ok A.L A.V o.fm (n := n + 12) (st := s1) hl
  have hsame : ∀ (d : D) (st : Sto), d.cq = true → d.sz ≤ 2 ^ 20 → callD T (n + 20) "_law_same" [d, d] st = some (.bl true, st) := fun d st h1 h2 => same_ok A.same A.lap h1 h2
  have hgl : ((growthL l).map ePr).length ≤ 20 := by simp [growthL]; omega
  have hs1 := hsame (.tup ((growthL l).map ePr)) s1 (tup_cq fun d hd => by obtain ⟨p, _, rfl⟩ := List.mem_map.mp hd; exact ePr_cq p) (Nat.le_trans (tup_sz (k := 1) (m := 20) (fun d hd => by obtain ⟨p, _, rfl⟩ := List.mem_map.mp hd; rw [ePr_sz]; exact Nat.le_refl _) hgl) (by omega))
  rw [w_scons]
  simp [hg, hs1]
  rw [w_scons]
  simp
  refine A.leaf 9 (by omega) (by omega) s1 hv1 |>.mono ?_
  rintro ⟨d, s2⟩ ⟨⟨k9, hd, _, _⟩, hv2, hf2⟩
  simp only at hd hv2 hf2
  subst hd
  simp
  have hf12 := hf1.trans hf2
  -- the numbers k
  refine (for_inv (I := AJ fs l cl rows0 rows1 s2) (R := fun p => p.1 = .nx ∧ AJ fs l cl rows0 rows1 s2 [] p.2.1 p.2.2) (fun _ _ _ _ => same_nil) (fun dn x rr env st' he hI => ?step) (fun env st' hI => ?fin) ⟨none, none, none, rfl, rfl⟩).mono ?post
  case step =>
    have hx : ∃ k, x = .int k := by
      have : x ∈ [D.int 0, .int 1, .int 2, .int 3, .int 4, .int k9] := by rw [← he]; simp
      simp at this
      rcases this with h | h | h | h | h | h <;> exact ⟨_, h⟩
    obtain ⟨k, rfl⟩ := hx
    exact (asked_lap A o hl hsame hI).mono fun p hp => .inl ⟨.inl hp.1, hp.2⟩
  case fin => exact ⟨rfl, hI⟩
  case post =>
    rintro ⟨fl, env, st'⟩ ⟨hfl, z8, z12, z15, henv, hst⟩
    simp only at hfl henv hst
    subst hfl henv hst
    simp
    exact asked_end A o hl hw hl0 hc hr1 hsame hv2 (s0 := s) hf12
end
end MP
end
section
set_option Elab.async false
set_option linter.all false
set_option maxRecDepth 100000
set_option maxHeartbeats 4000000
/-! LQj: prices of written logs, by all rules; k75's law walked. -/
namespace MP
open PySem
/-- one rule more -/
def leastOf (k : Nat) : Option Nat → Option Nat
  | none => some k
  | some b => if k < b then some k else some b
def bruteStep (l : Log) (cl : List Clm) (best : Option Nat) (r : Rl) : Option Nat :=
  if (fitsB r cl && l.all fun x => !decide (x.who = ("sure" : Str)) || !againstRec r x) = true then leastOf (errsL l r).length best else best
/-- the least by going through all rules -/
def bruteP (fm : Fm) (l : Log) (cl : List Clm) : Option Nat := (rulesT fm).foldl (bruteStep l cl) none
theorem brute_min (l : Log) (cl : List Clm) : ∀ (rs : List Rl) (P : Nat → Prop) (best : Option Nat), IsMin P best → IsMin (fun k => P k ∨ ∃ r ∈ rs, fitsL r cl ∧ possL l r ∧ (errsL l r).length = k) (rs.foldl (bruteStep l cl) best)
  | [], P, best, h => h.congr fun k => by simp
  | r :: rs, P, best, h => by
    rw [List.foldl_cons]
    have hpo : (l.all fun x => !decide (x.who = ("sure" : Str)) || !againstRec r x) = true ↔ possL l r := by
      rw [List.all_eq_true]
      unfold possL
      constructor
      · intro h x hx e
        have := h x hx
        simpa [e] using this
      · intro h x hx
        by_cases e : x.who = ("sure" : Str)
        · simp [h x hx e]
        · simp [e]
    have h2 : IsMin (fun k => P k ∨ (fitsL r cl ∧ possL l r ∧ (errsL l r).length = k)) (bruteStep l cl best r) := by
      unfold bruteStep
      split
      · rename_i c
        rw [Bool.and_eq_true, fitsB_iff, hpo] at c
        cases best with
        | none =>
          refine ⟨.inr ⟨c.1, c.2, rfl⟩, fun j hj => ?_⟩
          rcases hj with hj | ⟨_, _, hj⟩
          · exact absurd hj (h j)
          · omega
        | some b =>
          simp only [leastOf]
          split
          · rename_i hlt
            refine ⟨.inr ⟨c.1, c.2, rfl⟩, fun j hj => ?_⟩
            rcases hj with hj | ⟨_, _, hj⟩
            · have := h.2 j hj; omega
            · omega
          · rename_i hlt
            refine ⟨.inl h.1, fun j hj => ?_⟩
            rcases hj with hj | ⟨_, _, hj⟩
            · exact h.2 j hj
            · omega
      · rename_i c
        rw [Bool.and_eq_true, fitsB_iff, hpo] at c
        refine h.congr fun k => ?_
        constructor
        · exact .inl
        · rintro (hk | ⟨h1, h2, _⟩)
          · exact hk
          · exact absurd ⟨h1, h2⟩ c
    refine (brute_min l cl rs _ _ h2).congr fun k => ?_
    simp only [List.mem_cons, exists_eq_or_imp]
    rw [or_assoc]
theorem price_brute {fm : Fm} (o : FmOk fm) {l : Log} {cl : List Clm} (h : LogOk fm l) (hw : LogW l) (hc : ClsOk fm cl) : priceL l cl = bruteP fm l cl := by
  refine (price_min o h hw hc).uniq ?_
  refine (brute_min l cl (rulesT fm) (fun _ => False) none (fun k hk => hk)).congr fun k => ?_
  constructor
  · rintro (hk | ⟨r, hr, h1, h2, h3⟩)
    · exact hk.elim
    · exact ⟨r, rules_of o hr, h2, h1, h3⟩
  · rintro ⟨r, hro, hp, hf, rfl⟩
    obtain ⟨r', hr', e⟩ := rules_all o hro
    have ea : ∀ c w, againstR r' c w = againstR r c w := fun c w => by unfold againstR; rw [e]
    have ear : ∀ x, againstRec r' x = againstRec r x := fun x => ea _ _
    refine .inr ⟨r', hr', fun c hc => by rw [ea]; exact hf c hc, fun x hx hs => by rw [ear]; exact hp x hx hs, ?_⟩
    unfold errsL
    simp only [ear]
def okB (fm : Fm) (l : Log) : Bool := decide (l.length ≤ 20) && l.all fun r => PyData.strOk r.who && PyData.strOk r.word && (decide (r.word = ("let" : Str)) || decide (r.word = ("refused" : Str))) && decide (r.case.length = fm.length) && letL fm r.case
theorem letL_of : ∀ {fm : Fm} {c : Cs}, c.length = fm.length → letL fm c = true → COf fm c
  | [], [], _, _ => .nil
  | [], _ :: _, h, _ => by simp at h
  | _ :: _, [], h, _ => by simp at h
  | sp :: fm, v :: c, h, k => by
    rw [letL, Bool.and_eq_true] at k
    exact .cons k.1 (letL_of (by simpa using h) k.2)
theorem okB_ok {fm : Fm} {l : Log} (h : okB fm l = true) : LogOk fm l ∧ LogW l := by
  unfold okB at h
  rw [Bool.and_eq_true, decide_eq_true_eq, List.all_eq_true] at h
  have h2 := fun r hr => h.2 r hr
  simp only [Bool.and_eq_true, Bool.or_eq_true, decide_eq_true_eq] at h2
  exact ⟨⟨h.1, fun r hr => ⟨(h2 r hr).1.1.1.1, letL_of (h2 r hr).1.2 (h2 r hr).2, (h2 r hr).1.1.1.2⟩⟩, fun r hr => (h2 r hr).1.1.2⟩
def clB (fm : Fm) (cl : List Clm) : Bool := decide (cl.length < 60) && cl.all fun c => PyData.strOk c.2 && decide (c.1.length = fm.length) && letL fm c.1
theorem clB_ok {fm : Fm} {cl : List Clm} (h : clB fm cl = true) : ClsOk fm cl := by
  unfold clB at h
  rw [Bool.and_eq_true, decide_eq_true_eq, List.all_eq_true] at h
  have h2 := fun r hr => h.2 r hr
  simp only [Bool.and_eq_true, decide_eq_true_eq] at h2
  exact ⟨h.1, fun c hc => ⟨letL_of (h2 c hc).1.2 (h2 c hc).2, (h2 c hc).1.1⟩⟩
theorem growth_brute {fm : Fm} (o : FmOk fm) {l : Log} (h : LogOk fm l) (hw : LogW l) : growthL l = (List.range l.length).map fun i => bruteP fm (l.take (i + 1)) [] := by
  unfold growthL
  refine List.map_congr_left fun i _ => ?_
  exact price_brute o (h.sub (List.take_sublist _ _)) (hw.sub (List.take_sublist _ _)) (nil_claims fm)
theorem needed_brute {fm : Fm} (o : FmOk fm) {l : Log} {cl : List Clm} (h : LogOk fm l) (hw : LogW l) (hc : ClsOk fm cl) : neededL l cl = (List.range l.length).filter fun i : Nat => !decide (bruteP fm (withoutR l [(i : Int)]) cl = bruteP fm l cl) := by
  unfold neededL
  refine List.filter_congr fun i _ => ?_
  rw [price_brute o (h.sub (withoutR_sub l _)) (hw.sub (withoutR_sub l _)) hc, price_brute o h hw hc]
/-! ### the logs of the law's hand -/
namespace K75
def fmA : Fm := [.r 0 5, .n [("bill" : Str), ("note" : Str)]]
def fmB : Fm := [.r 0 5, .n [("a" : Str)]]
theorem okA : FmOk fmA := ⟨by simp [fmA], by simp [fmA], by
  intro sp hsp
  simp [fmA] at hsp
  rcases hsp with rfl | rfl
  · show (0 : Int) ≤ 5 ∧ (-100000 : Int) ≤ 0 ∧ (5 : Int) ≤ 100000; omega
  · exact ⟨by decide +kernel, by simp, by decide +kernel, by simp⟩⟩
theorem okB' : FmOk fmB := ⟨by simp [fmB], by simp [fmB], by
  intro sp hsp
  simp [fmB] at hsp
  rcases hsp with rfl | rfl
  · show (0 : Int) ≤ 5 ∧ (-100000 : Int) ≤ 0 ∧ (5 : Int) ≤ 100000; omega
  · exact ⟨by decide +kernel, by simp, by decide +kernel, by simp⟩⟩
def nt : Vl := .s ("note" : Str)
def va : Vl := .s ("a" : Str)
def logA : Log := [⟨("ann" : Str), [.i 1, nt], ("let" : Str)⟩, ⟨("bob" : Str), [.i 4, nt], ("let" : Str)⟩, ⟨("cid" : Str), [.i 2, nt], ("refused" : Str)⟩, ⟨("ann" : Str), [.i 5, .s ("bill" : Str)], ("refused" : Str)⟩]
def logS : Log := [⟨("bob" : Str), [.i 1, va], ("let" : Str)⟩, ⟨("sure" : Str), [.i 1, va], ("refused" : Str)⟩, ⟨("sure" : Str), [.i 1, va], ("let" : Str)⟩, ⟨("bob" : Str), [.i 3, va], ("let" : Str)⟩]
def logS2 : Log := [⟨("bob" : Str), [.i 1, va], ("let" : Str)⟩, ⟨("sure" : Str), [.i 1, va], ("refused" : Str)⟩, ⟨("sure" : Str), [.i 1, va], ("refused" : Str)⟩]
def logO : Log := [⟨("ann" : Str), [.i 2, va], ("let" : Str)⟩, ⟨("ann" : Str), [.i 2, va], ("refused" : Str)⟩, ⟨("bob" : Str), [.i 2, va], ("refused" : Str)⟩]
def logO2 : Log := [⟨("ann" : Str), [.i 2, va], ("let" : Str)⟩, ⟨("ann" : Str), [.i 2, va], ("refused" : Str)⟩]
def clm1 : List Clm := [([.i 2, nt], ("let" : Str))]
def clm2 : List Clm := [([.i 1, nt], ("let" : Str)), ([.i 1, nt], ("refused" : Str))]
theorem lA : LogOk fmA logA ∧ LogW logA := okB_ok (by decide +kernel)
theorem lS : LogOk fmB logS ∧ LogW logS := okB_ok (by decide +kernel)
theorem lS2 : LogOk fmB logS2 ∧ LogW logS2 := okB_ok (by decide +kernel)
theorem lO : LogOk fmB logO ∧ LogW logO := okB_ok (by decide +kernel)
theorem lO2 : LogOk fmB logO2 ∧ LogW logO2 := okB_ok (by decide +kernel)
theorem c1 : ClsOk fmA clm1 := clB_ok (by decide +kernel)
theorem c2 : ClsOk fmA clm2 := clB_ok (by decide +kernel)
theorem gA : growthL logA = [some 0, some 0, some 1, some 1] := by rw [growth_brute okA lA.1 lA.2]; decide +kernel
theorem gS : growthL logS = [some 0, some 1, none, none] := by rw [growth_brute okB' lS.1 lS.2]; decide +kernel
theorem gO : growthL logO = [some 0, some 1, some 1] := by rw [growth_brute okB' lO.1 lO.2]; decide +kernel
theorem nA : neededL logA [] = [0, 1, 2] := by rw [needed_brute okA lA.1 lA.2 (nil_claims _)]; decide +kernel
theorem nA1 : neededL logA clm1 = [2] := by rw [needed_brute okA lA.1 lA.2 c1]; decide +kernel
theorem nA2 : neededL logA clm2 = [] := by rw [needed_brute okA lA.1 lA.2 c2]; decide +kernel
theorem nS : neededL logS [] = [1, 2] := by rw [needed_brute okB' lS.1 lS.2 (nil_claims _)]; decide +kernel
theorem nS2 : neededL logS2 [] = [0] := by rw [needed_brute okB' lS2.1 lS2.2 (nil_claims _)]; decide +kernel
theorem nO : neededL logO [] = [0] := by rw [needed_brute okB' lO.1 lO.2 (nil_claims _)]; decide +kernel
theorem nO2 : neededL logO2 [] = [0, 1] := by rw [needed_brute okB' lO2.1 lO2.2 (nil_claims _)]; decide +kernel
end K75
end MP
end
section
set_option Elab.async false
set_option linter.all false
set_option maxRecDepth 100000
set_option maxHeartbeats 4000000
/-! LQk: k75's law walked. -/
namespace MP
open PySem
namespace K75
theorem cut2 {a b c : D} {r : List D} : cutD (a :: b :: c :: r) none (some 2) = [a, b] := by
  rw [cut_to (by omega)]; rfl
theorem cut12 {a b c : D} {r : List D} : cutD (a :: b :: c :: r) (some 1) (some 2) = [b] := by
  unfold cutD
  have e1 : HT.sIx (a :: b :: c :: r).length 0 (some 1) = 1 := by
    simp [HT.sIx]
  have e2 : HT.sIx (a :: b :: c :: r).length (a :: b :: c :: r).length (some 2) = 2 := by
    simp [HT.sIx]
  rw [e1, e2]; rfl
section
variable {B : Int} {T : Tx} {n : Nat} (A : Asks B T n) (hh : T.fn "_law_hand" = some K75.fd__law_hand)
include A hh
theorem hand_ok {st : Sto} : callD T (n + 21) "_law_hand" [.ref 2] st = some (.bl true, st) := by
  have hsame : ∀ (d : D) (st : Sto), d.cq = true → d.sz ≤ 2 ^ 20 → callD T (n + 20) "_law_same" [d, d] st = some (.bl true, st) := fun d st h1 h2 => same_ok A.same A.lap h1 h2
  rw [callD_eq hh]
  refine run_ret rfl rfl rfl ?_
  show W (evSs (clD T (n + 20)) (_ :: _) [some (.ref 2), none, none, none, none] st) _
  -- what the program tells
  have g1 := growth_ok A.L A.V okA (n := n + 12) (st := st) lA.1
  have g2 := first_broken_ok A.L A.V okA (n := n + 11) (st := st) (k := 0) lA.1
  have g3 := needed_records_ok A.L A.V okA (n := n + 12) (st := st) lA.1 (nil_claims _)
  have g4 := first_broken_ok A.L A.V okA (n := n + 11) (st := st) (k := 1) lA.1
  have g5 := growth_ok A.L A.V okA (n := n + 12) (st := st) (l := []) ⟨by simp, by simp⟩
  have g6 := first_broken_ok A.L A.V okA (n := n + 11) (st := st) (k := 0) (l := []) ⟨by simp, by simp⟩
  have g7 := needed_records_ok A.L A.V okA (n := n + 12) (st := st) lA.1 c1
  have s1 := growth_ok A.L A.V okB' (n := n + 12) (st := st) lS.1
  have s2 := first_broken_ok A.L A.V okB' (n := n + 11) (st := st) (k := 8) lS.1
  have s3 := first_broken_ok A.L A.V okB' (n := n + 11) (st := st) (k := 0) lS.1
  have s4 := needed_records_ok A.L A.V okB' (n := n + 12) (st := st) lS.1 (nil_claims _)
  have s5 := needed_records_ok A.L A.V okB' (n := n + 12) (st := st) lS2.1 (nil_claims _)
  have s6 := needed_records_ok A.L A.V okA (n := n + 12) (st := st) lA.1 c2
  have o1 := growth_ok A.L A.V okB' (n := n + 12) (st := st) lO.1
  have o2 := needed_records_ok A.L A.V okB' (n := n + 12) (st := st) lO.1 (nil_claims _)
  have o3 := needed_records_ok A.L A.V okB' (n := n + 12) (st := st) lO2.1 (nil_claims _)
  have o4 := first_broken_ok A.L A.V okB' (n := n + 11) (st := st) (k := 1) lO.1
  rw [gA] at g1 g2 g4
  rw [gS] at s1 s2 s3
  rw [gO] at o1 o4
  rw [nA] at g3
  rw [nA1] at g7
  rw [nS] at s4
  rw [nS2] at s5
  rw [nA2] at s6
  rw [nO] at o2
  rw [nO2] at o3
  have e1 : firstB [some 0, some 0, some 1, some 1] 0 = some 2 := by decide
  have e2 : firstB [some 0, some 0, some 1, some 1] 1 = none := by decide
  have e3 : firstB [] 0 = none := by decide
  have e4 : firstB [some 0, some 1, none, none] 8 = some 2 := by decide
  have e5 : firstB [some 0, some 1, none, none] 0 = some 1 := by decide
  have e6 : firstB [some 0, some 1, some 1] 1 = none := by decide
  have e7 : growthL [] = [] := rfl
  simp [e1, e2, e3, e7, eL, eCl, eClm, logA, clm1, Rec.d, eC, Vl.d, nt, ePr] at g1 g2 g3 g4 g5 g6 g7
  simp [e4, e5, eL, eCl, eClm, logS, logS2, logA, clm2, Rec.d, eC, Vl.d, va, nt, ePr] at s1 s2 s3 s4 s5 s6
  simp [e6, eL, eCl, eClm, logO, logO2, Rec.d, eC, Vl.d, va, ePr] at o1 o2 o3 o4
  have h1 := hsame (.tup [.tup [.int 0, .int 0, .int 1, .int 1], .int 2, .tup [.int 0, .int 1, .int 2], .non, .tup [], .non, .tup [.int 2]]) st (by decide +kernel) (by decide +kernel)
  have h2 := hsame (.tup [.tup [.int 0, .int 1, .non, .non], .int 2, .int 1, .tup [.int 1, .int 2], .tup [.int 0], .tup []]) st (by decide +kernel) (by decide +kernel)
  have h3 := hsame (.tup [.tup [.int 0, .int 1, .int 1], .tup [.int 0], .tup [.int 0, .int 1], .non]) st (by decide +kernel) (by decide +kernel)
  clear hsame
  rw [w_scons]
  simp
  rw [w_scons]
  simp [g1, g2, g3, g4, g5, g6, g7, pick]
  rw [w_scons]
  simp [h1]
  rw [w_scons]
  simp
  rw [w_scons]
  simp [s1, s2, s3, s4]
  rw [w_scons]
  simp [sl_tup, cut2, cut12, add_tup, sizeLine_eq, s5, s6]
  rw [w_scons]
  simp [h2]
  rw [w_scons]
  simp
  rw [w_scons]
  simp [sl_tup, cut2, o1, o2, o3, o4, h3]
end
/-! ### the law -/
section
variable {T : Tx} (L : La T) (V : LaW T) (W' : Lw T) (hlap : 2 ^ 24 ≤ T.lap)
include W'
theorem vine75 (n : Nat) (ns : List Int) : W (callD T (n + 1) "_law_vine" [.scr ns] []) fun p => p.1 = .ref 2 ∧ Vine 2147479237 p.2 ∧ p.2.length = 3 := by
  have hf : T.fn "_law_vine" = some (fdVine 75029 46 1480 99623 999559 43 131 2147479237) := W'.x__law_vine
  exact vine_ok hf ⟨by omega, by omega⟩ (by omega) ⟨by omega, by omega⟩ ⟨by omega, by omega⟩ (by omega) ⟨by omega, by omega⟩ ns
theorem leaf75 (n : Nat) : ∀ m : Int, 0 < m → m < 1073741824 → Dr 2147479237 T (n + 1) "_law_leaf" [.ref 2, .int m] (isBelow m) := by
  have hf : T.fn "_law_leaf" = some (fdLeaf "vine" 89533 673 2147479237 823) := W'.x__law_leaf
  intro m h0 h1
  exact leaf_ok hf ⟨by omega, by omega⟩ ⟨by omega, by omega⟩ ⟨h0, h1⟩
theorem lean75 (n : Nat) : ∀ (pl : Nat) (m : Int), pl < 100 → 0 < m → m < 1073741824 → Dr 2147479237 T (n + 2) "_law_lean" [.ref 2, .int (pl : Int), .int m] (isBelow m) := by
  have hf : T.fn "_law_lean" = some (fdLean "vine" "_law_leaf") := W'.x__law_lean
  intro pl m hp h0 h1
  exact lean_ok hf (leaf75 W' n) ⟨h0, h1⟩ hp
theorem case75 (n : Nat) {fs : Form} (o : FoOk fs) : Dr 2147479237 T (n + 2) "_law_case" [.ref 2, eF fs] (isCase fs.fm) := by
  have hf : T.fn "_law_case" = some (fdCase "vine" "_law_leaf") := W'.x__law_case
  exact case_ok (leaf75 W' n) o.fm hf
theorem form75 (n : Nat) : Dr 2147479237 T (n + 3) "_law_form" [.ref 2] isForm := by
  have hf : T.fn "_law_form" = some (fdForm "vine" "_law_leaf" "_law_lean") := W'.x__law_form
  exact form_ok (leaf75 W' (n + 1)) (lean75 W' n) hf
theorem log75 (n : Nat) {fs : Form} (o : FoOk fs) {most many : Nat} (hm : 2 ≤ most ∧ most ≤ 20) (hk : 1 ≤ many ∧ many ≤ 6) : Dr 2147479237 T (n + 3) "_law_log" [.ref 2, eF fs, .int (most : Int), .int (many : Int)] (isLog fs.fm most many) := by
  have hf : T.fn "_law_log" = some (fdLog "vine" "_law_leaf" "_law_lean" "_law_case" "_law_lets") := W'.x__law_log
  have hl : T.fn "_law_lets" = some fdLets := W'.x__law_lets
  exact log_ok (leaf75 W' (n + 1)) (lean75 W' n) o hm hk hf (case75 W' n o) (fun r st cs hr hc => lawlets_k o.fm hl hr hc)
theorem claims75 (n : Nat) {fs : Form} (o : FoOk fs) {l : Log} (hl : LogOk fs.fm l) (hl0 : 0 < l.length) : Dr 2147479237 T (n + 3) "_law_claims" [.ref 2, eF fs, eL l, .int 2] (isClaims fs.fm 2) := by
  have hf : T.fn "_law_claims" = some (fdClaims "vine" "_law_lean" "_law_leaf" "_law_case" ((6 : Nat) : Int)) := W'.x__law_claims
  exact claims_ok (leaf75 W' (n + 1)) o.fm hl hl0 ⟨by omega, by omega⟩ hf (fun m => lean75 W' n 6 m (by omega)) (case75 W' n o)
theorem ladder75 (n : Nat) {many : Nat} (hm : 1 ≤ many ∧ many ≤ 6) : Dr 2147479237 T (n + 2) "_law_ladder" [.ref 2, .int (many : Int)] (isLadder many) := by
  have hf : T.fn "_law_ladder" = some (fdLadder "vine" "_law_leaf") := W'.x__law_ladder
  exact ladder_ok (leaf75 W' n) hm hf
include L V hlap
theorem asks75 (n : Nat) : Asks 2147479237 T n := ⟨L, V, hlap, W'.x__law_wrong_places, W'.x__law_fewest, W'.x__law_same, W'.x__law_rules, W'.x__law_lets, W'.x__law_asked, leaf75 W' (n + 19)⟩
theorem asked75 (n : Nat) {fs : Form} (o : FoOk fs) {l : Log} (hl : LogOk fs.fm l) (hw : LogW l) (hl0 : 0 < l.length) : Dr 2147479237 T (n + 21) "_law_asked" [.ref 2, eF fs, eL l] (fun d => d = .bl true) :=
  asked_ok (asks75 L V W' hlap n) o hl hw hl0 (claims75 W' (n + 17) o hl hl0)
/-- what the laps leave -/
def LapI (ns : List Int) (env : Env) (st : Sto) : Prop := Vine 2147479237 st ∧ ∃ z2 z3, env = [some (.scr ns), some (.ref 2), z2, z3, none]
theorem law75 (ns : List Int) : ∃ st, callD T 22 "law" [.scr ns] [] = some (.bl true, st) := by
  have hlaw : T.fn "law" = some fd_law := W'.x_law
  have key : W (callD T 22 "law" [.scr ns] []) fun p => p.1 = .bl true := by
    rw [callD_eq hlaw]
    refine run_gen rfl rfl ?_
    have fin : ∀ {r : Fl × Env × Sto}, r.1 = .ret (.bl true) → ∃ d d', (r.1 = .ret d ∨ r.1 = .nx ∧ d = .non) ∧ frz r.2.2 ([] : Sto).length 6 d = some d' ∧ lowSt ([] : Sto).length [] r.2.2 = true ∧ (d', r.2.2.take ([] : Sto).length).1 = .bl true := fun h => ⟨_, .bl true, .inl h, frz_low rfl, rfl, rfl⟩
    refine W.mono (Q := fun r => r.1 = .ret (.bl true)) ?_ fun r h => fin h
    clear fin
    show W (evSs (clD T 21) (_ :: _) [some (.scr ns), none, none, none, none] []) _
    rw [w_scons]
    simp
    refine (vine75 W' 20 ns).mono ?_
    rintro ⟨d, s0⟩ ⟨hd, hv0, _⟩
    simp only at hd hv0
    subst hd
    rw [w_scons]
    have hhand : ∀ st, callD T 21 "_law_hand" [.ref 2] st = some (.bl true, st) := fun st => hand_ok (n := 0) (asks75 L V W' hlap 0) W'.x__law_hand
    simp [hhand]
    rw [w_scons]
    simp [src1 (small_of (i := (2 : Int)) (by omega) (by omega))]
    refine (for_inv (I := fun _ env st => LapI ns env st) (R := fun p => p.1 = .nx ∧ LapI ns p.2.1 p.2.2) (fun _ _ _ _ => same_nil) (fun dn x rr env st' he hI => ?step) (fun env st' hI => ⟨rfl, hI⟩) ⟨hv0, none, none, rfl⟩).mono ?post
    case step =>
      obtain ⟨hv, z2, z3, rfl⟩ := hI
      show W (forB (clD T 21) (.nm 2) (_ :: _) x [some (.scr ns), some (.ref 2), z2, z3, none] st') _
      rw [w_forB]
      simp
      rw [w_scons]
      simp
      refine (form75 W' 18 st' hv).mono ?_
      rintro ⟨d, s1⟩ ⟨⟨fs, hd, o⟩, hv1, _⟩
      simp only at hd hv1
      subst hd
      rw [w_scons]
      simp
      refine (lean75 W' 19 8 5 (by omega) (by omega) (by omega) s1 hv1).mono ?_
      rintro ⟨d, s2⟩ ⟨⟨k, hd, k0, k1⟩, hv2, _⟩
      simp only at hd hv2
      subst hd
      simp
      have hlog := log75 W' 18 o (most := 9) (many := (1 + k).toNat) ⟨by omega, by omega⟩ ⟨by omega, by omega⟩ s2 hv2
      have hk : (((1 + k).toNat : Nat) : Int) = 1 + k := by omega
      rw [hk] at hlog
      refine hlog.mono ?_
      rintro ⟨d, s3⟩ ⟨⟨l, hd, hl, hw, hl2, _⟩, hv3, _⟩
      simp only at hd hv3
      subst hd
      refine (asked75 L V W' hlap 0 o hl hw (by omega) s3 hv3).mono ?_
      rintro ⟨d, s4⟩ ⟨hd, hv4, _⟩
      simp only at hd hv4
      subst hd
      simp
      exact ⟨hv4, _, _, rfl⟩
    case post =>
      rintro ⟨fl, env, st'⟩ ⟨hfl, hv, z2, z3, henv⟩
      simp only at hfl hv henv
      subst hfl henv
      simp
      have rest : ∀ (s : Sto) (z2 z3 z4 : Option D), Vine 2147479237 s → W (evSs (clD T 21) [.set (.nm 3) (.call "_law_form" [.var 1]),
    .ret (.or (.cmp .ne (.call "_law_leaf" [.var 1, .lit (.int 11)]) (.lit (.int 4))) (.call "_law_asked" [.var 1, .var 3, .call "_law_log" [.var 1, .var 3, .lit (.int 14), .lit (.int 6)]]))] [some (.scr ns), some (.ref 2), z2, z3, z4] s) fun r => r.1 = .ret (.bl true) := by
        intro s z2 z3 z4 hv
        rw [w_scons]
        simp
        refine (form75 W' 18 s hv).mono ?_
        rintro ⟨d, s1⟩ ⟨⟨fs, hd, o⟩, hv1, _⟩
        simp only at hd hv1
        subst hd
        rw [w_scons]
        simp
        refine (leaf75 W' 20 11 (by omega) (by omega) s1 hv1).mono ?_
        rintro ⟨d, s2⟩ ⟨⟨k, hd, k0, k1⟩, hv2, _⟩
        simp only at hd hv2
        subst hd
        simp
        by_cases h4 : k = 4
        · simp [h4]
          refine (log75 W' 18 o (most := 14) (many := 6) ⟨by omega, by omega⟩ ⟨by omega, by omega⟩ s2 hv2).mono ?_
          rintro ⟨d, s3⟩ ⟨⟨l, hd, hl, hw, hl2, _⟩, hv3, _⟩
          simp only at hd hv3
          subst hd
          refine (asked75 L V W' hlap 0 o hl hw (by omega) s3 hv3).mono ?_
          rintro ⟨d, s4⟩ ⟨hd, hv4, _⟩
          simp only at hd hv4
          subst hd
          simp
        · simp [h4]
      rw [w_scons]
      simp
      refine (leaf75 W' 20 7 (by omega) (by omega) st' hv).mono ?_
      rintro ⟨d, s1⟩ ⟨⟨k, hd, k0, k1⟩, hv1, _⟩
      simp only at hd hv1
      subst hd
      simp
      by_cases h3 : k = 3
      · simp [h3]
        rw [w_scons]
        simp
        refine (leaf75 W' 20 2 (by omega) (by omega) s1 hv1).mono ?_
        rintro ⟨d, s2⟩ ⟨⟨q, hd, q0, q1⟩, hv2, _⟩
        simp only at hd hv2
        subst hd
        simp
        have hlad := ladder75 W' 19 (many := (5 + q).toNat) ⟨by omega, by omega⟩ s2 hv2
        have hk : (((5 + q).toNat : Nat) : Int) = 5 + q := by omega
        rw [hk] at hlad
        refine hlad.mono ?_
        rintro ⟨d, s3⟩ ⟨⟨fs, l, hd, o, hl, hw, hl2, _⟩, hv3, _⟩
        simp only at hd hv3
        subst hd
        simp
        rw [w_scons]
        simp
        refine (asked75 L V W' hlap 0 o hl hw (by omega) s3 hv3).mono ?_
        rintro ⟨d, s4⟩ ⟨hd, hv4, _⟩
        simp only at hd hv4
        subst hd
        simp
        exact rest s4 _ _ _ hv4
      · simp [h3]
        exact rest s1 _ _ _ hv1
  obtain ⟨⟨d, st⟩, e, h⟩ := key
  simp only at h
  subst h
  exact ⟨st, e⟩
end
end K75
end MP
end
section
set_option Elab.async false
set_option linter.all false
set_option maxRecDepth 100000
set_option maxHeartbeats 4000000
/-! MQe: a table laid anew has room for all. -/
namespace SQ
open PySem PySem.Spec PyProof.Rows L2
def Msk (m : Nat) : Prop := m = 7 ∨ m = 15 ∨ m = 31
abbrev lp (m : Nat) (q : Nat × Nat) : Nat × Nat := SetTable.leap m q.1 q.2
def lpN (m : Nat) : Nat → Nat × Nat → Nat × Nat
  | 0, q => q
  | n + 1, q => lpN m n (lp m q)
theorem lpN_add (m : Nat) : ∀ (a b : Nat) (q : Nat × Nat), lpN m (a + b) q = lpN m b (lpN m a q)
  | 0, b, q => by rw [Nat.zero_add]; rfl
  | a + 1, b, q => by
    rw [show a + 1 + b = (a + b) + 1 by omega]
    exact lpN_add m a b (lp m q)
theorem lpN_snd (m : Nat) : ∀ (n : Nat) (q : Nat × Nat), (lpN m n q).2 = q.2 / 32 ^ n
  | 0, q => by simp [lpN]
  | n + 1, q => by
    show (lpN m n (lp m q)).2 = _
    rw [lpN_snd m n]
    show q.2 / 32 / 32 ^ n = _
    rw [Nat.div_div_eq_div_mul, Nat.pow_succ, Nat.mul_comm]
theorem lpN_fst (m : Nat) : ∀ (n : Nat) (q : Nat × Nat), q.1 ≤ m → (lpN m n q).1 ≤ m
  | 0, q, h => h
  | n + 1, q, h => lpN_fst m n (lp m q) (Nat.le_of_lt_succ (Nat.mod_lt _ (Nat.succ_pos _)))
theorem cyc7 : ((List.range 8).all fun i => (List.range 8).all fun j => (List.range 8).any fun n => (lpN 7 n (i, 0)).1 == j) = true := by decide +kernel
theorem cyc15 : ((List.range 16).all fun i => (List.range 16).all fun j => (List.range 16).any fun n => (lpN 15 n (i, 0)).1 == j) = true := by decide +kernel
theorem cyc31 : ((List.range 32).all fun i => (List.range 32).all fun j => (List.range 32).any fun n => (lpN 31 n (i, 0)).1 == j) = true := by decide +kernel
theorem cyc {m : Nat} (hm : Msk m) {i j : Nat} (hi : i ≤ m) (hj : j ≤ m) : ∃ n, n ≤ m ∧ (lpN m n (i, 0)).1 = j := by
  have use : ∀ M, ((List.range (M + 1)).all fun i => (List.range (M + 1)).all fun j => (List.range (M + 1)).any fun n => (lpN M n (i, 0)).1 == j) = true → i ≤ M → j ≤ M → ∃ n, n ≤ M ∧ (lpN M n (i, 0)).1 = j := by
    intro M h h1 h2
    have a := List.all_eq_true.mp h i (List.mem_range.mpr (Nat.lt_succ_of_le h1))
    have b := List.all_eq_true.mp a j (List.mem_range.mpr (Nat.lt_succ_of_le h2))
    obtain ⟨n, hn, e⟩ := List.any_eq_true.mp b
    exact ⟨n, Nat.le_of_lt_succ (List.mem_range.mp hn), eq_of_beq e⟩
  rcases hm with rfl | rfl | rfl
  · exact use 7 cyc7 hi hj
  · exact use 15 cyc15 hi hj
  · exact use 31 cyc31 hi hj
/-- every place is met in time -/
theorem meets {m : Nat} (hm : Msk m) (h : Int) {j : Nat} (hj : j ≤ m) : ∃ n, n < SetTable.turns m ∧ (lpN m n (SetTable.bits h % (m + 1), SetTable.bits h)).1 = j := by
  have h13 : (lpN m 13 (SetTable.bits h % (m + 1), SetTable.bits h)).2 = 0 := by
    rw [lpN_snd]
    have := bits_lt h
    exact Nat.div_eq_of_lt (by omega)
  have hf := lpN_fst m 13 (SetTable.bits h % (m + 1), SetTable.bits h) (Nat.le_of_lt_succ (Nat.mod_lt _ (Nat.succ_pos _)))
  obtain ⟨n, hn, e⟩ := cyc hm hf hj
  refine ⟨13 + n, by unfold SetTable.turns; omega, ?_⟩
  rw [lpN_add]
  have : lpN m 13 (SetTable.bits h % (m + 1), SetTable.bits h) = ((lpN m 13 (SetTable.bits h % (m + 1), SetTable.bits h)).1, 0) := Prod.ext rfl h13
  rw [this]
  exact e
theorem free_some {m : Nat} (owner : Array (Option Nat)) {j0 : Nat} (h0 : (owner.getD j0 (some 0)).isNone = true) : ∀ (f n i p : Nat), n < f → (lpN m n (i, p)).1 = j0 → ∃ j, SetTable.layClean.free m owner f i p = some j ∧ (owner.getD j (some 0)).isNone = true
  | 0, n, i, p, h, _ => absurd h (Nat.not_lt_zero _)
  | f + 1, n, i, p, h, e => by
    unfold SetTable.layClean.free
    cases hf : (List.range (SetTable.runEnd m i + 1 - i)).find? fun k => (owner.getD (i + k) (some 0)).isNone with
    | some k => exact ⟨i + k, rfl, by have := List.find?_some hf; exact this⟩
    | none =>
      cases n with
      | zero =>
        have e : i = j0 := e
        have := List.find?_eq_none.mp hf 0 (List.mem_range.mpr (by have := (runEnd_ge m i); omega))
        rw [Nat.add_zero, e] at this
        exact absurd h0 this
      | succ n => exact free_some owner h0 f n _ _ (by omega) e
/-- how many places are taken -/
def taken (owner : Array (Option Nat)) : Nat := owner.toList.countP fun x => x.isSome
structure Lay (m n : Nat) (owner : Array (Option Nat)) : Prop where
  sz : owner.size = m + 1
  all : ∀ k, k < n → ∃ j : Nat, owner[j]? = some (some k)
  cnt : taken owner = n
theorem has_free {m n : Nat} {owner : Array (Option Nat)} (W : Lay m n owner) (hn : n ≤ m) : ∃ j, j ≤ m ∧ (owner.getD j (some 0)).isNone = true := by
  by_cases h : ∀ x ∈ owner.toList, x.isSome = true
  · have h1 : taken owner = owner.toList.length := List.countP_eq_length.mpr h
    rw [Array.length_toList, W.sz, W.cnt] at h1
    omega
  · simp only [Classical.not_forall] at h
    obtain ⟨x, hx, hs⟩ := h
    obtain ⟨j, hj, e⟩ := List.getElem_of_mem hx
    have hj' : j < owner.size := by simpa using hj
    refine ⟨j, by rw [W.sz] at hj'; omega, ?_⟩
    have e2 : owner[j] = x := by simpa using e
    rw [Array.getD_eq_getD_getElem?, Array.getElem?_eq_getElem hj', e2]
    cases x with
    | none => rfl
    | some y => exact absurd rfl hs
theorem step_ok {m n : Nat} {owner : Array (Option Nat)} (W : Lay m n owner) {j : Nat} (hj : (owner.getD j (some 0)).isNone = true) : Lay m (n + 1) (owner.setIfInBounds j (some n)) := by
  have hjl : j < owner.size := by
    by_cases h : j < owner.size
    · exact h
    · rw [Array.getD_eq_getD_getElem?, Array.getElem?_eq_none (by omega)] at hj
      cases hj
  have hnone : owner[j]? = some none := by
    rw [Array.getD_eq_getD_getElem?, Array.getElem?_eq_getElem hjl] at hj
    rw [Array.getElem?_eq_getElem hjl]
    cases q : owner[j] with
    | none => rfl
    | some y =>
      rw [q] at hj
      cases hj
  refine ⟨by simp [W.sz], fun k hk => ?_, ?_⟩
  · by_cases e : k = n
    · subst e
      exact ⟨j, by simp [hjl]⟩
    · obtain ⟨i, hi⟩ := W.all k (by omega)
      refine ⟨i, ?_⟩
      have hne : j ≠ i := fun z => by
        rw [← z, hnone] at hi
        cases hi
      rw [Array.getElem?_setIfInBounds_ne hne]
      exact hi
  · unfold taken
    rw [Array.toList_setIfInBounds, List.countP_set (by simpa using hjl)]
    have e : owner.toList[j]'(by simpa using hjl) = none := by
      have := hnone
      rw [Array.getElem?_eq_getElem hjl] at this
      simpa using Option.some.inj this
    rw [e]
    have := W.cnt
    unfold taken at this
    simp only [Option.isSome_none, Bool.false_eq_true, if_false, Option.isSome_some, if_true]
    omega
theorem fold_lay {m : Nat} (hm : Msk m) : ∀ (rest : List Int) (n : Nat) (owner : Array (Option Nat)), Lay m n owner → n + rest.length ≤ m → ∃ o2, rest.foldl (stepF m) (some (owner, n)) = some (o2, n + rest.length) ∧ Lay m (n + rest.length) o2
  | [], n, owner, W, _ => ⟨owner, rfl, W⟩
  | h :: rest, n, owner, W, hl => by
    rw [List.length_cons] at hl
    obtain ⟨j0, hj0, h0⟩ := has_free W (by omega)
    obtain ⟨q, hq, e⟩ := meets hm h hj0
    obtain ⟨j, hj, hn⟩ := free_some owner h0 (SetTable.turns m) q _ _ hq e
    obtain ⟨o2, e2, W2⟩ := fold_lay hm rest (n + 1) _ (step_ok W hn) (by omega)
    refine ⟨o2, ?_, by rw [List.length_cons, show n + (rest.length + 1) = n + 1 + rest.length by omega]; exact W2⟩
    rw [List.foldl_cons, stepF_some hj, e2, List.length_cons, show n + (rest.length + 1) = n + 1 + rest.length by omega]
theorem lay_all {m : Nat} (hm : Msk m) {hs : Array Int} (hn : hs.size ≤ m) : ∃ owner, SetTable.layClean m hs = some owner ∧ Lay m hs.size owner := by
  obtain ⟨o2, e, W⟩ := fold_lay hm hs.toList 0 (Array.replicate (m + 1) none) ⟨by simp, fun k hk => absurd hk (Nat.not_lt_zero _), by unfold taken; simp [List.countP_replicate]⟩ (by simpa using hn)
  refine ⟨o2, ?_, by simpa using W⟩
  rw [layClean_eq, e]
  rfl
end SQ
end
section
set_option Elab.async false
set_option linter.all false
set_option maxRecDepth 100000
set_option maxHeartbeats 4000000
/-! MQf: one set poured into another. -/
namespace SQ
open PySem PySem.Spec PyProof.Rows L2
theorem live_len {m : Nat} {owner : Array (Option Nat)} (hs : owner.size = m + 1) : (liveOf m owner).length = taken owner := by
  have e : owner.toList = (List.range (m + 1)).map fun j => owner.getD j none := by
    refine List.ext_getElem (by simp [hs]) fun i h1 h2 => ?_
    have hi : i < owner.size := by simpa using h1
    simp [Array.getD_eq_getD_getElem?, Array.getElem?_eq_getElem hi]
  unfold taken liveOf
  rw [e, List.countP_map]
  generalize List.range (m + 1) = l
  induction l with
  | nil => rfl
  | cons j l ih =>
    have c : (((fun x : Option Nat => x.isSome) ∘ fun j => owner.getD j none) j) = (owner.getD j none).isSome := rfl
    rw [List.filterMap_cons, List.countP_cons, c]
    generalize owner.getD j none = o
    cases o with
    | none => simpa using ih
    | some k => simpa using ih
theorem laid_ok {m : Nat} (hm : Msk m) {hs : Array Int} (hn : hs.size ≤ m) (fg mv : Nat) (ld pl : Bool) :
    ∃ t order, SetTable.laid m fg mv ld pl hs = some (t, order) ∧ order.toList.Perm (List.range hs.size) ∧ Ris t.place.toList ∧ t.place.size = hs.size ∧ t.dummies = #[] ∧ t.mask = m ∧ t.led = ld := by
  obtain ⟨owner, e, W⟩ := lay_all hm hn
  have len : (liveOf m owner).length = hs.size := by rw [live_len W.sz, W.cnt]
  refine ⟨⟨m, ((liveOf m owner).map (·.1)).toArray, #[], fg, ld, mv, pl⟩, ((liveOf m owner).map (·.2)).toArray, ?_, ?_, ?_, by simp [len], rfl, rfl, rfl⟩
  · unfold SetTable.laid
    rw [e]
    rfl
  · refine perm_range _ _ (by simp [len]) fun k hk => ?_
    obtain ⟨j, hj⟩ := W.all k hk
    have jl : j < owner.size := (Array.getElem?_eq_some_iff.mp hj).1
    refine List.mem_map.mpr ⟨(j, k), List.mem_filterMap.mpr ⟨j, List.mem_range.mpr (by rw [← W.sz]; exact jl), ?_⟩, rfl⟩
    rw [Array.getD_eq_getD_getElem?, hj]
    rfl
  · exact (ris_live (fun j => owner.getD j none) (List.range (m + 1)) (by unfold Ris; exact List.pairwise_lt_range)).1
section
variable {P : Program} {w : World} {A : Around} {E : Value → Shared → Prop} {s : Shared} {a : Addr} {L : List (Key × Value)} {es : Array (Int × Value)} {ep : Nat} {t : SetTable}
theorem order_ok {order : Array Nat} (hp : order.toList.Perm (List.range es.size)) (rows : es.toList = L.map (row (mixK P w))) : ∃ L2 : List (Key × Value), (order.filterMap (es[·]?)).toList = L2.map (row (mixK P w)) ∧ L2.Perm L ∧ (order.filterMap (es[·]?)).size = es.size := by
  have r0 : (order.filterMap (es[·]?)).toList = order.toList.filterMap fun i => es[i]? := by simp
  have pm : (order.toList.filterMap fun i => es[i]?).Perm es.toList := by
    have h1 := hp.filterMap fun i => es[i]?
    have h2 : (List.range es.size).filterMap (fun i => es[i]?) = es.toList := by
      have key : ∀ n, n ≤ es.size → (List.range n).filterMap (fun i => es[i]?) = es.toList.take n := by
        intro n
        induction n with
        | zero => intro _; rfl
        | succ n ih =>
          intro hn
          have hlt : n < es.size := hn
          rw [List.range_succ, List.filterMap_append, ih (Nat.le_of_lt hlt), List.take_add_one, List.filterMap_cons_some (Array.getElem?_eq_getElem hlt)]
          simp [hlt]
      rw [key es.size (Nat.le_refl _), List.take_of_length_le (by simp)]
    rw [h2] at h1
    exact h1
  obtain ⟨L2, e2, p2⟩ := perm_map (f := row (mixK P w)) pm rows
  refine ⟨L2, by rw [r0, e2], p2, ?_⟩
  rw [← Array.length_toList, r0, pm.length_eq, Array.length_toList]
theorem relay_mix (R : SetQ w (mixK P w) s.heap a L es ep t) {wanted m : Nat} (hw : SetTable.sizeAbove wanted - 1 = m) (hm : Msk m) (hw2 : SetTable.sizeAbove wanted ≤ 128) (hn : L.length ≤ m) {Q : Unit → Shared → Prop}
    (q : ∀ h' L' es' ep' t', Heap.SameBut a s.heap h' → SetQ w (mixK P w) h' a L' es' ep' t' → L'.Perm L → t'.fill = L.length → Q () { s with heap := h' }) : wpAny (model P w) A (setRelay a wanted) Q E s := by
  obtain ⟨o, ho, hex, hd⟩ := R.ob
  have sz := R.size
  obtain ⟨t', order, e, hp, ris, psz, dm, mk, ld⟩ := laid_ok hm (hs := es.map (·.1)) (by rw [Array.size_map, sz]; exact hn) t.finger (t.movedTo m) t.led t.plain
  rw [Array.size_map] at hp psz
  obtain ⟨L2, e2, p2, sz2⟩ := order_ok (P := P) hp R.rows
  rw [setRelay_eq]
  refine wpAny_bind (wpAny_setState_of ho hd R.fits ?_)
  dsimp only
  refine wp_if_neg (by rw [sizeLine_eq]; omega) ?_
  try refine wpAny_bind (wpAny_pure ?_)
  have e' : t.relaid (es.map (·.1)) wanted = some (t', order) := by
    unfold SetTable.relaid
    rw [hw]
    exact e
  rw [e']
  dsimp only
  refine wpAny_bind (wp_if_neg (by rw [sz2]; simp) ?_)
  try refine wpAny_bind (wpAny_pure ?_)
  refine wpAny_pure ?_
  dsimp only
  have few := R.few
  refine wpAny_storeSet_of ho hd ?_ (by rw [sz2, sz, sizeLine_eq]; omega)
  refine q _ L2 (order.filterMap (es[·]?)) (ep + 1) t' (Heap.SameBut.update ..) ⟨⟨_, store_at ho hd, ⟨hex.1, hex.2.1, hex.2.2⟩, rfl⟩, e2, (p2.map (·.1)).nodup_iff.mpr R.nd, fun p hpm => R.is_ p (p2.mem_iff.mp hpm), ?_, ris, by rw [ld]; exact R.led, by rw [p2.length_eq]; exact few, trivial⟩ p2 ?_
  · unfold SetTable.fits SetTable.fill
    rw [dm, psz, sz2, mk, sz, Bool.and_eq_true, beq_iff_eq, decide_eq_true_eq]
    exact ⟨rfl, hn⟩
  · unfold SetTable.fill
    rw [dm, psz, sz]
    rfl
end
end SQ
end
section
set_option Elab.async false
set_option linter.all false
set_option maxRecDepth 100000
set_option maxHeartbeats 4000000
/-! MQg: setMerge of mixed sets. -/
namespace SQ
open PySem PySem.Spec PyProof.Rows L2
theorem setMerge_eq (s o : Addr) (each : Sem Unit) : setMerge s o each = (do
    if s == o then return
    let (eo, epoch, to) ← setState o
    if eo.isEmpty then return
    setRoomFor s eo.size
    let (_, _, ts) ← setState s
    match ts.road to with
    | .slotForSlot => storeSet s eo { to with finger := ts.finger, led := ts.led && to.led, moves := ts.moves, plain := ts.plain && to.plain }
    | .clean =>
      let (es, t) ← (do
        let some (t, order) := SetTable.laid ts.mask ts.finger ts.moves (led := ts.led && to.led) (plain := ts.plain && to.plain) (eo.map (·.1)) | unsupported "internal:set-table-without-room"
        let es' := order.filterMap (eo[·]?)
        if es'.size != eo.size then unsupported "internal:set-table-lost-an-element"
        pure (es', t) : Sem (Array (Int × Value) × SetTable))
      storeSet s es t
    | .oneByOne =>
      for (h, x) in ← setWalkUnseen o [s] (some s) do
        let _ ← holding [x] (setAddHashed s x h)
        each
        if (← setState o).2.1 != epoch then unsupported "set.changed-during-merge") := by rfl
section
variable {P : Program} {w : World} {A : Around} {E : Value → Shared → Prop} {s : Shared} {a b : Addr} {L L2 : List (Key × Value)} {es es2 : Array (Int × Value)} {ep ep2 : Nat} {t t2 : SetTable}
theorem room_none (hm : t.mask = 7) (hf : t.fill + L2.length ≤ 4) : t.roomFor L2.length = none := by
  unfold SetTable.roomFor
  rw [if_neg (by omega)]
theorem sub_of {h h' : Heap} {c : Addr} {L0 : List (Key × Value)} {es0 : Array (Int × Value)} {ep0 : Nat} {t0 : SetTable} (hs : Heap.SameBut a h h') (hne : c ≠ a) (R : SetQ w (mixK P w) h c L0 es0 ep0 t0) : SetQ w (mixK P w) h' c L0 es0 ep0 t0 := by
  obtain ⟨o, ho, hex, hd⟩ := R.ob
  exact ⟨⟨o, (hs.2 c hne).trans ho, hex, hd⟩, R.rows, R.nd, R.is_, R.fits, R.ris, R.led, R.few, R.ex⟩
/-- poured into an empty set -/
theorem merge_fresh (hne : a ≠ b) (R : SetQ w (mixK P w) s.heap a L es ep t) (hm : t.mask = 7) (hf : t.fill = 0) (R2 : SetQ w (mixK P w) s.heap b L2 es2 ep2 t2) (few : L2.length ≤ 4) {each : Sem Unit} {Q : Unit → Shared → Prop}
    (q : ∀ h' L' es' ep' t', Heap.SameBut a s.heap h' → SetQ w (mixK P w) h' a L' es' ep' t' → L'.Perm L2 → t'.mask = 7 → t'.fill = L2.length → Q () { s with heap := h' }) : wpAny (model P w) A (setMerge a b each) Q E s := by
  obtain ⟨o, ho, hex, hd⟩ := R.ob
  obtain ⟨o2, ho2, hex2, hd2⟩ := R2.ob
  have sz2 := R2.size
  have sz := R.size
  have f := R.fits
  unfold SetTable.fits at f
  rw [Bool.and_eq_true, beq_iff_eq, decide_eq_true_eq] at f
  have l0 : L = [] := List.length_eq_zero_iff.mp (by unfold SetTable.fill at hf; omega)
  rw [setMerge_eq, if_neg (by simpa using hne)]
  refine wpAny_bind (wpAny_setState_of ho2 hd2 R2.fits ?_)
  dsimp only
  by_cases em : es2.isEmpty = true
  · rw [if_pos em]
    have z : L2 = [] := List.length_eq_zero_iff.mp (by rw [← sz2]; simpa using em)
    subst z
    subst l0
    exact wpAny_pure (q s.heap [] es ep t (Heap.SameBut.refl ..) R (List.Perm.refl _) hm hf)
  rw [if_neg em]
  unfold setRoomFor
  refine wpAny_bind (wpAny_bind (wpAny_setState_of ho hd R.fits ?_))
  dsimp only
  rw [sz2, room_none hm (by omega)]
  refine wpAny_pure ?_
  refine wpAny_bind (wpAny_setState_of ho hd R.fits ?_)
  dsimp only
  have few2 := R2.few
  have ledd : w.params.followText "set-order" = true ∨ (t.led && t2.led) = true := by
    rcases R.led with z | z
    · exact .inl z
    · rcases R2.led with z2 | z2
      · exact .inl z2
      · exact .inr (by rw [z, z2]; rfl)
  unfold SetTable.road
  rw [if_neg (by simpa using hf)]
  by_cases sl : (t.mask == t2.mask && t2.dummies.isEmpty) = true
  · rw [if_pos sl]
    dsimp only
    rw [Bool.and_eq_true, beq_iff_eq] at sl
    have f2 := R2.fits
    unfold SetTable.fits at f2
    rw [Bool.and_eq_true, beq_iff_eq, decide_eq_true_eq] at f2
    refine wpAny_storeSet_of ho hd ?_ (by rw [sz2, sizeLine_eq]; omega)
    refine q _ L2 es2 (ep + 1) _ (Heap.SameBut.update ..) ⟨⟨_, store_at ho hd, ⟨hex.1, hex.2.1, hex.2.2⟩, rfl⟩, R2.rows, R2.nd, R2.is_, R2.fits, R2.ris, ledd, R2.few, trivial⟩ (List.Perm.refl _) (sl.1.symm.trans hm) ?_
    have d0 : t2.dummies.size = 0 := by simpa using sl.2
    show t2.place.size + t2.dummies.size = _
    omega
  · rw [if_neg sl]
    dsimp only
    obtain ⟨t', order, e, hp, ris, psz, dm, mk, ld⟩ := laid_ok (m := t.mask) (by rw [hm]; exact .inl rfl) (hs := es2.map (·.1)) (by rw [Array.size_map, sz2]; omega) t.finger t.moves (t.led && t2.led) (t.plain && t2.plain)
    rw [Array.size_map] at hp psz
    obtain ⟨L3, e3, p3, sz3⟩ := order_ok (P := P) hp R2.rows
    rw [e]
    dsimp only
    refine wpAny_bind (wp_if_neg (by rw [sz3, sz2]; simp) ?_)
    try refine wpAny_bind (wpAny_pure ?_)
    refine wpAny_pure ?_
    dsimp only
    refine wpAny_storeSet_of ho hd ?_ (by rw [sz3, sz2, sizeLine_eq]; omega)
    refine q _ L3 (order.filterMap (es2[·]?)) (ep + 1) t' (Heap.SameBut.update ..) ⟨⟨_, store_at ho hd, ⟨hex.1, hex.2.1, hex.2.2⟩, rfl⟩, e3, (p3.map (·.1)).nodup_iff.mpr R2.nd, fun p hpm => R2.is_ p (p3.mem_iff.mp hpm), ?_, ris, by rw [ld]; exact ledd, by rw [p3.length_eq]; exact few2, trivial⟩ p3 (mk.trans hm) ?_
    · unfold SetTable.fits SetTable.fill
      rw [dm, psz, sz3, mk, sz2, Bool.and_eq_true, beq_iff_eq, decide_eq_true_eq]
      exact ⟨rfl, by show L2.length + 0 ≤ _; omega⟩
    · unfold SetTable.fill
      rw [dm, psz, sz2]
      rfl
end
end SQ
end
section
set_option Elab.async false
set_option linter.all false
set_option maxRecDepth 100000
set_option maxHeartbeats 4000000
/-! MQh: walking a mixed set that nobody sees; pouring into a set that holds something. -/
namespace SQ
open PySem PySem.Spec PyProof.Rows L2
theorem setWalk_eq (a : Addr) : setWalk a = (do
  let (es, epoch, t) ← setState a
  if ← setsByText then return pickOrder ((← ask).params.setOrder a epoch) es
  if !t.plain && es.size > 1 then return (← drawOrder es.size es.toList).toArray
  (do if !t.led && es.size > 1 then unsupported "set:maker-not-led" : Sem Unit)
  return es) := by rfl
section
variable {P : Program} {w : World} {A : Around} {E : Value → Shared → Prop} {s : Shared} {a b : Addr} {L L2 : List (Key × Value)} {es es2 : Array (Int × Value)} {ep ep2 : Nat} {t t2 : SetTable}
theorem mix_noref (R : SetQ w (mixK P w) s.heap a L es ep t) {e : Int × Value} (he : e ∈ es.toList) : ∃ p ∈ L, e = ((mixK P w).hash p.1, p.2) ∧ (mixKind P w).is p.1 p.2 = true ∧ p.2.scannable = true := by
  rw [R.rows] at he
  obtain ⟨p, hp, e1⟩ := List.mem_map.mp he
  exact ⟨p, hp, e1.symm, R.is_ p hp, mix_scan (R.is_ p hp)⟩
theorem quiet {cs : List Addr} (h : ∀ c ∈ cs, ∃ L es ep t, SetQ w (mixK P w) s.heap c L es ep t) {Q : Bool → Shared → Prop} (q : Q true s) : wpAny (model P w) A (setsQuiet cs) Q E s := by
  unfold setsQuiet
  refine wpAny_bind (wpAny_forIn_list _ (fun rest b s' => b.1 = none ∧ s' = s ∧ (∀ c ∈ rest, c ∈ cs)) _ ?_ ?_ _ _ ⟨rfl, rfl, fun _ h => h⟩)
  · rintro c rest ⟨b, u⟩ s' ⟨hb, rfl, hr⟩
    dsimp only at hb
    subst hb
    obtain ⟨L, es, ep, t, R⟩ := h c (hr c (List.mem_cons_self ..))
    obtain ⟨o, ho, hex, hd⟩ := R.ob
    refine wpAny_bind (wpAny_setEntries_of ho hd R.fits ?_)
    refine wpAny_bind ?_
    rw [← Array.forIn_toList]
    refine wpAny_forIn_list _ (fun rest b s'' => b.1 = none ∧ s'' = s' ∧ (∀ e ∈ rest, e ∈ es.toList)) _ ?_ ?_ _ _ ⟨rfl, rfl, fun _ h => h⟩
    · rintro ⟨hh, x⟩ rest2 ⟨b, u⟩ s'' ⟨hb, rfl, hr2⟩
      dsimp only at hb
      subst hb
      obtain ⟨p, hp, e1, _, sc⟩ := mix_noref R (hr2 _ (List.mem_cons_self ..))
      have e2 : x = p.2 := congrArg Prod.snd e1
      rw [← e2] at sc
      have rs : ∀ e ∈ rest2, e ∈ es.toList := fun e he => hr2 e (List.mem_cons_of_mem _ he)
      cases x with
      | ref r => cases sc
      | _ => exact wpAny_pure ⟨rfl, rfl, rs⟩
    · rintro ⟨b, u⟩ s'' ⟨hb, rfl, _⟩
      dsimp only at hb
      subst hb
      exact wpAny_pure ⟨rfl, rfl, fun c hc => hr c (List.mem_cons_of_mem _ hc)⟩
  · rintro ⟨b, u⟩ s' ⟨hb, rfl, _⟩
    dsimp only at hb
    subst hb
    exact wpAny_pure q
theorem walk_quiet (R2 : SetQ w (mixK P w) s.heap b L2 es2 ep2 t2) (c : w.params.followText "set-order" = true ∨ t2.plain = true ∨ es2.size ≤ 1) {Q : Array (Int × Value) → Shared → Prop} (q : ∀ xs : Array (Int × Value), xs.toList.Perm es2.toList → Q xs s) : wpAny (model P w) A (setWalk b) Q E s := by
  obtain ⟨o2, ho2, hex2, hd2⟩ := R2.ob
  rw [setWalk_eq]
  refine wpAny_bind (wpAny_setState_of ho2 hd2 R2.fits ?_)
  dsimp only
  refine wpAny_bind (wpAny_byText ?_)
  by_cases bt : w.params.followText "set-order" = true
  · refine wp_if_pos bt ?_
    exact wpAny_bind (wpAny_askSetting (wpAny_pure (q _ (pick_perm _ _))))
  · refine wp_if_neg bt ?_
    try refine wpAny_bind (wpAny_pure ?_)
    have ld : t2.led = true := R2.led.resolve_left bt
    refine wp_if_neg ?_ ?_
    · rcases c with z | z | z
      · exact absurd z bt
      · simp [z]
      · simp; intro _; omega
    try refine wpAny_bind (wpAny_pure ?_)
    refine wpAny_bind (wp_if_neg (by simp [ld]) ?_)
    exact wpAny_pure (wpAny_pure (q _ (List.Perm.refl _)))
theorem walk_unseen (hne : a ≠ b) (R : SetQ w (mixK P w) s.heap a L es ep t) (R2 : SetQ w (mixK P w) s.heap b L2 es2 ep2 t2) {Q : Array (Int × Value) → Shared → Prop}
    (q : ∀ h' ep' t' (xs : Array (Int × Value)), Heap.SameBut a s.heap h' → SetQ w (mixK P w) h' a L es ep' t' → xs.toList.Perm es2.toList → Q xs { s with heap := h' }) : wpAny (model P w) A (setWalkUnseen b [a] (some a)) Q E s := by
  obtain ⟨o, ho, hex, hd⟩ := R.ob
  obtain ⟨o2, ho2, hex2, hd2⟩ := R2.ob
  unfold setWalkUnseen
  refine wpAny_bind (wpAny_setState_of ho2 hd2 R2.fits ?_)
  dsimp only
  refine wpAny_bind (wpAny_byText ?_)
  by_cases c : (w.params.followText "set-order" || (t2.led && t2.plain) || decide (es2.size ≤ 1)) = true
  · refine wp_if_pos c ?_
    refine walk_quiet R2 ?_ fun xs px => q s.heap ep t xs (Heap.SameBut.refl ..) R px
    simp only [Bool.or_eq_true, Bool.and_eq_true, decide_eq_true_eq] at c
    rcases c with (z | z) | z
    · exact .inl z
    · exact .inr (.inl z.2)
    · exact .inr (.inr z)
  · refine wp_if_neg c ?_
    try refine wpAny_bind (wpAny_pure ?_)
    simp only [Bool.or_eq_true, Bool.and_eq_true, decide_eq_true_eq, not_or] at c
    have ld2 : t2.led = true := R2.led.resolve_left c.1.1
    refine wpAny_bind (quiet (fun x hx => ?_) ?_)
    · rcases List.mem_cons.mp hx with rfl | hx
      · exact ⟨_, _, _, _, R2⟩
      · rw [List.mem_singleton.mp hx]; exact ⟨_, _, _, _, R⟩
    refine wp_if_neg (by simp) ?_
    try refine wpAny_bind (wpAny_pure ?_)
    refine wpAny_bind (wpAny_rule ?_)
    try dsimp only
    refine wpAny_bind (wpAny_setState_of ho hd R.fits ?_)
    dsimp only
    have sz := R.size
    have few := R.few
    by_cases d : ((t.led && !t2.led) || (t.plain && !t2.plain)) = true
    · rw [if_pos d]
      refine wpAny_bind (wpAny_storeSet_of ho hd ?_ (by rw [sz, sizeLine_eq]; omega))
      refine wpAny_pure (q _ (ep + 1) _ es2 (Heap.SameBut.update ..) ⟨⟨_, store_at ho hd, ⟨hex.1, hex.2.1, hex.2.2⟩, rfl⟩, R.rows, R.nd, R.is_, R.fits, R.ris, R.led.imp id (fun z => ?_), R.few, trivial⟩ (List.Perm.refl _))
      show (t.led && t2.led) = true
      rw [z, ld2]; rfl
    · rw [if_neg d]
      try refine wpAny_bind (wpAny_pure ?_)
      exact wpAny_pure (q s.heap ep t es2 (Heap.SameBut.refl ..) R (List.Perm.refl _))
end
end SQ
end
section
set_option Elab.async false
set_option linter.all false
set_option maxRecDepth 100000
set_option maxHeartbeats 4000000
/-! MQi: pouring a mixed set into a mixed set. -/
namespace SQ
open PySem PySem.Spec PyProof.Rows L2
theorem above_small : ∀ n, 5 ≤ n → n ≤ 8 → Msk (SetTable.sizeAbove (n * 2) - 1) ∧ SetTable.sizeAbove (n * 2) ≤ 128 ∧ n ≤ SetTable.sizeAbove (n * 2) - 1 := by
  intro n h1 h2
  have c : n = 5 ∨ n = 6 ∨ n = 7 ∨ n = 8 := by omega
  rcases c with rfl | rfl | rfl | rfl
  · exact ⟨.inr (.inl (by decide)), by decide, by decide⟩
  · exact ⟨.inr (.inl (by decide)), by decide, by decide⟩
  · exact ⟨.inr (.inl (by decide)), by decide, by decide⟩
  · exact ⟨.inr (.inr (by decide)), by decide, by decide⟩
section
variable {P : Program} {w : World} {A : Around} {E : Value → Shared → Prop} {s : Shared} {a b : Addr} {L L2 : List (Key × Value)} {es es2 : Array (Int × Value)} {ep ep2 : Nat} {t t2 : SetTable}
theorem room_mix (R : SetQ w (mixK P w) s.heap a L es ep t) (hm : t.mask = 7) (hf : t.fill = L.length) (few : L.length ≤ 4) {n : Nat} (hn : n ≤ 4) {Q : Unit → Shared → Prop}
    (q : ∀ h' L' es' ep' t', Heap.SameBut a s.heap h' → SetQ w (mixK P w) h' a L' es' ep' t' → L'.Perm L → t'.fill = L.length → Q () { s with heap := h' }) : wpAny (model P w) A (setRoomFor a n) Q E s := by
  obtain ⟨o, ho, hex, hd⟩ := R.ob
  have sz := R.size
  have f := R.fits
  unfold SetTable.fits at f
  rw [Bool.and_eq_true, beq_iff_eq, decide_eq_true_eq] at f
  unfold setRoomFor
  refine wpAny_bind (wpAny_setState_of ho hd R.fits ?_)
  dsimp only
  unfold SetTable.roomFor
  by_cases c : (t.fill + n) * 5 ≥ t.mask * 3
  · rw [if_pos c]
    dsimp only
    have e : t.place.size + n = L.length + n := by omega
    rw [e]
    obtain ⟨m1, m2, m3⟩ := above_small (L.length + n) (by omega) (by omega)
    exact relay_mix R rfl m1 m2 (by omega) q
  · rw [if_neg c]
    exact wpAny_pure (q s.heap L es ep t (Heap.SameBut.refl ..) R (List.Perm.refl _) hf)
/-- what stands in the set after pouring -/
structure Poured (L L2 L' : List (Key × Value)) : Prop where
  from_ : ∀ p ∈ L', p ∈ L ∨ p ∈ L2
  old : ∀ k ∈ L.map (·.1), k ∈ L'.map (·.1)
  new : ∀ k ∈ L2.map (·.1), k ∈ L'.map (·.1)
theorem merge_mix (hne : a ≠ b) (R : SetQ w (mixK P w) s.heap a L es ep t) (hm : t.mask = 7) (hf : t.fill = L.length) (few : L.length ≤ 4) (R2 : SetQ w (mixK P w) s.heap b L2 es2 ep2 t2) (few2 : L2.length ≤ 4) {each : Sem Unit}
    (he : ∀ {s' : Shared} {Q' : Unit → Shared → Prop}, SetQ w (mixK P w) s'.heap b L2 es2 ep2 t2 → Q' () s' → wpAny (model P w) A each Q' E s') {Q : Unit → Shared → Prop}
    (q : ∀ h' L' es' ep' t', Heap.SameBut a s.heap h' → SetQ w (mixK P w) h' a L' es' ep' t' → Poured L L2 L' → Q () { s with heap := h' }) : wpAny (model P w) A (setMerge a b each) Q E s := by
  by_cases z : t.fill = 0
  · have l0 : L = [] := List.length_eq_zero_iff.mp (hf.symm.trans z)
    subst l0
    refine merge_fresh hne R hm z R2 few2 fun h' L' es' ep' t' hs R' pm _ _ => q h' L' es' ep' t' hs R' ⟨fun p hp => .inr (pm.mem_iff.mp hp), fun k hk => (nomatch hk), fun k hk => (pm.map (·.1)).mem_iff.mpr hk⟩
  obtain ⟨o, ho, hex, hd⟩ := R.ob
  obtain ⟨o2, ho2, hex2, hd2⟩ := R2.ob
  have sz2 := R2.size
  rw [setMerge_eq, if_neg (by simpa using hne)]
  refine wpAny_bind (wpAny_setState_of ho2 hd2 R2.fits ?_)
  dsimp only
  by_cases em : es2.isEmpty = true
  · rw [if_pos em]
    have z2 : L2 = [] := List.length_eq_zero_iff.mp (by rw [← sz2]; simpa using em)
    subst z2
    exact wpAny_pure (q s.heap L es ep t (Heap.SameBut.refl ..) R ⟨fun p hp => .inl hp, fun k hk => hk, fun k hk => (nomatch hk)⟩)
  rw [if_neg em, sz2]
  refine wpAny_bind (room_mix R hm hf few few2 fun h1 L1 es1 ep1 t1 hs1 R1 pm1 fl1 => ?_)
  have R21 := sub_of hs1 (Ne.symm hne) R2
  obtain ⟨o1, ho1, hex1, hd1⟩ := R1.ob
  refine wpAny_bind (wpAny_setState_of ho1 hd1 R1.fits ?_)
  dsimp only
  unfold SetTable.road
  rw [if_pos (by rw [fl1, ← hf]; simpa using z)]
  dsimp only
  refine wpAny_bind (walk_unseen hne R1 R21 fun h3 ep3 t3 xs hs3 R3 px => ?_)
  obtain ⟨L3, e3, p3⟩ := perm_map (f := row (mixK P w)) px R2.rows
  rw [← Array.forIn_toList]
  refine wpAny_bind (wpAny_forIn_list _ (fun rest u s' => ∃ (h' : Heap) (L' : List (Key × Value)) (es' : Array (Int × Value)) (ep' : Nat) (t' : SetTable) (L4 : List (Key × Value)), s' = { s with heap := h' } ∧ Heap.SameBut a s.heap h' ∧ SetQ w (mixK P w) h' a L' es' ep' t' ∧ rest = L4.map (row (mixK P w)) ∧ (∀ p ∈ L4, p ∈ L2) ∧ (∀ p ∈ L', p ∈ L ∨ p ∈ L2) ∧ (∀ k ∈ L.map (·.1), k ∈ L'.map (·.1)) ∧ (∀ p ∈ L2, p ∈ L4 ∨ p.1 ∈ L'.map (·.1)) ∧ L'.length + L4.length ≤ 8) _ ?_ ?_ _ _ ?_)
  · rintro ⟨hh, x⟩ rest u s' ⟨h', L', es', ep', t', L4, rfl, hs', R', e4, i1, i2, i3, i4, i5⟩
    cases L4 with
    | nil => cases e4
    | cons p L4 =>
      rw [List.map_cons] at e4
      obtain ⟨e5, e6⟩ := List.cons.inj e4
      have eh : hh = (mixK P w).hash p.1 := congrArg Prod.fst e5
      have ex : x = p.2 := congrArg Prod.snd e5
      subst eh
      subst ex
      have hk : (mixKind P w).is p.1 p.2 = true := R2.is_ p (i1 p (List.mem_cons_self ..))
      have il : L'.length + 1 < 64 := by rw [List.length_cons] at i5; omega
      refine wpAny_bind (wpAny_holding (mix_add (s := { s with heap := h' }) R' hk il fun bb h6 L6 es6 ep6 t6 hs6 R6 in6 out6 => ?_))
      have hs7 : Heap.SameBut a s.heap h6 := hs'.trans hs6
      have R27 := sub_of hs7 (Ne.symm hne) R2
      refine wpAny_bind (he (s' := { s with heap := h6 }) R27 ?_)
      obtain ⟨o7, ho7, hex7, hd7⟩ := R27.ob
      refine wpAny_bind (wpAny_setState_of (s := { s with heap := h6 }) ho7 hd7 R2.fits ?_)
      refine wp_if_neg (by simp) ?_
      try refine wpAny_bind (wpAny_pure ?_)
      refine wpAny_pure ?_
      by_cases mem : p.1 ∈ L'.map (·.1)
      · have := in6 mem
        subst this
        exact ⟨h6, _, es6, ep6, t6, L4, rfl, hs7, R6, e6, fun r hr => i1 r (List.mem_cons_of_mem _ hr), i2, i3, fun r hr => by
          rcases i4 r hr with c | c
          · rcases List.mem_cons.mp c with rfl | c
            · exact .inr mem
            · exact .inl c
          · exact .inr c, by rw [List.length_cons] at i5; omega⟩
      · have pm := out6 mem
        have pk : ∀ k, k ∈ L6.map (·.1) ↔ k = p.1 ∨ k ∈ L'.map (·.1) := fun k => by
          have := (pm.map (·.1)).mem_iff (a := k)
          rw [List.map_cons, List.mem_cons] at this
          exact this
        exact ⟨h6, L6, es6, ep6, t6, L4, rfl, hs7, R6, e6, fun r hr => i1 r (List.mem_cons_of_mem _ hr), fun r hr => by
          rcases List.mem_cons.mp (pm.mem_iff.mp hr) with c | c
          · exact .inr (by rw [c]; exact i1 p (List.mem_cons_self ..))
          · exact i2 r c, fun k hk => (pk k).mpr (.inr (i3 k hk)), fun r hr => by
          rcases i4 r hr with c | c
          · rcases List.mem_cons.mp c with rfl | c
            · exact .inr ((pk _).mpr (.inl rfl))
            · exact .inl c
          · exact .inr ((pk _).mpr (.inr c)), by
          have := pm.length_eq
          rw [List.length_cons] at i5 this
          omega⟩
  · rintro u s' ⟨h', L', es', ep', t', L4, rfl, hs', R', e4, i1, i2, i3, i4, i5⟩
    have z4 : L4 = [] := by cases L4 with | nil => rfl | cons _ _ => cases e4
    subst z4
    refine wpAny_pure (q h' L' es' ep' t' hs' R' ⟨i2, i3, fun k hk => by
      obtain ⟨p, hp, rfl⟩ := List.mem_map.mp hk
      rcases i4 p hp with c | c
      · cases c
      · exact c⟩)
  · refine ⟨h3, L1, es1, ep3, t3, L3, rfl, hs1.trans hs3, R3, e3, fun p hp => p3.mem_iff.mp hp, fun p hp => .inl (pm1.mem_iff.mp hp), fun k hk => (pm1.map (·.1)).mem_iff.mpr hk, fun p hp => .inl (p3.mem_iff.mpr hp), ?_⟩
    have := pm1.length_eq
    have := p3.length_eq
    omega
end
end SQ
end
section
set_option Elab.async false
set_option linter.all false
set_option maxRecDepth 100000
set_option maxHeartbeats 4000000
/-! MQj: set | set. -/
namespace SQ
open PySem PySem.Spec PyProof.Rows L2 Builtin.Frozenset
theorem or_eq (a b : Addr) : Builtin.«frozenset.__or__» ⟨[.ref a, .ref b], []⟩ = (do
    let (self, other) ← slot1 "__or__" ⟨[.ref a, .ref b], []⟩
    if !(← isAnySet self <&&> isAnySet other) then rule s!"frozenset.{("__or__" : String)}.declined"; return ← ret .notImplemented
    let l ← addrOf self
    ret (← (do
      let result ← copyOf l
      if other != .ref l then holding [result] (updateFrom s!"frozenset.{("__or__" : String)}" (← addrOf result) other)
      return result : Sem Value))) := by rfl
section
variable {P : Program} {w : World} {A : Around} {E : Value → Shared → Prop} {s : Shared} {a b : Addr} {L L2 : List (Key × Value)} {es es2 : Array (Int × Value)} {ep ep2 : Nat} {t t2 : SetTable}
theorem type_set (R : SetQ w (mixK P w) s.heap a L es ep t) : s.TypeIs (.ref a) "set" := by
  obtain ⟨o, ho, hex, hd⟩ := R.ob
  exact ⟨o, ho, hex.1⟩
theorem any_set (R : SetQ w (mixK P w) s.heap a L es ep t) {Q : Bool → Shared → Prop} (q : Q true s) : wpAny (model P w) A (isAnySet (.ref a)) Q E s := by
  unfold isAnySet orM
  refine wpAny_bind (wpAny_isInstance (b := true) (type_set R) (by rw [isSubtype_type]; kernel_rfl) ?_)
  exact wpAny_pure q
theorem base_set (R : SetQ w (mixK P w) s.heap a L es ep t) {Q : Value → Shared → Prop} (q : Q (.type "set") s) : wpAny (model P w) A (baseOf a) Q E s := by
  unfold baseOf
  refine wpAny_bind (wpAny_isInstance (b := true) (type_set R) (by rw [isSubtype_type]; kernel_rfl) ?_)
  exact wpAny_pure q
theorem new_set {Q : Value → Shared → Prop} (h : ∀ led, led = !(w.params.followText "set-order") → Q (.ref s.heap.objs.size) { s with heap := s.heap.push { cls := .type "set", dict := none, data := .set #[] 0 (.fresh 0 0 led) } }) : wpAny (model P w) A (newSet (.type "set")) Q E s := by
  unfold newSet
  refine wpAny_bind (wpAny_byText ?_)
  simp only [newObj]
  exact wpAny_bind (wpAny_alloc (wpAny_pure (h _ rfl)))
theorem copy_set (R : SetQ w (mixK P w) s.heap a L es ep t) (few : L.length ≤ 4) {Q : Value → Shared → Prop}
    (q : ∀ h' L' es' ep' t', (∀ c o, s.heap.get? c = some o → h'.get? c = some o) → SetQ w (mixK P w) h' s.heap.objs.size L' es' ep' t' → L'.Perm L → t'.mask = 7 → t'.fill = L.length → Q (.ref s.heap.objs.size) { s with heap := h' }) : wpAny (model P w) A (copyOf a) Q E s := by
  obtain ⟨o, ho, hex, hd⟩ := R.ob
  have lt := Heap.lt_size ho
  unfold copyOf
  refine wpAny_bind (base_set R ?_)
  refine wpAny_bind (new_set fun led hled => ?_)
  have kp : ∀ c o, s.heap.get? c = some o → (s.heap.push { cls := .type "set", dict := none, data := .set #[] 0 (.fresh 0 0 led) }).get? c = some o := fun c o hc => Heap.get?_push_of_some _ hc
  have R0 : SetQ w (mixK P w) (s.heap.push { cls := .type "set", dict := none, data := .set #[] 0 (.fresh 0 0 led) }) s.heap.objs.size [] #[] 0 (.fresh 0 0 led) :=
    ⟨⟨_, Heap.get?_push_size _ rfl, ⟨rfl, rfl, rfl⟩, rfl⟩, rfl, List.nodup_nil, fun p hp => (nomatch hp), rfl, List.Pairwise.nil, by
      show _ ∨ led = true
      rw [hled]
      cases w.params.followText "set-order" <;> simp, by decide, trivial⟩
  have R1 : SetQ w (mixK P w) (s.heap.push { cls := .type "set", dict := none, data := .set #[] 0 (.fresh 0 0 led) }) a L es ep t := ⟨⟨o, kp a o ho, hex, hd⟩, R.rows, R.nd, R.is_, R.fits, R.ris, R.led, R.few, R.ex⟩
  show wpAny _ _ (addrOf (.ref s.heap.objs.size) >>= _) _ _ _
  refine wpAny_bind (wpAny_pure ?_)
  refine wpAny_bind (merge_fresh (Nat.ne_of_gt lt) R0 rfl rfl R1 few fun h' L' es' ep' t' hs R' pm m f => ?_)
  exact wpAny_pure (q h' L' es' ep' t' (fun c o hc => (hs.2 c (Nat.ne_of_lt (Heap.lt_size hc))).trans (kp c o hc)) R' pm m f)
theorem or_body (R : SetQ w (mixK P w) s.heap a L es ep t) (few : L.length ≤ 4) (R2 : SetQ w (mixK P w) s.heap b L2 es2 ep2 t2) (few2 : L2.length ≤ 4) {Q : Fin → Shared → Prop}
    (q : ∀ h' L' es' ep' t', (∀ c o, s.heap.get? c = some o → h'.get? c = some o) → SetQ w (mixK P w) h' s.heap.objs.size L' es' ep' t' → Poured L L2 L' → Q (.done (.ret (.ref s.heap.objs.size))) { s with heap := h' }) : wpAny (model P w) A (Builtin.«frozenset.__or__» ⟨[.ref a, .ref b], []⟩) Q E s := by
  obtain ⟨o, ho, hex, hd⟩ := R.ob
  obtain ⟨o2, ho2, hex2, hd2⟩ := R2.ob
  rw [or_eq]
  show wpAny _ _ (pure (Value.ref a, Value.ref b) >>= _) _ _ _
  refine wpAny_bind (wpAny_pure ?_)
  dsimp only
  refine wpAny_bind ?_
  unfold andM
  refine wpAny_bind (any_set R ?_)
  show wpAny _ _ (isAnySet (.ref b)) _ _ _
  refine any_set R2 ?_
  refine wp_if_neg (by simp) ?_
  try refine wpAny_bind (wpAny_pure ?_)
  refine wpAny_bind ?_
  refine wpAny_bind (copy_set R few fun h1 L1 es1 ep1 t1 kp1 R1 pm1 m1 f1 => ?_)
  have k1 : (h1.get? a).isSome := by rw [kp1 a o ho]; rfl
  have R21 : SetQ w (mixK P w) h1 b L2 es2 ep2 t2 := ⟨⟨o2, kp1 b o2 ho2, hex2, hd2⟩, R2.rows, R2.nd, R2.is_, R2.fits, R2.ris, R2.led, R2.few, R2.ex⟩
  by_cases same : b = a
  · subst same
    rw [if_neg (by simp)]
    try refine wpAny_bind (wpAny_pure ?_)
    refine wpAny_pure (wpAny_pure (q h1 L1 es1 ep1 t1 kp1 R1 ⟨fun p hp => .inl (pm1.mem_iff.mp hp), fun k hk => (pm1.map (·.1)).mem_iff.mpr hk, fun k hk => ?_⟩))
    have ee : es2 = es := by
      rw [ho] at ho2
      cases ho2
      rw [hd] at hd2
      cases hd2
      rfl
    subst ee
    obtain ⟨p, hp, rfl⟩ := List.mem_map.mp hk
    have h1 : row (mixK P w) p ∈ es2.toList := by rw [R2.rows]; exact List.mem_map_of_mem hp
    obtain ⟨p', hp', e1, i1, _⟩ := mix_noref R h1
    have e2 : p.2 = p'.2 := congrArg (fun z : Int × Value => z.2) e1
    have i2 := R2.is_ p hp
    have e3 : p.1 = p'.1 := (mixKind P w).inj _ _ _ (show (mixKind P w).is p.1 p'.2 = true from e2 ▸ i2) i1
    rw [e3]
    exact (pm1.map (·.1)).mem_iff.mpr (List.mem_map_of_mem hp')
  · rw [if_pos (by simpa using same)]
    have lt2 := Heap.lt_size ho2
    show wpAny _ _ (pure s.heap.objs.size >>= _) _ _ _
    refine wpAny_bind (wpAny_pure ?_)
    refine wpAny_bind (wpAny_holding ?_)
    unfold updateFrom
    refine wpAny_bind (any_set (s := { s with heap := h1 }) R21 ?_)
    rw [if_pos rfl]
    show wpAny _ _ (pure b >>= _) _ _ _
    refine wpAny_bind (wpAny_pure ?_)
    unfold merge
    refine wpAny_bind (wpAny_setEpoch_of (s := { s with heap := h1 }) (kp1 b o2 ho2) hd2 R2.fits ?_)
    refine merge_mix (s := { s with heap := h1 }) (Nat.ne_of_gt lt2) R1 m1 (f1.trans pm1.length_eq.symm) (by rw [pm1.length_eq]; exact few) R21 few2 (fun {s'} {Q'} R' hq => ?_) fun h' L' es' ep' t' hs R' po => ?_
    · obtain ⟨o', ho', _, hd'⟩ := R'.ob
      unfold unchanged
      refine wpAny_bind (wpAny_setEpoch_of ho' hd' R2.fits ?_)
      rw [if_neg (by simp)]
      exact wpAny_pure hq
    · refine wpAny_pure (wpAny_pure (q h' L' es' ep' t' (fun c o hc => (hs.2 c (Nat.ne_of_lt (Heap.lt_size hc))).trans (kp1 c o hc)) R' ⟨fun p hp => (po.from_ p hp).imp pm1.mem_iff.mp id, fun k hk => po.old k ((pm1.map (·.1)).mem_iff.mpr hk), po.new⟩))
end
end SQ
end
section
set_option Elab.async false
set_option linter.all false
set_option maxRecDepth 100000
set_option maxHeartbeats 4000000
/-! MQc: set(..), len(set), sorted(..). -/
namespace MP
open PySem PySem.Spec PyProof.Rows L2
/-- how a set stands: its members in its table's sequence -/
def SO (P : Program) (w : World) (ps : List (D × V)) (a : Addr) (h : Heap) : Prop :=
  ∃ o es ep t, h.get? a = some o ∧ o.ExactSet ∧ o.data = .set es ep t ∧ t.fits es.size = true ∧ Ris t.place.toList ∧ (w.params.followText "set-order" = true ∨ t.led = true) ∧ ps.length < 64 ∧ (∃ us, es.toList.map (·.2) = us ∧ Vals (ps.map (·.2)) us) ∧
    ((∀ p ∈ ps, p.1.scal = true) → ∃ L : List (L2.Key × Value), L.map (·.1) = ps.map (fun p => p.1.key) ∧ es.toList = L.map (SQ.row (SQ.mixK P w)) ∧ ∀ q ∈ L, (mixKind P w).is q.1 q.2 = true)
def soF (P : Program) (w : World) (ps : List (D × V)) (a : Addr) : HO := .ext fun h => SO P w ps a h
theorem so_new {P : Program} {w : World} {H : Hp} {h : Heap} {a : Addr} {ps : List (D × V)} (R : SO P w ps a h) : ObjOk P w H h a (soF P w ps a) := by
  have ⟨o, es, ep, t, ho, r⟩ := R
  refine ⟨R, ⟨o, ho⟩, fun h1 h2 p k => ?_⟩
  obtain ⟨o', es', ep', t', ho', r'⟩ := p
  exact ⟨o', es', ep', t', k o' ho', r'⟩
theorem so_get {X : Cx} {pins : List (Addr × Obj)} {σ : L2.St} {H : Hp} {s : Shared} {a : Addr} {ps : List (D × V)} (I : Inv X pins σ H s) (ha : H a = some (soF X.prog X.w ps a)) : SO X.prog X.w ps a s.heap := (I.hok a _ ha).1
theorem choose_rows {α β : Type} {R : α → β → Prop} {Z : List α} : ∀ (L : List β), (∀ q ∈ L, ∃ p ∈ Z, R p q) → ∃ ps : List α, Paired R ps L ∧ ∀ p ∈ ps, p ∈ Z
  | [], _ => ⟨[], .nil, fun p h => (by cases h)⟩
  | q :: L, h => by
    obtain ⟨p, hp, hr⟩ := h q List.mem_cons_self
    obtain ⟨ps, h1, h2⟩ := choose_rows L fun q hq => h q (List.mem_cons_of_mem _ hq)
    refine ⟨p :: ps, .cons hr h1, fun x hx => ?_⟩
    rcases List.mem_cons.mp hx with rfl | hx
    · exact hp
    · exact h2 x hx
theorem paired_vals {α : Type} {f : α → V} {β : Type} {u : β → Value} {R : α → β → Prop} (h : ∀ p q, R p q → RelV (f p) (u q)) : ∀ {ps : List α} {L : List β}, Paired R ps L → Vals (ps.map f) (L.map u)
  | _, _, .nil => .nil
  | _, _, .cons r t => .cons (h _ _ r) (paired_vals h t)
theorem paired_keys {α β γ : Type} {f : α → γ} {u : β → γ} {R : α → β → Prop} (h : ∀ p q, R p q → f p = u q) : ∀ {ps : List α} {L : List β}, Paired R ps L → ps.map f = L.map u
  | _, _, .nil => rfl
  | _, _, .cons r t => by rw [List.map_cons, List.map_cons, h _ _ r, paired_keys h t]
section
variable {X : Cx} {g : GC} {k : Nat}
mutual
theorem nested_of (x : XOk g k X) {pins : List (Addr × Obj)} {σ : L2.St} {H : Hp} {s : Shared} (I : Inv X pins σ H s) {ρ : Rw} : ∀ (d : D) (v : V) (u : Value), D.hash d = true → RD g ρ H d v → RelV v u → NestedIs s.heap (D.nk d) u
  | .int i, v, u, _, h, r => by
    rw [RD.int_] at h
    subst h
    obtain ⟨t, rfl⟩ := r
    exact .int i t
  | .str i, v, u, _, h, r => by
    rw [RD.str_] at h
    subst h
    obtain ⟨t, rfl⟩ := r
    exact .text i t
  | .tup xs, v, u, hh, h, r => by
    rw [RD.tup_] at h
    obtain ⟨a, vs, rfl, q, rr⟩ := h
    cases r
    obtain ⟨its, rv, p, _⟩ := I.tuple (x.eqK q)
    obtain ⟨o, ho, hc, n, hd⟩ := (show s.heap.IsTuple a its.toArray from p)
    exact .tup ho hc hd (by simpa using nesteds_of x I xs vs its (by rw [D.hash] at hh; exact hh) rr rv)
  | .non, _, _, hh, _, _ | .bl _, _, _, hh, _, _ | .lst _, _, _, hh, _, _ | .scr _, _, _, hh, _, _ | .set _, _, _, hh, _, _ | .ins _ _ _, _, _, hh, _, _ | .ref _, _, _, hh, _, _ => by simp [D.hash] at hh
theorem nesteds_of (x : XOk g k X) {pins : List (Addr × Obj)} {σ : L2.St} {H : Hp} {s : Shared} (I : Inv X pins σ H s) {ρ : Rw} : ∀ (ds : List D) (vs : List V) (us : List Value), D.hashes ds = true → RDs g ρ H ds vs → Vals vs us → NestedAll s.heap (D.nks ds) us
  | [], vs, us, _, h, r => by
    rw [h.inv0] at r
    cases r
    exact .nil
  | d :: ds, vs, us, hh, h, r => by
    obtain ⟨v, vr, rfl, h1, h2⟩ := h.inv
    rw [D.hashes, Bool.and_eq_true] at hh
    cases r with
    | cons r1 r2 => exact .cons (nested_of x I d v _ hh.1 h1 r1) (nesteds_of x I ds vr _ hh.2 h2 r2)
end
/-- the rows of a new set -/
theorem rows_of {K : Type} [DecidableEq K] {kf : D → K} {xs : List D} {vs : List V} {us : List Value} {cl : D → Bool} (hcl : ∀ x ∈ xs, cl x = true) (inj : ∀ a b, cl a = true → cl b = true → kf a = kf b → a = b) (hl : vs.length = xs.length) (r : Vals vs us) {L : List (K × Value)} (nd : (L.map (·.1)).Nodup) (g1 : SQ.Has ((xs.map kf).zip us) ((xs.map kf).zip us).length L) :
    ∃ ps : List (D × V), Vals (ps.map (·.2)) (L.map (·.2)) ∧ (ps.map fun p => kf p.1) = L.map (·.1) ∧ (∀ p ∈ ps, p ∈ xs.zip vs) ∧ (ps.map (·.1)).Perm (dedup xs) := by
  have hlu := r.length
  have src : ∀ q ∈ L, ∃ p ∈ xs.zip vs, kf p.1 = q.1 ∧ RelV p.2 q.2 := fun q hq => by
    have hm := List.mem_of_mem_take (g1.sub q hq)
    obtain ⟨i, hi⟩ := List.mem_iff_getElem?.mp hm
    rw [List.getElem?_zip_eq_some] at hi
    obtain ⟨h1, h2⟩ := hi
    rw [List.getElem?_map, Option.map_eq_some_iff] at h1
    obtain ⟨x, hx, e⟩ := h1
    have il : i < vs.length := by rw [hl]; exact (List.getElem?_eq_some_iff.mp hx).1
    obtain ⟨u, hu, ru⟩ := r.get (List.getElem?_eq_getElem il)
    rw [h2] at hu
    cases hu
    exact ⟨(x, vs[i]), List.mem_of_getElem? (List.getElem?_zip_eq_some.mpr ⟨hx, List.getElem?_eq_getElem il⟩), e, ru⟩
  obtain ⟨ps, h1, h2⟩ := choose_rows (R := fun (p : D × V) (q : K × Value) => kf p.1 = q.1 ∧ RelV p.2 q.2) L src
  have hk := paired_keys (f := fun p : D × V => kf p.1) (u := fun q : K × Value => q.1) (fun p q h => h.1) h1
  have in_xs : ∀ p ∈ ps, p.1 ∈ xs := fun p hp => (List.of_mem_zip (h2 p hp)).1
  refine ⟨ps, paired_vals (fun p q h => h.2) h1, hk, h2, ?_⟩
  have nd1 : (ps.map (·.1)).Nodup := by
    have : ((ps.map (·.1)).map kf).Nodup := by rw [List.map_map]; exact hk ▸ nd
    exact nodup_of_map this
  refine (List.perm_ext_iff_of_nodup nd1 (nodup_dedup xs)).mpr fun x => ⟨fun h => ?_, fun h => ?_⟩
  · obtain ⟨p, hp, rfl⟩ := List.mem_map.mp h
    exact mem_dedup.mpr (in_xs p hp)
  · have hx := mem_dedup.mp h
    obtain ⟨i, hi⟩ := List.mem_iff_getElem?.mp hx
    have il : i < xs.length := (List.getElem?_eq_some_iff.mp hi).1
    have iu : i < us.length := by rw [← hlu, hl]; exact il
    have hm : (kf x, us[i]) ∈ (xs.map kf).zip us := List.mem_of_getElem? (i := i) (List.getElem?_zip_eq_some.mpr ⟨by rw [List.getElem?_map, hi]; rfl, List.getElem?_eq_getElem iu⟩)
    have := g1.all _ (by rw [List.take_length]; exact hm)
    rw [← hk] at this
    obtain ⟨p, hp, e⟩ := List.mem_map.mp this
    have : p.1 = x := inj _ _ (hcl _ (in_xs p hp)) (hcl _ hx) e
    exact List.mem_map.mpr ⟨p, hp, this⟩
theorem set_make (x : XOk g k X) (hso : g.so = soF g.P g.w) : CallR X (.type "set") (rBf g .set) := by
  intro pins s σ H xs us Q I r h
  obtain ⟨ρ, st, ds, d, hs, hd, e, post⟩ := h
  obtain ⟨a, rfl⟩ : ∃ a, ds = [a] := by
    match ds, e with
    | [], e => simp [bfD] at e
    | [a], _ => exact ⟨a, rfl⟩
    | _ :: _ :: _, e => simp [bfD] at e
  have e : (itemsOf st a).bind setD = some d := by simpa [bfD] using e
  obtain ⟨v, rfl, hv⟩ := hd.inv1
  rw [Option.bind_eq_some_iff] at e
  obtain ⟨zs, e1, e2⟩ := e
  obtain ⟨l, vs, rfl, hq, rd⟩ := itemsOf_sq2 hs hv e1
  obtain ⟨u, rfl, ru⟩ := vals1 r
  cases ru
  unfold setD at e2
  split at e2
  · rename_i hc
    rw [Bool.and_eq_true, Bool.or_eq_true, decide_eq_true_eq, List.all_eq_true, List.all_eq_true] at hc
    obtain ⟨hcl, hlen⟩ := hc
    cases e2
    have hh : X.A.handled = none := I.ok.hd x.calm
    have hroom := x.room.un
    -- the new set
    have done : ∀ (h' : Heap) (tk : Nat) (ps : List (D × V)), SO X.prog X.w ps s.heap.objs.size h' → (∀ b o, s.heap.get? b = some o → h'.get? b = some o) → (∀ p ∈ ps, p ∈ zs.zip vs) → (ps.map (·.1)).Perm (dedup zs) → EP X pins σ Q (.ref s.heap.objs.size) { s with heap := h', toks := tk } := by
      intro h' tk ps so kp m1 m2
      have hn : H s.heap.objs.size = none := I.hok.fresh (Nat.le_refl _)
      refine ⟨.ref s.heap.objs.size, upd H s.heap.objs.size (soF X.prog X.w ps s.heap.objs.size), I.laid (t' := tk) kp (Nat.le_refl _) (so_new so), rfl, ?_⟩
      refine post.lay hs hn ?_
      rw [RD]
      refine ⟨_, vs, ps, rfl, hs.notIn hn, ?_, RDs.mono (Ext.lay hn) _ _ rd, m1, m2⟩
      rw [upd_same, hso, x.hP, x.hw]
    -- the items
    have go : ∀ (its : List Value), Vals vs its → (∀ {K : Type} [DecidableEq K] (kd : SQ.Kd K), SQ.Laws X.prog X.w kd → kd.room X.A.in1.in1.in1 → ∀ ks : List (K × Value), its = ks.map (·.2) → (∀ p ∈ ks, kd.isv s.heap p.1 p.2) → ks.length < 64 → ∀ {Q' : Value → Shared → Prop},
        (∀ (h' : Heap) (tk : Nat) L es ep t, SQ.SetQ X.w kd h' s.heap.objs.size L es ep t → SQ.Has ks ks.length L → (∀ b o, s.heap.get? b = some o → h'.get? b = some o) → Q' (.ref s.heap.objs.size) { s with heap := h', toks := tk }) → wpAny (model X.prog X.w) X.A (call (.type "set") [.ref l]) Q' X.xe s) →
        wpAny (model X.prog X.w) X.A (call (.type "set") [.ref l]) (EP X pins σ Q) X.xe s := by
      intro its rv call_
      have lv := rd.len
      have li := rv.length
      have zip2 : ∀ {K : Type} (kf : D → K), its = ((zs.map kf).zip its).map (·.2) := fun kf => (List.map_snd_zip (by rw [List.length_map]; omega)).symm
      have zlen : ∀ {K : Type} (kf : D → K), ((zs.map kf).zip its).length = zs.length := fun kf => by rw [List.length_zip, List.length_map]; omega
      rcases hcl with hcl | hcl
      · refine call_ (SQ.mixK X.prog X.w) SQ.mix_laws trivial ((zs.map D.key).zip its) (zip2 _) (fun p hp => ?_) (by rw [zlen]; exact hlen) fun h' tk L es ep t R g1 kp => ?_
        · obtain ⟨i, hi⟩ := List.mem_iff_getElem?.mp hp
          rw [List.getElem?_zip_eq_some] at hi
          obtain ⟨h1, h2⟩ := hi
          rw [List.getElem?_map, Option.map_eq_some_iff] at h1
          obtain ⟨y, hy, ey⟩ := h1
          obtain ⟨v2, hv2, rv2⟩ := rd.get hy
          obtain ⟨u2, hu2, ru2⟩ := rv.get hv2
          rw [h2] at hu2
          cases hu2
          have sc := hcl y (List.mem_of_getElem? hy)
          show (mixKind X.prog X.w).is p.1 p.2 = true
          rw [← ey]
          cases y <;> first | (cases sc; done) | skip
          · rw [RD.int_] at rv2
            subst rv2
            obtain ⟨tk, et⟩ := ru2
            rw [et]
            exact mixKind_int _ _ _ _
          · rw [RD.str_] at rv2
            subst rv2
            obtain ⟨tk, et⟩ := ru2
            rw [et]
            exact mixKind_str _ _ _ _
        · obtain ⟨ps, p1, p2, p3, p4⟩ := rows_of (kf := D.key) hcl (fun a b ha hb e => key_inj ha hb e) lv rv R.nd g1
          refine done h' tk ps ?_ kp p3 p4
          obtain ⟨o, ho, hex, hdat⟩ := R.ob
          refine ⟨o, es, ep, t, ho, hex, hdat, R.fits, R.ris, R.led, by have := congrArg List.length p2; rw [List.length_map, List.length_map] at this; have := R.few; omega, ⟨L.map (·.2), by rw [R.rows, List.map_map]; rfl, p1⟩, fun _ => ⟨L, p2.symm, R.rows, R.is_⟩⟩
      · refine call_ (SQ.tupK X.prog X.w) SQ.tup_laws (by show X.A.units + 1 + 1 + 1 + 8 < cLine; omega) ((zs.map D.nk).zip its) (zip2 _) (fun p hp => ?_) (by rw [zlen]; exact hlen) fun h' tk L es ep t R g1 kp => ?_
        · obtain ⟨i, hi⟩ := List.mem_iff_getElem?.mp hp
          rw [List.getElem?_zip_eq_some] at hi
          obtain ⟨h1, h2⟩ := hi
          rw [List.getElem?_map, Option.map_eq_some_iff] at h1
          obtain ⟨y, hy, ey⟩ := h1
          obtain ⟨v2, hv2, rv2⟩ := rd.get hy
          obtain ⟨u2, hu2, ru2⟩ := rv.get hv2
          rw [h2] at hu2
          cases hu2
          have sc := hcl y (List.mem_of_getElem? hy)
          obtain ⟨ys, rfl, hys, hdep⟩ := tupH_inv sc
          have hn := nested_of x I _ _ _ (tupH_hash sc) rv2 ru2
          rw [RD.tup_] at rv2
          obtain ⟨b, _, rfl, _, _⟩ := rv2
          have eu : p.2 = .ref b := ru2
          refine ⟨b, eu, ?_, ?_⟩
          · rw [← ey, ← eu]; exact hn
          · rw [← ey, nk_depth]; exact hdep
        · obtain ⟨ps, p1, p2, p3, p4⟩ := rows_of (kf := D.nk) hcl (fun a b ha hb e => nk_inj a b (tupH_hash ha) (tupH_hash hb) e) lv rv R.nd g1
          refine done h' tk ps ?_ kp p3 p4
          obtain ⟨o, ho, hex, hdat⟩ := R.ob
          refine ⟨o, es, ep, t, ho, hex, hdat, R.fits, R.ris, R.led, by have := congrArg List.length p2; rw [List.length_map, List.length_map] at this; have := R.few; omega, ⟨L.map (·.2), by rw [R.rows, List.map_map]; rfl, p1⟩, fun hsc => ?_⟩
          cases ps with
          | nil => exact ⟨[], rfl, by have : L = [] := List.map_eq_nil_iff.mp p2.symm; rw [R.rows, this]; rfl, fun q hq => (by cases hq)⟩
          | cons p ps =>
            have h1 := hsc p List.mem_cons_self
            have h2 := hcl _ (List.of_mem_zip (p3 p List.mem_cons_self)).1
            obtain ⟨ys, e3, _⟩ := tupH_inv h2
            rw [e3] at h1
            cases h1
    rcases hq with ⟨_, hq⟩ | ⟨_, hq⟩
    · obtain ⟨its, rv, p, _⟩ := I.list (x.eqL hq)
      exact go its rv fun {K} _ kd Lw hu ks e3 hk few {Q'} q => SQ.set_of_list Lw ks hh p.isList (by simpa using e3) hk few hu q
    · obtain ⟨its, rv, p, _⟩ := I.tuple (x.eqK hq)
      exact go its rv fun {K} _ kd Lw hu ks e3 hk few {Q'} q => SQ.set_of_tuple Lw ks hh (show s.heap.IsTuple l its.toArray from p) (by simpa using e3) hk few hu q
  · cases e2
end
end MP
end
section
set_option Elab.async false
set_option linter.all false
set_option maxRecDepth 100000
set_option maxHeartbeats 4000000
/-! MQd: len(set), sorted(..). -/
namespace MP
open PySem PySem.Spec PyProof.Rows L2
section
variable {X : Cx} {g : GC} {k : Nat}
theorem set_parts (x : XOk g k X) (hso : g.so = soF g.P g.w) {pins : List (Addr × Obj)} {σ : L2.St} {H : Hp} {s : Shared} (I : Inv X pins σ H s) {ρ : Rw} {as : List D} {v : V} (h : RD g ρ H (.set as) v) :
    ∃ a vs ps, v = .ref a ∧ RDs g ρ H as vs ∧ (∀ p ∈ ps, p ∈ as.zip vs) ∧ (ps.map (·.1)).Perm (dedup as) ∧ SO X.prog X.w ps a s.heap := by
  rw [RD] at h
  obtain ⟨a, vs, ps, rfl, _, ha, rd, m1, m2⟩ := h
  rw [hso, ← x.hP, ← x.hw] at ha
  exact ⟨a, vs, ps, rfl, rd, m1, m2, so_get I ha⟩
theorem set_len (x : XOk g k X) (hso : g.so = soF g.P g.w) : CallR X (.builtin "len") (fun xs H Q => ∃ ρ st as v, xs = [v] ∧ RS g ρ st H ∧ RD g ρ H (.set as) v ∧ Q (.int (dedup as).length) H) := by
  intro pins s σ H xs us Q I r h
  obtain ⟨ρ, st, as, v, rfl, hs, hd, q⟩ := h
  obtain ⟨a, vs, ps, rfl, rd, m1, m2, so⟩ := set_parts x hso I hd
  obtain ⟨u, rfl, ru⟩ := vals1 r
  cases ru
  obtain ⟨o, es, ep, t, ho, hex, hdat, fits, _, _, few, ⟨us, e1, rv⟩, _⟩ := so
  have sz : es.size = (dedup as).length := by
    have h1 := congrArg List.length e1
    have h2 := rv.length
    have h3 := m2.length_eq
    rw [List.length_map, Array.length_toList] at h1
    rw [List.length_map] at h2 h3
    omega
  have lt : ps.length = (dedup as).length := by have := m2.length_eq; rw [List.length_map] at this; exact this
  refine call_len_set ho hex hdat fits (by rw [sz, ← lt]; omega) ⟨.int (dedup as).length, H, I.tok _, ⟨_, by rw [sz]⟩, q⟩
/-- a value stands for one of the items -/
abbrev Is (g : GC) (ρ : Rw) (H : Hp) (u : Value) (d : D) : Prop := ∃ v, RelV v u ∧ RD g ρ H d v
theorem is_all {ρ : Rw} {H : Hp} : ∀ {ds : List D} {vs : List V} {us : List Value}, RDs g ρ H ds vs → Vals vs us → W.EachIs (Is g ρ H) us ds
  | [], vs, us, h, r => by
    rw [h.inv0] at r
    cases r
    exact .nil
  | d :: ds, vs, us, h, r => by
    obtain ⟨v, vr, rfl, h1, h2⟩ := h.inv
    cases r with
    | cons r1 r2 => exact .cons ⟨v, r1, h1⟩ (is_all h2 r2)
theorem is_back {ρ : Rw} {H : Hp} : ∀ {us : List Value} {ds : List D}, W.EachIs (Is g ρ H) us ds → ∃ vs, RDs g ρ H ds vs ∧ Vals vs us
  | _, _, .nil => ⟨[], RDs.nil, .nil⟩
  | _, _, .cons ⟨v, r, h⟩ t => by
    obtain ⟨vs, h1, h2⟩ := is_back t
    exact ⟨v :: vs, RDs.cons h h1, .cons r h2⟩
theorem enc_of {xs : List D} {ds : List PyData} (e : D.pys xs = some ds) {a : D} (ha : a ∈ xs) : D.pyD a ∈ ds ∧ D.py a = some (D.pyD a) := by
  obtain ⟨p, h1, h2⟩ := pys_mem e ha
  have : D.pyD a = p := by unfold D.pyD; rw [h1]; rfl
  rw [this]
  exact ⟨h2, h1⟩
theorem reads_at (x : XOk g k X) {pins : List (Addr × Obj)} {σ : L2.St} {H : Hp} {s : Shared} (I : Inv X pins σ H s) {ρ : Rw} {d : D} {u : Value} {p : PyData} (h : Is g ρ H u d) (e : D.py d = some p) : ∃ as, Reads s.heap u p as := by
  obtain ⟨v, r, rd⟩ := h
  exact Dp.reads I p v u (x.dp (RD.dp d v p rd e)) r
/-- what a sort is asked for -/
structure SortOk (xs : List D) (zs : List D) : Prop where
  ds : ∃ ds, D.pys xs = some ds ∧ alikeP ds = true ∧ sortableP ds = true ∧ (∀ d ∈ ds, d.depth ≤ 20)
  len : xs.length ≤ sizeLine
  eq : zs = xs.mergeSort (W.dataLe false D.pyD)
theorem sortD_ok {xs zs : List D} (h : sortD xs = some zs) : SortOk xs zs := by
  unfold sortD at h
  split at h
  · rename_i ds e
    split at h
    · rename_i hc
      simp only [Bool.and_eq_true, decide_eq_true_eq, List.all_eq_true] at hc
      obtain ⟨⟨⟨h1, h2⟩, h3⟩, h4⟩ := hc
      cases h
      exact ⟨⟨ds, e, h1, h2, fun d hd => (h3 d hd).2⟩, h4, rfl⟩
    · cases h
  · cases h
theorem sort_core (x : XOk g k X) {pins : List (Addr × Obj)} {σ : L2.St} {H : Hp} {s : Shared} {ρ : Rw} {st : Sto} {xs zs : List D} {a : Addr} {Q : VK} (I : Inv X pins σ H s) (hs : RS g ρ st H) (so : SortOk xs zs) (post : Pst g ρ H st (.lst zs) Q)
    (col : ∀ (E' : Value → Shared → Prop) (Q' : List Value → Shared → Prop), (∀ s1 us bs, Inv X pins σ H s1 → W.EachIs (Is g ρ H) us bs → bs.Perm xs → (bs = xs ∨ ∀ d ∈ xs, D.hash d = true) → Q' us s1) → wpAny (model X.prog X.w) X.A.in1 (collect (.ref a)) Q' E' s) :
    wpAny (model X.prog X.w) X.A (call (.builtin "sorted") [.ref a]) (EP X pins σ Q) X.xe s := by
  obtain ⟨ds, e, al, sb, dep⟩ := so.ds
  refine Calls.call_function_entry kind_sorted plain_sorted entry_sorted (args_sorted1 _) ?_
  unfold Builtin.«sorted»
  refine wpAny_bind (m := checkCount "sorted" 1 1 _) (wpAny_pure (wpAny_bind (col _ _ fun s1 us bs I1 ei pm hor => ?_)))
  have hul : us.length = bs.length := ei.length
  have hbl : bs.length = xs.length := pm.length_eq
  have hL : us.length ≤ sizeLine := by rw [hul, hbl]; exact so.len
  refine wpAny_bind (wpAny_newList ?_ hL)
  have hoL : (s1.heap.push (seqObj "list" us.toArray 0)).get? s1.heap.objs.size = some (seqObj "list" us.toArray 0) := Heap.get?_push_size _ rfl
  have mem : ∀ b ∈ bs, b ∈ xs := fun b hb => pm.mem_iff.mp hb
  have hal : W.AllAlike (bs.map D.pyD) := by
    intro d hd d' hd'
    obtain ⟨b, hb, rfl⟩ := List.mem_map.mp hd
    obtain ⟨b', hb', rfl⟩ := List.mem_map.mp hd'
    exact List.all_eq_true.mp (List.all_eq_true.mp al _ (enc_of e (mem b hb)).1) _ (enc_of e (mem b' hb')).1
  have hk : W.Sortable (bs.map D.pyD) := by
    unfold sortableP at sb
    rw [Bool.or_eq_true, List.all_eq_true, List.all_eq_true] at sb
    rcases sb with sb | sb
    · refine .inl fun d hd => ?_
      obtain ⟨b, hb, rfl⟩ := List.mem_map.mp hd
      have := sb _ (enc_of e (mem b hb)).1
      split at this
      · rename_i y r q
        exact ⟨y, r, q⟩
      · cases this
    · refine .inr fun d hd => ?_
      obtain ⟨b, hb, rfl⟩ := List.mem_map.mp hd
      have := sb _ (enc_of e (mem b hb)).1
      constructor
      · intro z
        rw [z] at this
        cases this
      · intro ys z
        rw [z] at this
        cases this
  have old : ∀ b u, s1.heap.get? b = some u → (W.sortingHeap (s1.heap.push (seqObj "list" us.toArray 0)) s1.heap.objs.size us).get? b = some u := fun b u q => by
    exact W.sortingHeap_old (Nat.ne_of_lt (Heap.lt_size q)) (Heap.get?_push_of_some _ q)
  have er : W.EachIs (fun v b => ∃ as, Reads (W.sortingHeap (s1.heap.push (seqObj "list" us.toArray 0)) s1.heap.objs.size us) v (D.pyD b) as) us bs := (W.each_mem ei).mono fun u b ⟨h1, h2⟩ => by
    obtain ⟨as, r⟩ := reads_at x I1 h1 (enc_of e (mem b h2)).2
    exact ⟨as, PyProof.Rows.Reads.keeps old r⟩
  have hu : ∀ d, d ∈ bs.map D.pyD → X.A.in1.in1.units + d.depth < cLine := fun d hd => by
    obtain ⟨b, hb, rfl⟩ := List.mem_map.mp hd
    have h1 := dep _ (enc_of e (mem b hb)).1
    have h2 := x.room.un
    show X.A.units + 1 + 1 + _ < cLine
    omega
  refine wpAny_bind (wpAny_holding (wpAny_call_entry slot_list_sort ⟨_, hoL, rfl⟩ entry_list_sort (W.list_sort_vals (κ := W.dataKind (W.sortingHeap (s1.heap.push (seqObj "list" us.toArray 0)) s1.heap.objs.size us) (bs.map D.pyD)) (s := { s1 with heap := s1.heap.push (seqObj "list" us.toArray 0) }) hoL
    (W.SortsAt.data (s := { s1 with heap := W.sortingHeap (s1.heap.push (seqObj "list" us.toArray 0)) s1.heap.objs.size us }) (W.each_map (R := fun v d => ∃ as, Reads (W.sortingHeap (s1.heap.push (seqObj "list" us.toArray 0)) s1.heap.objs.size us) v d as) D.pyD er) hal hk hu) hL ⟨_, rfl, ?_⟩) (args_list_sort _)))
  have out := W.sortVals_data (h' := W.sortingHeap (s1.heap.push (seqObj "list" us.toArray 0)) s1.heap.objs.size us) false ei er hal
  generalize W.sortVals (W.dataKind (W.sortingHeap (s1.heap.push (seqObj "list" us.toArray 0)) s1.heap.objs.size us) (bs.map D.pyD)) false us us = ws at out
  have sorted : bs.mergeSort (W.dataLe false D.pyD) = zs := by
    rw [so.eq]
    rcases hor with h | h
    · rw [h]
    · exact sort_perm pm e al h
  rw [sorted] at out
  obtain ⟨vs, rd, rv⟩ := is_back out
  obtain ⟨c, hc⟩ := sortedHeap_at (vs := us) (out := ws.toArray) hoL
  have hn : H s1.heap.objs.size = none := I1.hok.fresh (Nat.le_refl _)
  have kp : ∀ b u, s1.heap.get? b = some u → (sortedHeap (s1.heap.push (seqObj "list" us.toArray 0)) s1.heap.objs.size us ws.toArray).get? b = some u := fun b u q => by
    have lt := Heap.lt_size q
    rw [sortedHeap_old (Nat.ne_of_lt lt) (by rw [size_push']; exact Nat.lt_succ_of_lt lt)]
    exact Heap.get?_push_of_some _ q
  have hlen : vs.length ≤ sizeLine := by
    rw [rd.len, so.eq, List.length_mergeSort]
    exact so.len
  exact wpAny_pure ⟨_, rfl, ⟨.ref s1.heap.objs.size, upd H s1.heap.objs.size (.lst vs), I1.laid (t' := s1.toks) kp (Nat.le_refl _) ⟨hlen, ws, c, rv, hc⟩, rfl, post.lay hs hn (RD.lst_.mpr ⟨_, vs, rfl, hs.notIn hn, upd_same, RDs.mono (Ext.lay hn) _ _ rd⟩)⟩⟩
theorem hashes_mem : ∀ {xs : List D} {a : D}, D.hashes xs = true → a ∈ xs → D.hash a = true
  | x :: xs, a, h, m => by
    rw [D.hashes, Bool.and_eq_true] at h
    rcases List.mem_cons.mp m with rfl | m
    · exact h.1
    · exact hashes_mem h.2 m
theorem perm_is {ρ : Rw} {H : Hp} : ∀ {us ws : List Value}, us.Perm ws → ∀ {ds : List D}, W.EachIs (Is g ρ H) ws ds → ∃ bs, bs.Perm ds ∧ W.EachIs (Is g ρ H) us bs := by
  intro us ws h
  induction h with
  | nil => intro ds e; exact ⟨ds, List.Perm.refl _, e⟩
  | @cons x l m h ih =>
    intro ds e
    cases e with
    | cons r t =>
      obtain ⟨bs, p, q⟩ := ih t
      exact ⟨_, p.cons _, .cons r q⟩
  | @swap x y l =>
    intro ds e
    cases e with
    | cons r t =>
      cases t with
      | cons r2 t => exact ⟨_, List.Perm.swap _ _ _, .cons r2 (.cons r t)⟩
  | trans h1 h2 ih1 ih2 =>
    intro ds e
    obtain ⟨b2, p2, q2⟩ := ih2 e
    obtain ⟨b1, p1, q1⟩ := ih1 q2
    exact ⟨b1, p1.trans p2, q1⟩
theorem set_sort (x : XOk g k X) (hso : g.so = soF g.P g.w) : CallR X (.builtin "sorted") (rBf g .sorted) := by
  intro pins s σ H xs us Q I r h
  obtain ⟨ρ, st, ds, d, hs, hd, e, post⟩ := h
  have hh : X.A.in1.handled = none := I.ok.hd x.calm
  obtain ⟨a, rfl⟩ : ∃ a, ds = [a] := by
    match ds, e with
    | [], e => simp [bfD] at e
    | [a], _ => exact ⟨a, rfl⟩
    | _ :: _ :: _, e => simp [bfD] at e
  by_cases hset : ∃ as, a = .set as
  · -- a set
    obtain ⟨as, rfl⟩ := hset
    have e : (if D.hashes as = true then (sortD (dedup as)).map D.lst else none) = some d := by simpa [bfD] using e
    split at e <;> first | (cases e; done) | skip
    rename_i hhs
    rw [Option.map_eq_some_iff] at e
    obtain ⟨zs, e1, rfl⟩ := e
    obtain ⟨v, rfl, hv⟩ := hd.inv1
    obtain ⟨a, vs, ps, rfl, rd, m1, m2, so⟩ := set_parts x hso I hv
    obtain ⟨u, rfl, ru⟩ := vals1 r
    cases ru
    obtain ⟨o, es, ep, t, ho, hex, hdat, fits, ris, led, few, ⟨ws, f1, rv⟩, _⟩ := so
    have sok := sortD_ok e1
    have sz : es.size = ps.length := by
      have h1 := congrArg List.length f1
      have h2 := rv.length
      rw [List.length_map, Array.length_toList] at h1
      rw [List.length_map] at h2
      omega
    have each : W.EachIs (Is g ρ H) ws (ps.map (·.1)) := by
      refine is_all (vs := ps.map (·.2)) ?_ rv
      have go : ∀ ps : List (D × V), (∀ p ∈ ps, p ∈ as.zip vs) → RDs g ρ H (ps.map (·.1)) (ps.map (·.2)) := by
        intro ps
        induction ps with
        | nil => intro _; exact RDs.nil
        | cons p ps ih => intro h; exact RDs.cons (rd.mem (h p List.mem_cons_self)) (ih fun q hq => h q (List.mem_cons_of_mem _ hq))
      exact go ps m1
    have hsh : ∀ a ∈ dedup as, D.hash a = true := fun a ha => hashes_mem hhs (mem_dedup.mp ha)
    refine sort_core x I hs sok post fun E' Q' q => ?_
    refine collect_set hh ⟨o, ho, hex.1, hdat⟩ fits (by unfold scanBound; omega) ris led fun s1 out k1 hz g1 o1 pm => ?_
    rw [f1] at pm
    obtain ⟨bs, p1, p2⟩ := perm_is pm each
    have es1 : s1 = { s with heap := s1.heap, gens := s1.gens, drawn := s1.drawn, toks := s1.toks } := by
      cases s1
      cases s
      cases o1
      rfl
    have J : Inv X pins σ H { s with heap := s1.heap, gens := s1.gens, drawn := s1.drawn, toks := s1.toks } := I.call (ch := []) (Un.kept k1) (I.hok.kept k1) (by rw [g1]; exact I.bare) (fun _ z => nomatch z)
    rw [← es1] at J
    exact q s1 out bs J p2 (p1.trans m2) (.inr hsh)
  · -- a list, a tuple
    have e : ((itemsOf st a).bind sortD).map D.lst = some d := by
      cases a with
      | set as => exact absurd ⟨as, rfl⟩ hset
      | _ => simpa [bfD] using e
    rw [Option.map_eq_some_iff] at e
    obtain ⟨zs, e1, rfl⟩ := e
    rw [Option.bind_eq_some_iff] at e1
    obtain ⟨ys, e2, e3⟩ := e1
    obtain ⟨v, rfl, hv⟩ := hd.inv1
    obtain ⟨l, vs, rfl, hq, rd⟩ := itemsOf_sq2 hs hv e2
    obtain ⟨u, rfl, ru⟩ := vals1 r
    cases ru
    have sok := sortD_ok e3
    have go : ∀ {T : String} {o : Obj} {its : List Value} {n : Nat}, (T = "list" ∨ T = "tuple") → s.heap.get? l = some o → o.cls = .type T → o.data = .seq its.toArray n → Vals vs its → wpAny (model X.prog X.w) X.A (call (.builtin "sorted") [.ref l]) (EP X pins σ Q) X.xe s := by
      intro T o its n hT ho hc hdat rv
      have hz : its.toArray.size ≤ sizeLine := by rw [List.size_toArray, ← rv.length, rd.len]; exact sok.len
      refine sort_core x I hs sok post fun E' Q' q => ?_
      refine wpAny_collect_seq l hT ho hc hdat (fun h' kp => ?_) hz
      exact q { s with heap := h' } its ys (I.kept (t' := s.toks) kp) (is_all rd rv) (List.Perm.refl _) (.inl rfl)
    rcases hq with ⟨_, hq⟩ | ⟨_, hq⟩
    · obtain ⟨its, rv, p, _⟩ := I.list (x.eqL hq)
      obtain ⟨o, ho, hc, n, hdat⟩ := p.isList
      exact go (.inl rfl) ho hc hdat rv
    · obtain ⟨its, rv, p, _⟩ := I.tuple (x.eqK hq)
      obtain ⟨o, ho, hc, n, hdat⟩ := (show s.heap.IsTuple l its.toArray from p)
      exact go (.inr rfl) ho hc hdat rv
end
end MP
end
section
set_option Elab.async false
set_option linter.all false
set_option maxRecDepth 100000
set_option maxHeartbeats 4000000
/-! MQk: set | set in the layer; all rules of sets. -/
namespace MP
open PySem PySem.Spec PyProof.Rows L2
theorem entry_s_or : entryFor table "set.__or__" = some Builtin.«frozenset.__or__» :=
  entryFor_alias (id' := "frozenset.__or__") (by kernel_rfl) rfl (by decide +kernel) (by kernel_rfl)
theorem len_dedup : ∀ xs : List D, (dedup xs).length ≤ xs.length
  | [] => Nat.le_refl _
  | y :: r => by
    have := len_dedup r
    unfold dedup
    split
    · rw [List.length_cons]; omega
    · rw [List.length_cons, List.length_cons]; omega
theorem so_rows {P : Program} {w : World} {ps : List (D × V)} {a : Addr} {h : Heap} (so : SO P w ps a h) (sc : ∀ p ∈ ps, p.1.scal = true) (nd : (ps.map (·.1)).Nodup) :
    ∃ L es ep t, SQ.SetQ w (SQ.mixK P w) h a L es ep t ∧ L.length = ps.length ∧ (∀ q ∈ L, ∃ p ∈ ps, p.1.key = q.1 ∧ RelV p.2 q.2) ∧ (∀ p ∈ ps, p.1.key ∈ L.map (·.1)) := by
  obtain ⟨o, es, ep, t, ho, hex, hd, fits, ris, led, few, ⟨us, e1, rv⟩, k⟩ := so
  obtain ⟨L, l1, l2, l3⟩ := k sc
  have len : L.length = ps.length := by simpa using congrArg List.length l1
  have nk : (L.map (·.1)).Nodup := by
    rw [l1]
    have : (ps.map fun p => p.1.key) = (ps.map (·.1)).map D.key := by rw [List.map_map]; rfl
    rw [this]
    refine List.pairwise_map.mpr (List.Pairwise.imp_of_mem ?_ nd)
    intro x y hx hy ne e
    refine ne ?_
    obtain ⟨p, hp, rfl⟩ := List.mem_map.mp hx
    obtain ⟨r, hr, rfl⟩ := List.mem_map.mp hy
    exact key_inj (sc p hp) (sc r hr) e
  refine ⟨L, es, ep, t, ⟨⟨o, ho, hex, hd⟩, l2, nk, l3, fits, ris, led, by omega, trivial⟩, len, fun q hq => ?_, fun p hp => ?_⟩
  · obtain ⟨i, hi⟩ := List.mem_iff_getElem?.mp hq
    have il : i < ps.length := by rw [← len]; exact (List.getElem?_eq_some_iff.mp hi).1
    refine ⟨ps[i], List.getElem_mem il, ?_, ?_⟩
    · have h1 := congrArg (fun l => l[i]?) l1
      simp only [List.getElem?_map, hi, List.getElem?_eq_getElem il, Option.map_some, Option.some.injEq] at h1
      exact h1.symm
    · have h2 : (ps.map (·.2))[i]? = some ps[i].2 := by rw [List.getElem?_map, List.getElem?_eq_getElem il]; rfl
      obtain ⟨u, hu, ru⟩ := rv.get h2
      rw [← e1, l2, List.map_map, List.getElem?_map, hi] at hu
      cases hu
      exact ru
  · rw [l1]
    exact List.mem_map.mpr ⟨p, hp, rfl⟩
section
variable {X : Cx} {g : GC} {k : Nat}
theorem set_uni (x : XOk g k X) (hso : g.so = soF g.P g.w) : OpR X (binaryOp .BitOr) (rUni g) := by
  intro pins s σ H v u v1 u1 Q I rv ru r
  obtain ⟨ρ, st, as, bs, hs, ha, hb, ⟨sc, fa, fb⟩, post⟩ := r
  obtain ⟨a, vs, ps, rfl, rd, m1, m2, so⟩ := set_parts x hso I ha
  obtain ⟨b, vs2, ps2, rfl, rd2, n1, n2, so2⟩ := set_parts x hso I hb
  cases rv
  cases ru
  rw [List.all_append, Bool.and_eq_true, List.all_eq_true, List.all_eq_true] at sc
  have in1 : ∀ p ∈ ps, p.1 ∈ as := fun p hp => (List.of_mem_zip (m1 p hp)).1
  have in2 : ∀ p ∈ ps2, p.1 ∈ bs := fun p hp => (List.of_mem_zip (n1 p hp)).1
  have nd1 : (ps.map (·.1)).Nodup := m2.nodup_iff.mpr (nodup_dedup as)
  have nd2 : (ps2.map (·.1)).Nodup := n2.nodup_iff.mpr (nodup_dedup bs)
  have c1 : ps.length ≤ 4 := by
    have h1 := m2.length_eq
    have h2 := len_dedup as
    rw [List.length_map] at h1
    omega
  have c2 : ps2.length ≤ 4 := by
    have h1 := n2.length_eq
    have h2 := len_dedup bs
    rw [List.length_map] at h1
    omega
  obtain ⟨L, es, ep, t, R, len, back, fore⟩ := so_rows so (fun p hp => sc.1 _ (in1 p hp)) nd1
  obtain ⟨L2, es2, ep2, t2, R2, len2, back2, fore2⟩ := so_rows so2 (fun p hp => sc.2 _ (in2 p hp)) nd2
  have lv := rd.len
  have lv2 := rd2.len
  have zz : (as ++ bs).zip (vs ++ vs2) = as.zip vs ++ bs.zip vs2 := List.zip_append (by omega)
  refine wpAny_binaryOp_same (op := .BitOr) (SQ.type_set R) (SQ.type_set R2) F.fills_set_or F.slot_set_or ?_
  refine wpAny_call_entry F.slot_set_or (SQ.type_set R) entry_s_or ?_ (F.args_set_or_2 _ _)
  refine SQ.or_body R (by omega) R2 (by omega) fun h' L' es' ep' t' kp R' po => ?_
  refine ⟨_, rfl, by simp, ?_⟩
  obtain ⟨ps', h1, h2⟩ := choose_rows (R := fun (p : D × V) (q : _root_.L2.Key × Value) => p.1.key = q.1 ∧ RelV p.2 q.2) (Z := as.zip vs ++ bs.zip vs2) L' fun q hq => by
    rcases po.from_ q hq with c | c
    · obtain ⟨p, hp, e⟩ := back q c
      exact ⟨p, List.mem_append.mpr (.inl (m1 p hp)), e⟩
    · obtain ⟨p, hp, e⟩ := back2 q c
      exact ⟨p, List.mem_append.mpr (.inr (n1 p hp)), e⟩
  have hk : (ps'.map fun p => p.1.key) = L'.map (·.1) := paired_keys (f := fun p : D × V => p.1.key) (u := fun q : _root_.L2.Key × Value => q.1) (fun p q h => h.1) h1
  have hv : Vals (ps'.map (·.2)) (L'.map (·.2)) := paired_vals (fun p q h => h.2) h1
  have in_ : ∀ p ∈ ps', p.1 ∈ as ++ bs := fun p hp => by
    have := h2 p hp
    rw [← zz] at this
    exact (List.of_mem_zip this).1
  have scal : ∀ d ∈ as ++ bs, d.scal = true := fun d hd => (List.mem_append.mp hd).elim (sc.1 d) (sc.2 d)
  have pm : (ps'.map (·.1)).Perm (dedup (as ++ bs)) := by
    have nd' : (ps'.map (·.1)).Nodup := by
      have : ((ps'.map (·.1)).map D.key).Nodup := by rw [List.map_map]; exact hk ▸ R'.nd
      exact nodup_of_map this
    refine (List.perm_ext_iff_of_nodup nd' (nodup_dedup _)).mpr fun y => ⟨fun h => ?_, fun h => ?_⟩
    · obtain ⟨p, hp, rfl⟩ := List.mem_map.mp h
      exact mem_dedup.mpr (in_ p hp)
    · have hy := mem_dedup.mp h
      have hm : y.key ∈ L'.map (·.1) := by
        rcases List.mem_append.mp hy with c | c
        · obtain ⟨p, hp, rfl⟩ := List.mem_map.mp (m2.mem_iff.mpr (mem_dedup.mpr c))
          exact po.old _ (fore p hp)
        · obtain ⟨p, hp, rfl⟩ := List.mem_map.mp (n2.mem_iff.mpr (mem_dedup.mpr c))
          exact po.new _ (fore2 p hp)
      rw [← hk] at hm
      obtain ⟨p, hp, e⟩ := List.mem_map.mp hm
      exact List.mem_map.mpr ⟨p, hp, key_inj (scal _ (in_ p hp)) (scal _ hy) e⟩
  have so' : SO X.prog X.w ps' s.heap.objs.size h' := by
    obtain ⟨o, ho, hex, hdat⟩ := R'.ob
    have lk := congrArg List.length hk
    rw [List.length_map, List.length_map] at lk
    exact ⟨o, es', ep', t', ho, hex, hdat, R'.fits, R'.ris, R'.led, by have := R'.few; omega, ⟨L'.map (·.2), by rw [R'.rows, List.map_map]; rfl, hv⟩, fun _ => ⟨L', hk.symm, R'.rows, R'.is_⟩⟩
  have hn : H s.heap.objs.size = none := I.hok.fresh (Nat.le_refl _)
  refine ⟨.ref s.heap.objs.size, upd H s.heap.objs.size (soF X.prog X.w ps' s.heap.objs.size), I.laid (t' := s.toks) kp (Nat.le_refl _) (so_new so'), rfl, ?_⟩
  refine post.lay hs hn ?_
  rw [RD]
  refine ⟨_, vs ++ vs2, ps', rfl, hs.notIn hn, ?_, RDs.mono (Ext.lay hn) _ _ (rd.append rd2), fun p hp => by rw [zz]; exact h2 p hp, pm⟩
  rw [upd_same, hso, x.hP, x.hw]
theorem set_rules (x : XOk g (k + 1) X) (hso : g.so = soF g.P g.w) : SetRules g X := ⟨set_uni x hso, set_len x hso, set_make x hso, set_sort x hso⟩
end
end MP
end
section
set_option Elab.async false
set_option linter.all false
set_option maxRecDepth 100000
set_option maxHeartbeats 4000000
/-! MRh: heads: more facts, defs checked by one Boolean, the law's end. -/
namespace MP
open PySem PySem.Spec PyProof.Rows L2
/-- the i-th statement of a class -/
def clsSt (s : Stmt) (i : Nat) : Stmt := match s with
  | .ClassDef _ _ _ body _ _ _ _ _ _ _ => body.getD i (.Pass ⟨0, 0, 0, 0⟩)
  | _ => .Pass ⟨0, 0, 0, 0⟩
/-! ### more facts -/
/-- a name of the module stands for this value -/
def isVal (x : Str) (u : Value) (K : PySem.W.Frag) : Bool := He.eqO (PySem.W.nsIn K mainGlobals x) (some (some u))
theorem isVal_ok {K : PySem.W.Frag} {h : Heap} {mg : Str → Option Value} (X : K.In h) (G : h.Ns mainGlobals mg) {x : Str} {u : Value} (c : isVal x u K = true) : mg x = some u := PySem.W.mg_of X G (He.eqO_ok c)
def obsX (ex : PySem.W.Frag → Bool) (fa : List He.Fa) (fn : List He.DefD) (K : PySem.W.Frag) : Bool × He.AlD := (ex K, He.obsD fa fn K)
def hookX (n : Nat) (ex : PySem.W.Frag → Bool) (fa : List He.Fa) (fn : List He.DefD) : PySem.W.Hook where
  α := Bool × He.AlD
  obs := fun s => obsX ex fa fn (He.frG s.heap.get? (He.asD s.heap.get? n))
  val := fun _ => (true, He.valD fn)
  says := fun _ h => ∃ K : PySem.W.Frag, K.In h ∧ ex K = true ∧ He.SaysD fa fn K
  of := fun _ _ e => ⟨_, He.frG_in, congrArg Prod.fst e, congrArg Prod.snd e⟩
  keeps := fun _ _ _ ⟨K, hK, c⟩ k => ⟨K, PySem.W.Frag.In.keeps hK k, c⟩
def obsXG (n : Nat) (ex : PySem.W.Frag → Bool) (fa : List He.Fa) (fn : List He.DefD) (g : Addr → Option Obj) : Bool × He.AlD := obsX ex fa fn (He.frG g (He.asD g n))
theorem obsXG_eq {n : Nat} {ex : PySem.W.Frag → Bool} {fa : List He.Fa} {fn : List He.DefD} {g : Addr → Option Obj} {s : Shared} (h : ∀ a, g a = s.heap.get? a) : obsXG n ex fa fn g = (hookX n ex fa fn).obs s := by
  have e : g = s.heap.get? := funext h
  rw [e] <;> rfl
/-! ### one def, checked -/
def scopeOk (N ps : List Str) (sc : Scope) : Bool := (match sc.kind with | .function => true | _ => false) && !sc.isCoroutine && !sc.isGenerator && decide N.Nodup && decide (N.take ps.length = ps) && (ps.all fun x => decide (sc.names.lookup x = some .local) || decide (sc.names.lookup x = some .cell)) && (sc.names.all fun y => decide (y.2 ≠ .free))
theorem scopeOk_ok {N ps : List Str} {sc : Scope} (h : scopeOk N ps sc = true) : FnScope N ps sc := by
  unfold scopeOk at h
  simp only [Bool.and_eq_true, decide_eq_true_eq, List.all_eq_true, Bool.not_eq_true', Bool.or_eq_true] at h
  obtain ⟨⟨⟨⟨⟨⟨h1, h2⟩, h3⟩, h4⟩, h5⟩, h6⟩, h7⟩ := h
  refine ⟨?_, h2, h3, h4, h5, h6, h7⟩
  split at h1
  · assumption
  · cases h1
def defOk (T : Tab) (d : He.DefD) (fd : FD) (N : List Str) : Bool := scopeOk N fd.ps d.scope && ckBl (ckS T N 60 d.scope) d.body fd.body && decide (fd.n = N.length) && d.dfl.isEmpty && d.kwd.isEmpty
theorem def_by {g : GC} {T : Tab} {X : Tx} {f : Str} {d : He.DefD} {fd : FD} {N : List Str} {fa : List He.Fa} {fn : List He.DefD} (c : He.SaysD fa fn g.K) (i : Nat) (hi : fn[i]? = some d) (hX : X.fn f = some fd) (h : defOk T d fd N = true)
    (hb : ∀ (kV doc pm : Value) (an : Option Addr) (cdv ct : Value) (us : List Value), us.length = fd.ps.length → bindArgs (PySem.W.fnOf d.name d.qual d.params d.body d.scope .none kV doc pm an cdv ct) ⟨us, []⟩ = pure (fd.ps.zip us)) :
    ∃ fdd, DefAt g T X f (He.fAd g.K d.at_) fdd fd ∧ FunD g.K d.name d.qual d.params d.body d.scope [] [] (He.fAd g.K d.at_) fdd := by
  unfold defOk at h
  simp only [Bool.and_eq_true, decide_eq_true_eq, List.isEmpty_iff] at h
  obtain ⟨⟨⟨⟨h1, h2⟩, h3⟩, h4⟩, h5⟩ := h
  obtain ⟨fdd, F⟩ := c.def_ i hi
  have F2 : FunD g.K d.name d.qual d.params d.body d.scope [] [] (He.fAd g.K d.at_) fdd := by
    have e1 : d.dvs g.K = [] := by unfold He.DefD.dvs; rw [h4]; rfl
    have e2 : d.kws g.K = [] := by unfold He.DefD.kws; rw [h5]; rfl
    rw [e1, e2] at F
    exact F
  exact ⟨fdd, ⟨hX, F2.bindsN hb, d.name, d.qual, d.params, d.body, d.scope, N, 60, F2, scopeOk_ok h1, h2, h3⟩, F2⟩
theorem vals_pick : ∀ (pm : List Nat) {vs : List V} {us : List Value}, Vals vs us → Vals (pick pm vs) (pick pm us)
  | [], _, _, _ => .nil
  | i :: pm, vs, us, h => by
    unfold pick
    rw [List.filterMap_cons, List.filterMap_cons]
    cases e : vs[i]? with
    | none =>
      rw [Vals.none_of h e]
      exact vals_pick pm h
    | some v =>
      obtain ⟨u, e2, r⟩ := Vals.get h e
      rw [e2]
      exact .cons r (vals_pick pm h)
theorem kb_by {K : PySem.W.Frag} {x qual : Str} {params : Arguments} {body : List Stmt} {scope : Scope} {a : Addr} {fdd : FuncData} {ps : List Str} (F : FunD K x qual params body scope [] [] a fdd) (n : Nat) (ks : List Str) (pm : List Nat)
    (hb : ∀ (kV doc pv : Value) (an : Option Addr) (cdv ct : Value) (us ws : List Value), us.length = n → ws.length = ks.length → bindArgs (PySem.W.fnOf x qual params body scope .none kV doc pv an cdv ct) ⟨us, ks.zip ws⟩ = pure (ps.zip (pick pm (us ++ ws)))) :
    KBn K fdd ps n ks (fun us ws => pick pm (us ++ ws)) (fun vs zs => pick pm (vs ++ zs)) := by
  obtain ⟨oc, od, dV, kV, doc, pv, an, cdv, ct, osl, rfl, lk, hcd, hD, hK⟩ := F.ex
  rcases hD with ⟨_, rfl⟩ | ⟨e, _⟩
  · exact ⟨fun s us ws _ l1 l2 => .of_eq (hb kV doc pv an cdv ct us ws l1 l2), fun r1 r2 => vals_pick pm (r1.append r2)⟩
  · exact absurd rfl e
theorem all_cons {α : Type} {P : α → Prop} {a : α} {l : List α} (h : P a) (t : ∀ x ∈ l, P x) : ∀ x ∈ a :: l, P x := fun x hx => by
  rcases List.mem_cons.mp hx with e | e
  · rw [e]; exact h
  · exact t x e
theorem all_nil {α : Type} {P : α → Prop} : ∀ x ∈ ([] : List α), P x := fun x hx => nomatch hx
/-! ### the law's end -/
def spLaw (g : GC) : Sp := fun vs H Q _ => ∃ (a : Addr) (ns : List Int), vs = [.ref a] ∧ ns.length ≤ 63 ∧ SqL g.K H a (ns.map V.int) ∧ ∀ H', Q (.bl true) H'
theorem RS.none {g : GC} {H : Hp} : RS g ⟨[], []⟩ [] H := ⟨rfl, List.nodup_nil, fun a ha => by simp at ha, fun n a ob h1 _ => by simp at h1⟩
theorem law_ok {g : GC} {T : Tab} {X : Tx} (P : ProgOk g T X) {a : Addr} {fdd : FuncData} {fd : FD} (D : DefAt g T X "law" a fdd fd) (hps : fd.ps = [("script" : Str)]) (n : Nat)
    (hrun : ∀ ns : List Int, ns.length ≤ 63 → ∃ st', callD X n "law" [.scr ns] [] = some (.bl true, st')) : FnOk g.P g.w g.K g.mg g.base CX0 (n + 1) a fdd [("script" : Str)] (spLaw g) := by
  have h := def_at P n D
  rw [hps] at h
  refine h.imp fun vs H Q E ⟨p, ns, e, hl, hs, post⟩ => ?_
  subst e
  obtain ⟨st', hr⟩ := hrun ns hl
  refine ⟨⟨[], []⟩, [], [.scr ns], .bl true, st', RS.none, RDs.cons ?_ RDs.nil, hr, rfl, fun ρ' H' v x s r => ?_⟩
  · rw [RD]
    refine ⟨p, rfl, ?_⟩
    rcases hs with hs | hs
    · exact .inl ⟨fun z => by rcases z with z | z <;> simp at z, hs⟩
    · exact .inr fun H' => .inr hs
  · rw [RD.bl_] at r
    rw [r]; exact post H'
end MP
end
section
set_option Elab.async false
set_option linter.all false
set_option maxRecDepth 100000
set_option maxHeartbeats 0
/-! the head of k75. Printed by gen_head.py. -/
namespace MP.H75
open PySem PySem.Spec PyProof.Rows L2 MP MP.K75
def top (i : Nat) : Stmt := PySem.Challenge.pw_whomayerr_k75_whole_growth.main.body.getD i (.Pass ⟨0, 0, 0, 0⟩)
def d_witnesses : He.DefD := ⟨("witnesses", none), "witnesses", "witnesses", defArgs (top 2), defBody (top 2), defScope (top 2), [], []⟩
def d_told_cases : He.DefD := ⟨("told_cases", none), "told_cases", "told_cases", defArgs (top 3), defBody (top 3), defScope (top 3), [], []⟩
def d_let_cases : He.DefD := ⟨("let_cases", none), "let_cases", "let_cases", defArgs (top 4), defBody (top 4), defScope (top 4), [], []⟩
def d_refused_cases : He.DefD := ⟨("refused_cases", none), "refused_cases", "refused_cases", defArgs (top 5), defBody (top 5), defScope (top 5), [], []⟩
def d_is_let : He.DefD := ⟨("is_let", none), "is_let", "is_let", defArgs (top 7), defBody (top 7), defScope (top 7), [], []⟩
def d_lets : He.DefD := ⟨("lets", none), "lets", "lets", defArgs (top 8), defBody (top 8), defScope (top 8), [], []⟩
def d_value_condition : He.DefD := ⟨("value_condition", none), "value_condition", "value_condition", defArgs (top 9), defBody (top 9), defScope (top 9), [], []⟩
def d_case_rule : He.DefD := ⟨("case_rule", none), "case_rule", "case_rule", defArgs (top 10), defBody (top 10), defScope (top 10), [], []⟩
def d_is_against : He.DefD := ⟨("is_against", none), "is_against", "is_against", defArgs (top 12), defBody (top 12), defScope (top 12), [], []⟩
def d_joined_condition : He.DefD := ⟨("joined_condition", none), "joined_condition", "joined_condition", defArgs (top 14), defBody (top 14), defScope (top 14), [], []⟩
def d_join : He.DefD := ⟨("join", none), "join", "join", defArgs (top 15), defBody (top 15), defScope (top 15), [], []⟩
def d_hull : He.DefD := ⟨("hull", none), "hull", "hull", defArgs (top 16), defBody (top 16), defScope (top 16), [], []⟩
def d_without_witnesses : He.DefD := ⟨("without_witnesses", none), "without_witnesses", "without_witnesses", defArgs (top 18), defBody (top 18), defScope (top 18), [], []⟩
def d_without_records : He.DefD := ⟨("without_records", none), "without_records", "without_records", defArgs (top 19), defBody (top 19), defScope (top 19), [], []⟩
def d_claimed : He.DefD := ⟨("claimed", none), "claimed", "claimed", defArgs (top 21), defBody (top 21), defScope (top 21), [], []⟩
def d_World___init__ : He.DefD := ⟨("World", some "__init__"), "__init__", "World.__init__", defArgs (clsSt (top 22) 0), defBody (clsSt (top 22) 0), defScope (clsSt (top 22) 0), [], []⟩
def d_World_rule_for : He.DefD := ⟨("World", some "rule_for"), "rule_for", "World.rule_for", defArgs (clsSt (top 22) 1), defBody (clsSt (top 22) 1), defScope (clsSt (top 22) 1), [], []⟩
def d_World_bears : He.DefD := ⟨("World", some "bears"), "bears", "World.bears", defArgs (clsSt (top 22) 2), defBody (clsSt (top 22) 2), defScope (clsSt (top 22) 2), [], []⟩
def d_all_worlds : He.DefD := ⟨("all_worlds", none), "all_worlds", "all_worlds", defArgs (top 23), defBody (top 23), defScope (top 23), [], []⟩
def d_price_in : He.DefD := ⟨("price_in", none), "price_in", "price_in", defArgs (top 24), defBody (top 24), defScope (top 24), [], []⟩
def d_fewest_errs : He.DefD := ⟨("fewest_errs", none), "fewest_errs", "fewest_errs", defArgs (top 26), defBody (top 26), defScope (top 26), [], []⟩
def d_price : He.DefD := ⟨("price", none), "price", "price", defArgs (top 28), defBody (top 28), defScope (top 28), [], []⟩
def d_is_beyond : He.DefD := ⟨("is_beyond", none), "is_beyond", "is_beyond", defArgs (top 30), defBody (top 30), defScope (top 30), [], []⟩
def d_growth : He.DefD := ⟨("growth", none), "growth", "growth", defArgs (top 32), defBody (top 32), defScope (top 32), [], []⟩
def d_first_broken : He.DefD := ⟨("first_broken", none), "first_broken", "first_broken", defArgs (top 33), defBody (top 33), defScope (top 33), [], []⟩
def d_needed_records : He.DefD := ⟨("needed_records", none), "needed_records", "needed_records", defArgs (top 34), defBody (top 34), defScope (top 34), [], []⟩
def d__law_vine : He.DefD := ⟨("_law_vine", none), "_law_vine", "_law_vine", defArgs (top 36), defBody (top 36), defScope (top 36), [], []⟩
def d__law_leaf : He.DefD := ⟨("_law_leaf", none), "_law_leaf", "_law_leaf", defArgs (top 37), defBody (top 37), defScope (top 37), [], []⟩
def d__law_lean : He.DefD := ⟨("_law_lean", none), "_law_lean", "_law_lean", defArgs (top 38), defBody (top 38), defScope (top 38), [], []⟩
def d__law_same : He.DefD := ⟨("_law_same", none), "_law_same", "_law_same", defArgs (top 39), defBody (top 39), defScope (top 39), [], []⟩
def d__law_form : He.DefD := ⟨("_law_form", none), "_law_form", "_law_form", defArgs (top 40), defBody (top 40), defScope (top 40), [], []⟩
def d__law_case : He.DefD := ⟨("_law_case", none), "_law_case", "_law_case", defArgs (top 41), defBody (top 41), defScope (top 41), [], []⟩
def d__law_lets : He.DefD := ⟨("_law_lets", none), "_law_lets", "_law_lets", defArgs (top 42), defBody (top 42), defScope (top 42), [], []⟩
def d__law_log : He.DefD := ⟨("_law_log", none), "_law_log", "_law_log", defArgs (top 43), defBody (top 43), defScope (top 43), [], []⟩
def d__law_claims : He.DefD := ⟨("_law_claims", none), "_law_claims", "_law_claims", defArgs (top 44), defBody (top 44), defScope (top 44), [], []⟩
def d__law_rules : He.DefD := ⟨("_law_rules", none), "_law_rules", "_law_rules", defArgs (top 45), defBody (top 45), defScope (top 45), [], []⟩
def d__law_ladder : He.DefD := ⟨("_law_ladder", none), "_law_ladder", "_law_ladder", defArgs (top 46), defBody (top 46), defScope (top 46), [], []⟩
def d__law_wrong_places : He.DefD := ⟨("_law_wrong_places", none), "_law_wrong_places", "_law_wrong_places", defArgs (top 47), defBody (top 47), defScope (top 47), [], []⟩
def d__law_fewest : He.DefD := ⟨("_law_fewest", none), "_law_fewest", "_law_fewest", defArgs (top 48), defBody (top 48), defScope (top 48), [], []⟩
def d__law_asked : He.DefD := ⟨("_law_asked", none), "_law_asked", "_law_asked", defArgs (top 49), defBody (top 49), defScope (top 49), [], []⟩
def d__law_hand : He.DefD := ⟨("_law_hand", none), "_law_hand", "_law_hand", defArgs (top 50), defBody (top 50), defScope (top 50), [], []⟩
def d_law : He.DefD := ⟨("law", none), "law", "law", defArgs (top 51), defBody (top 51), defScope (top 51), [], []⟩
def fn : List He.DefD := d_witnesses :: d_told_cases :: d_let_cases :: d_refused_cases :: d_is_let :: d_lets :: d_value_condition :: d_case_rule :: d_is_against :: d_joined_condition :: d_join :: d_hull :: d_without_witnesses :: d_without_records :: d_claimed :: d_World___init__ :: d_World_rule_for :: d_World_bears :: d_all_worlds :: d_price_in :: d_fewest_errs :: d_price :: d_is_beyond :: d_growth :: d_first_broken :: d_needed_records :: d__law_vine :: d__law_leaf :: d__law_lean :: d__law_same :: d__law_form :: d__law_case :: d__law_lets :: d__law_log :: d__law_claims :: d__law_rules :: d__law_ladder :: d__law_wrong_places :: d__law_fewest :: d__law_asked :: d__law_hand :: d_law :: []
def fa : List He.Fa := .glo "witnesses" :: .glo "told_cases" :: .glo "let_cases" :: .glo "refused_cases" :: .glo "is_let" :: .glo "lets" :: .glo "value_condition" :: .glo "case_rule" :: .glo "is_against" :: .glo "joined_condition" :: .glo "join" :: .glo "hull" :: .glo "without_witnesses" :: .glo "without_records" :: .glo "claimed" :: .glo "all_worlds" :: .glo "price_in" :: .glo "fewest_errs" :: .glo "price" :: .glo "is_beyond" :: .glo "growth" :: .glo "first_broken" :: .glo "needed_records" :: .glo "_law_vine" :: .glo "_law_leaf" :: .glo "_law_lean" :: .glo "_law_same" :: .glo "_law_form" :: .glo "_law_case" :: .glo "_law_lets" :: .glo "_law_log" :: .glo "_law_claims" :: .glo "_law_rules" :: .glo "_law_ladder" :: .glo "_law_wrong_places" :: .glo "_law_fewest" :: .glo "_law_asked" :: .glo "_law_hand" :: .glo "law" :: .free "abs" :: .free "all" :: .free "any" :: .free "bool" :: .free "enumerate" :: .free "int" :: .free "isinstance" :: .free "len" :: .free "list" :: .free "max" :: .free "min" :: .free "range" :: .free "set" :: .free "sorted" :: .free "str" :: .free "tuple" :: .free "zip" :: .glo "World" :: .cls "World" :: .mkr "World" :: .meth "World" "bears" :: .meth "World" "rule_for" :: .noat "World" "names" :: .noat "World" "least" :: .noat "World" "refused" :: []
def ex (K : PySem.W.Frag) : Bool := isVal "combinations" (.type Cmb.cn) K
abbrev R : PySem.W.OpenRow := PySem.W.OpenLaw.row PySem.Challenge.rw_whomayerr_k75_whole_growth
abbrev hk : PySem.W.Hook := hookX 8 ex fa fn
def ob (s : PySem.W.SharedT) : Bool × He.AlD := obsXG 8 ex fa fn (HandSHeadRun.getT s)
theorem ob_eq (s : PySem.W.SharedT) : ob s = hk.obs s.abs := obsXG_eq (HandSHeadRun.getT_eq s)
def lo0 : List Str := ["__name__", "witnesses", "told_cases", "let_cases", "refused_cases", "is_let", "lets", "value_condition", "case_rule", "is_against", "joined_condition", "join", "hull", "without_witnesses", "without_records", "claimed", "World", "all_worlds", "price_in", "fewest_errs", "price", "is_beyond", "growth", "first_broken", "needed_records", "_law_vine", "_law_leaf", "_law_lean", "_law_same", "_law_form"]
def lo1 : List Str := ["_law_case", "_law_lets", "_law_log", "_law_claims", "_law_rules", "_law_ladder", "_law_wrong_places", "_law_fewest", "_law_asked", "_law_hand"]
theorem run (w : World) : HandSHeadRun.RunEqI R (PySem.W.view R.prog [0, 51]) hk ob 8000 (lo0 ++ lo1) w := by
  unfold HandSHeadRun.RunEqI
  kernel_rfl
def N_witnesses : List Str := ["log", "record"]
def N_told_cases : List Str := ["log", "word", "witness", "case", "told"]
def N_let_cases : List Str := ["log"]
def N_refused_cases : List Str := ["log"]
def N_is_let : List Str := ["condition", "value"]
def N_lets : List Str := ["rule", "case", "condition", "value"]
def N_value_condition : List Str := ["value"]
def N_case_rule : List Str := ["case", "value"]
def N_is_against : List Str := ["rule", "case", "word"]
def N_joined_condition : List Str := ["one", "other"]
def N_join : List Str := ["one", "other", "here", "there"]
def N_hull : List Str := ["cases", "told", "case"]
def N_without_witnesses : List Str := ["log", "names", "record"]
def N_without_records : List Str := ["log", "places", "place", "record"]
def N_claimed : List Str := ["claims", "word", "case", "told"]
def N_World___init__ : List Str := ["self", "log", "names", "rest"]
def N_World_rule_for : List Str := ["self", "claims"]
def N_World_bears : List Str := ["self", "claims", "rule", "case", "word"]
def N_all_worlds : List Str := ["log", "names", "found", "many", "some", "world"]
def N_price_in : List Str := ["worlds", "claims", "world"]
def N_fewest_errs : List Str := ["log"]
def N_price : List Str := ["log", "claims"]
def N_is_beyond : List Str := ["price", "k"]
def N_growth : List Str := ["log", "place"]
def N_first_broken : List Str := ["log", "k", "place", "number"]
def N_needed_records : List Str := ["log", "claims", "due", "place"]
def N__law_vine : List Str := ["script", "vine", "cell", "size"]
def N__law_leaf : List Str := ["vine", "many", "size"]
def N__law_lean : List Str := ["vine", "place", "many", "kind", "value", "free"]
def N__law_same : List Str := ["told", "due", "todo", "one", "other", "at"]
def N__law_form : List Str := ["vine", "fields", "names", "values", "left", "lap", "many", "least", "cost", "span", "turn"]
def N__law_case : List Str := ["vine", "form", "told", "name", "span"]
def N__law_lets : List Str := ["rule", "case", "at", "here"]
def N__law_log : List Str := ["vine", "form", "most", "many", "one", "other", "rule", "at", "people", "told", "seen", "style", "lap", "pair", "who", "case", "right", "lies", "word"]
def N__law_claims : List Str := ["vine", "form", "log", "most", "told", "lap", "case"]
def N__law_rules : List Str := ["form", "told", "name", "span", "conditions", "longer", "rule", "least", "number", "condition", "most", "at"]
def N__law_ladder : List Str := ["vine", "many", "people", "told", "step", "at", "row", "lap"]
def N__law_wrong_places : List Str := ["form", "log", "claims", "told", "rule", "places", "at", "case", "word"]
def N__law_fewest : List Str := ["log", "rows", "kept", "best", "places", "errors", "at"]
def N__law_asked : List Str := ["vine", "form", "log", "claims", "free", "bound", "every", "grown", "k", "whole", "less", "needed", "at", "part", "told", "broken", "place"]
def N__law_hand : List Str := ["vine", "log", "told", "sure", "own"]
def N_law : List Str := ["script", "vine", "lap", "form", "log"]
def tFns : List (Str × List Str) := (("witnesses" : Str), (["log"] : List Str)) :: (("told_cases" : Str), (["log", "word"] : List Str)) :: (("let_cases" : Str), (["log"] : List Str)) :: (("refused_cases" : Str), (["log"] : List Str)) :: (("is_let" : Str), (["condition", "value"] : List Str)) :: (("lets" : Str), (["rule", "case"] : List Str)) :: (("value_condition" : Str), (["value"] : List Str)) :: (("case_rule" : Str), (["case"] : List Str)) :: (("is_against" : Str), (["rule", "case", "word"] : List Str)) :: (("joined_condition" : Str), (["one", "other"] : List Str)) :: (("join" : Str), (["one", "other"] : List Str)) :: (("hull" : Str), (["cases"] : List Str)) :: (("without_witnesses" : Str), (["log", "names"] : List Str)) :: (("without_records" : Str), (["log", "places"] : List Str)) :: (("claimed" : Str), (["claims", "word"] : List Str)) :: (("all_worlds" : Str), (["log"] : List Str)) :: (("price_in" : Str), (["worlds", "claims"] : List Str)) :: (("fewest_errs" : Str), (["log"] : List Str)) :: (("price" : Str), (["log", "claims"] : List Str)) :: (("is_beyond" : Str), (["price", "k"] : List Str)) :: (("growth" : Str), (["log"] : List Str)) :: (("first_broken" : Str), (["log", "k"] : List Str)) :: (("needed_records" : Str), (["log", "claims"] : List Str)) :: (("_law_vine" : Str), (["script"] : List Str)) :: (("_law_leaf" : Str), (["vine", "many"] : List Str)) :: (("_law_lean" : Str), (["vine", "place", "many"] : List Str)) :: (("_law_same" : Str), (["told", "due"] : List Str)) :: (("_law_form" : Str), (["vine"] : List Str)) :: (("_law_case" : Str), (["vine", "form"] : List Str)) :: (("_law_lets" : Str), (["rule", "case"] : List Str)) :: (("_law_log" : Str), (["vine", "form", "most", "many"] : List Str)) :: (("_law_claims" : Str), (["vine", "form", "log", "most"] : List Str)) :: (("_law_rules" : Str), (["form"] : List Str)) :: (("_law_ladder" : Str), (["vine", "many"] : List Str)) :: (("_law_wrong_places" : Str), (["form", "log", "claims"] : List Str)) :: (("_law_fewest" : Str), (["log", "rows", "kept"] : List Str)) :: (("_law_asked" : Str), (["vine", "form", "log"] : List Str)) :: (("_law_hand" : Str), (["vine"] : List Str)) :: (("law" : Str), (["script"] : List Str)) :: []
def tKws : List (Str × Nat × List Str × List Nat) := (("first_broken" : Str), 0, (["k", "log"] : List Str), [1, 0]) :: (("needed_records" : Str), 0, (["claims", "log"] : List Str), [1, 0]) :: []
def tMts : List (Str × Str × Str) := [("World", "bears", "World.bears"), ("World", "rule_for", "World.rule_for")]
def T : Tab := ⟨tFns, tKws, tMts, ["World"], ["abs", "all", "any", "bool", "enumerate", "int", "isinstance", "len", "list", "max", "min", "range", "set", "sorted", "str", "tuple", "zip"], [], true⟩
def tab : List (Str × FD) := (("witnesses" : Str), fd_witnesses) :: (("told_cases" : Str), fd_told_cases) :: (("let_cases" : Str), fd_let_cases) :: (("refused_cases" : Str), fd_refused_cases) :: (("is_let" : Str), fd_is_let) :: (("lets" : Str), fd_lets) :: (("value_condition" : Str), fd_value_condition) :: (("case_rule" : Str), fd_case_rule) :: (("is_against" : Str), fd_is_against) :: (("joined_condition" : Str), fd_joined_condition) :: (("join" : Str), fd_join) :: (("hull" : Str), fd_hull) :: (("without_witnesses" : Str), fd_without_witnesses) :: (("without_records" : Str), fd_without_records) :: (("claimed" : Str), fd_claimed) :: (("World.__init__" : Str), fd_World___init__) :: (("World.rule_for" : Str), fd_World_rule_for) :: (("World.bears" : Str), fd_World_bears) :: (("all_worlds" : Str), fd_all_worlds) :: (("price_in" : Str), fd_price_in) :: (("fewest_errs" : Str), fd_fewest_errs) :: (("price" : Str), fd_price) :: (("is_beyond" : Str), fd_is_beyond) :: (("growth" : Str), fd_growth) :: (("first_broken" : Str), fd_first_broken) :: (("needed_records" : Str), fd_needed_records) :: (("_law_vine" : Str), fd__law_vine) :: (("_law_leaf" : Str), fd__law_leaf) :: (("_law_lean" : Str), fd__law_lean) :: (("_law_same" : Str), fd__law_same) :: (("_law_form" : Str), fd__law_form) :: (("_law_case" : Str), fd__law_case) :: (("_law_lets" : Str), fd__law_lets) :: (("_law_log" : Str), fd__law_log) :: (("_law_claims" : Str), fd__law_claims) :: (("_law_rules" : Str), fd__law_rules) :: (("_law_ladder" : Str), fd__law_ladder) :: (("_law_wrong_places" : Str), fd__law_wrong_places) :: (("_law_fewest" : Str), fd__law_fewest) :: (("_law_asked" : Str), fd__law_asked) :: (("_law_hand" : Str), fd__law_hand) :: (("law" : Str), fd_law) :: []
def att (c f : Str) : Bool := decide ((c, f) ∈ ([("World", "names"), ("World", "least"), ("World", "refused")] : List (Str × Str)))
def X : Tx := { fn := fun f => tab.lookup f, cl := fun c => ([("World", "World.__init__")] : List (Str × Str)).lookup c, lap := 2 ^ 64, att := att }
theorem ok_witnesses : defOk T d_witnesses fd_witnesses N_witnesses = true := by decide +kernel
theorem ok_told_cases : defOk T d_told_cases fd_told_cases N_told_cases = true := by decide +kernel
theorem ok_let_cases : defOk T d_let_cases fd_let_cases N_let_cases = true := by decide +kernel
theorem ok_refused_cases : defOk T d_refused_cases fd_refused_cases N_refused_cases = true := by decide +kernel
theorem ok_is_let : defOk T d_is_let fd_is_let N_is_let = true := by decide +kernel
theorem ok_lets : defOk T d_lets fd_lets N_lets = true := by decide +kernel
theorem ok_value_condition : defOk T d_value_condition fd_value_condition N_value_condition = true := by decide +kernel
theorem ok_case_rule : defOk T d_case_rule fd_case_rule N_case_rule = true := by decide +kernel
theorem ok_is_against : defOk T d_is_against fd_is_against N_is_against = true := by decide +kernel
theorem ok_joined_condition : defOk T d_joined_condition fd_joined_condition N_joined_condition = true := by decide +kernel
theorem ok_join : defOk T d_join fd_join N_join = true := by decide +kernel
theorem ok_hull : defOk T d_hull fd_hull N_hull = true := by decide +kernel
theorem ok_without_witnesses : defOk T d_without_witnesses fd_without_witnesses N_without_witnesses = true := by decide +kernel
theorem ok_without_records : defOk T d_without_records fd_without_records N_without_records = true := by decide +kernel
theorem ok_claimed : defOk T d_claimed fd_claimed N_claimed = true := by decide +kernel
theorem ok_World___init__ : defOk T d_World___init__ fd_World___init__ N_World___init__ = true := by decide +kernel
theorem ok_World_rule_for : defOk T d_World_rule_for fd_World_rule_for N_World_rule_for = true := by decide +kernel
theorem ok_World_bears : defOk T d_World_bears fd_World_bears N_World_bears = true := by decide +kernel
theorem ok_all_worlds : defOk T d_all_worlds fd_all_worlds N_all_worlds = true := by decide +kernel
theorem ok_price_in : defOk T d_price_in fd_price_in N_price_in = true := by decide +kernel
theorem ok_fewest_errs : defOk T d_fewest_errs fd_fewest_errs N_fewest_errs = true := by decide +kernel
theorem ok_price : defOk T d_price fd_price N_price = true := by decide +kernel
theorem ok_is_beyond : defOk T d_is_beyond fd_is_beyond N_is_beyond = true := by decide +kernel
theorem ok_growth : defOk T d_growth fd_growth N_growth = true := by decide +kernel
theorem ok_first_broken : defOk T d_first_broken fd_first_broken N_first_broken = true := by decide +kernel
theorem ok_needed_records : defOk T d_needed_records fd_needed_records N_needed_records = true := by decide +kernel
theorem ok__law_vine : defOk T d__law_vine fd__law_vine N__law_vine = true := by decide +kernel
theorem ok__law_leaf : defOk T d__law_leaf fd__law_leaf N__law_leaf = true := by decide +kernel
theorem ok__law_lean : defOk T d__law_lean fd__law_lean N__law_lean = true := by decide +kernel
theorem ok__law_same : defOk T d__law_same fd__law_same N__law_same = true := by decide +kernel
theorem ok__law_form : defOk T d__law_form fd__law_form N__law_form = true := by decide +kernel
theorem ok__law_case : defOk T d__law_case fd__law_case N__law_case = true := by decide +kernel
theorem ok__law_lets : defOk T d__law_lets fd__law_lets N__law_lets = true := by decide +kernel
theorem ok__law_log : defOk T d__law_log fd__law_log N__law_log = true := by decide +kernel
theorem ok__law_claims : defOk T d__law_claims fd__law_claims N__law_claims = true := by decide +kernel
theorem ok__law_rules : defOk T d__law_rules fd__law_rules N__law_rules = true := by decide +kernel
theorem ok__law_ladder : defOk T d__law_ladder fd__law_ladder N__law_ladder = true := by decide +kernel
theorem ok__law_wrong_places : defOk T d__law_wrong_places fd__law_wrong_places N__law_wrong_places = true := by decide +kernel
theorem ok__law_fewest : defOk T d__law_fewest fd__law_fewest N__law_fewest = true := by decide +kernel
theorem ok__law_asked : defOk T d__law_asked fd__law_asked N__law_asked = true := by decide +kernel
theorem ok__law_hand : defOk T d__law_hand fd__law_hand N__law_hand = true := by decide +kernel
theorem ok_law : defOk T d_law fd_law N_law = true := by decide +kernel
theorem x_witnesses : X.fn "witnesses" = some fd_witnesses := by kernel_rfl
theorem x_told_cases : X.fn "told_cases" = some fd_told_cases := by kernel_rfl
theorem x_let_cases : X.fn "let_cases" = some fd_let_cases := by kernel_rfl
theorem x_refused_cases : X.fn "refused_cases" = some fd_refused_cases := by kernel_rfl
theorem x_is_let : X.fn "is_let" = some fd_is_let := by kernel_rfl
theorem x_lets : X.fn "lets" = some fd_lets := by kernel_rfl
theorem x_value_condition : X.fn "value_condition" = some fd_value_condition := by kernel_rfl
theorem x_case_rule : X.fn "case_rule" = some fd_case_rule := by kernel_rfl
theorem x_is_against : X.fn "is_against" = some fd_is_against := by kernel_rfl
theorem x_joined_condition : X.fn "joined_condition" = some fd_joined_condition := by kernel_rfl
theorem x_join : X.fn "join" = some fd_join := by kernel_rfl
theorem x_hull : X.fn "hull" = some fd_hull := by kernel_rfl
theorem x_without_witnesses : X.fn "without_witnesses" = some fd_without_witnesses := by kernel_rfl
theorem x_without_records : X.fn "without_records" = some fd_without_records := by kernel_rfl
theorem x_claimed : X.fn "claimed" = some fd_claimed := by kernel_rfl
theorem x_World___init__ : X.fn "World.__init__" = some fd_World___init__ := by kernel_rfl
theorem x_World_rule_for : X.fn "World.rule_for" = some fd_World_rule_for := by kernel_rfl
theorem x_World_bears : X.fn "World.bears" = some fd_World_bears := by kernel_rfl
theorem x_all_worlds : X.fn "all_worlds" = some fd_all_worlds := by kernel_rfl
theorem x_price_in : X.fn "price_in" = some fd_price_in := by kernel_rfl
theorem x_fewest_errs : X.fn "fewest_errs" = some fd_fewest_errs := by kernel_rfl
theorem x_price : X.fn "price" = some fd_price := by kernel_rfl
theorem x_is_beyond : X.fn "is_beyond" = some fd_is_beyond := by kernel_rfl
theorem x_growth : X.fn "growth" = some fd_growth := by kernel_rfl
theorem x_first_broken : X.fn "first_broken" = some fd_first_broken := by kernel_rfl
theorem x_needed_records : X.fn "needed_records" = some fd_needed_records := by kernel_rfl
theorem x__law_vine : X.fn "_law_vine" = some fd__law_vine := by kernel_rfl
theorem x__law_leaf : X.fn "_law_leaf" = some fd__law_leaf := by kernel_rfl
theorem x__law_lean : X.fn "_law_lean" = some fd__law_lean := by kernel_rfl
theorem x__law_same : X.fn "_law_same" = some fd__law_same := by kernel_rfl
theorem x__law_form : X.fn "_law_form" = some fd__law_form := by kernel_rfl
theorem x__law_case : X.fn "_law_case" = some fd__law_case := by kernel_rfl
theorem x__law_lets : X.fn "_law_lets" = some fd__law_lets := by kernel_rfl
theorem x__law_log : X.fn "_law_log" = some fd__law_log := by kernel_rfl
theorem x__law_claims : X.fn "_law_claims" = some fd__law_claims := by kernel_rfl
theorem x__law_rules : X.fn "_law_rules" = some fd__law_rules := by kernel_rfl
theorem x__law_ladder : X.fn "_law_ladder" = some fd__law_ladder := by kernel_rfl
theorem x__law_wrong_places : X.fn "_law_wrong_places" = some fd__law_wrong_places := by kernel_rfl
theorem x__law_fewest : X.fn "_law_fewest" = some fd__law_fewest := by kernel_rfl
theorem x__law_asked : X.fn "_law_asked" = some fd__law_asked := by kernel_rfl
theorem x__law_hand : X.fn "_law_hand" = some fd__law_hand := by kernel_rfl
theorem x_law : X.fn "law" = some fd_law := by kernel_rfl
section
variable {P : Program} {w : World} {K : PySem.W.Frag} {h base : Heap} {mg : Str → Option Value}
abbrev G (P : Program) (w : World) (K : PySem.W.Frag) (mg : Str → Option Value) (base : Heap) : GC := ⟨P, w, K, mg, base, fun c => He.ga K c, soF P w⟩
theorem at_witnesses (c : He.SaysD fa fn (G P w K mg base).K) : ∃ fdd, DefAt (G P w K mg base) T X "witnesses" (He.fAd K d_witnesses.at_) fdd fd_witnesses ∧ FunD K d_witnesses.name d_witnesses.qual d_witnesses.params d_witnesses.body d_witnesses.scope [] [] (He.fAd K d_witnesses.at_) fdd := def_by c 0 rfl x_witnesses ok_witnesses fun _ _ _ _ _ _ us hl => match us, hl with | [_], _ => rfl
theorem at_told_cases (c : He.SaysD fa fn (G P w K mg base).K) : ∃ fdd, DefAt (G P w K mg base) T X "told_cases" (He.fAd K d_told_cases.at_) fdd fd_told_cases ∧ FunD K d_told_cases.name d_told_cases.qual d_told_cases.params d_told_cases.body d_told_cases.scope [] [] (He.fAd K d_told_cases.at_) fdd := def_by c 1 rfl x_told_cases ok_told_cases fun _ _ _ _ _ _ us hl => match us, hl with | [_, _], _ => rfl
theorem at_let_cases (c : He.SaysD fa fn (G P w K mg base).K) : ∃ fdd, DefAt (G P w K mg base) T X "let_cases" (He.fAd K d_let_cases.at_) fdd fd_let_cases ∧ FunD K d_let_cases.name d_let_cases.qual d_let_cases.params d_let_cases.body d_let_cases.scope [] [] (He.fAd K d_let_cases.at_) fdd := def_by c 2 rfl x_let_cases ok_let_cases fun _ _ _ _ _ _ us hl => match us, hl with | [_], _ => rfl
theorem at_refused_cases (c : He.SaysD fa fn (G P w K mg base).K) : ∃ fdd, DefAt (G P w K mg base) T X "refused_cases" (He.fAd K d_refused_cases.at_) fdd fd_refused_cases ∧ FunD K d_refused_cases.name d_refused_cases.qual d_refused_cases.params d_refused_cases.body d_refused_cases.scope [] [] (He.fAd K d_refused_cases.at_) fdd := def_by c 3 rfl x_refused_cases ok_refused_cases fun _ _ _ _ _ _ us hl => match us, hl with | [_], _ => rfl
theorem at_is_let (c : He.SaysD fa fn (G P w K mg base).K) : ∃ fdd, DefAt (G P w K mg base) T X "is_let" (He.fAd K d_is_let.at_) fdd fd_is_let ∧ FunD K d_is_let.name d_is_let.qual d_is_let.params d_is_let.body d_is_let.scope [] [] (He.fAd K d_is_let.at_) fdd := def_by c 4 rfl x_is_let ok_is_let fun _ _ _ _ _ _ us hl => match us, hl with | [_, _], _ => rfl
theorem at_lets (c : He.SaysD fa fn (G P w K mg base).K) : ∃ fdd, DefAt (G P w K mg base) T X "lets" (He.fAd K d_lets.at_) fdd fd_lets ∧ FunD K d_lets.name d_lets.qual d_lets.params d_lets.body d_lets.scope [] [] (He.fAd K d_lets.at_) fdd := def_by c 5 rfl x_lets ok_lets fun _ _ _ _ _ _ us hl => match us, hl with | [_, _], _ => rfl
theorem at_value_condition (c : He.SaysD fa fn (G P w K mg base).K) : ∃ fdd, DefAt (G P w K mg base) T X "value_condition" (He.fAd K d_value_condition.at_) fdd fd_value_condition ∧ FunD K d_value_condition.name d_value_condition.qual d_value_condition.params d_value_condition.body d_value_condition.scope [] [] (He.fAd K d_value_condition.at_) fdd := def_by c 6 rfl x_value_condition ok_value_condition fun _ _ _ _ _ _ us hl => match us, hl with | [_], _ => rfl
theorem at_case_rule (c : He.SaysD fa fn (G P w K mg base).K) : ∃ fdd, DefAt (G P w K mg base) T X "case_rule" (He.fAd K d_case_rule.at_) fdd fd_case_rule ∧ FunD K d_case_rule.name d_case_rule.qual d_case_rule.params d_case_rule.body d_case_rule.scope [] [] (He.fAd K d_case_rule.at_) fdd := def_by c 7 rfl x_case_rule ok_case_rule fun _ _ _ _ _ _ us hl => match us, hl with | [_], _ => rfl
theorem at_is_against (c : He.SaysD fa fn (G P w K mg base).K) : ∃ fdd, DefAt (G P w K mg base) T X "is_against" (He.fAd K d_is_against.at_) fdd fd_is_against ∧ FunD K d_is_against.name d_is_against.qual d_is_against.params d_is_against.body d_is_against.scope [] [] (He.fAd K d_is_against.at_) fdd := def_by c 8 rfl x_is_against ok_is_against fun _ _ _ _ _ _ us hl => match us, hl with | [_, _, _], _ => rfl
theorem at_joined_condition (c : He.SaysD fa fn (G P w K mg base).K) : ∃ fdd, DefAt (G P w K mg base) T X "joined_condition" (He.fAd K d_joined_condition.at_) fdd fd_joined_condition ∧ FunD K d_joined_condition.name d_joined_condition.qual d_joined_condition.params d_joined_condition.body d_joined_condition.scope [] [] (He.fAd K d_joined_condition.at_) fdd := def_by c 9 rfl x_joined_condition ok_joined_condition fun _ _ _ _ _ _ us hl => match us, hl with | [_, _], _ => rfl
theorem at_join (c : He.SaysD fa fn (G P w K mg base).K) : ∃ fdd, DefAt (G P w K mg base) T X "join" (He.fAd K d_join.at_) fdd fd_join ∧ FunD K d_join.name d_join.qual d_join.params d_join.body d_join.scope [] [] (He.fAd K d_join.at_) fdd := def_by c 10 rfl x_join ok_join fun _ _ _ _ _ _ us hl => match us, hl with | [_, _], _ => rfl
theorem at_hull (c : He.SaysD fa fn (G P w K mg base).K) : ∃ fdd, DefAt (G P w K mg base) T X "hull" (He.fAd K d_hull.at_) fdd fd_hull ∧ FunD K d_hull.name d_hull.qual d_hull.params d_hull.body d_hull.scope [] [] (He.fAd K d_hull.at_) fdd := def_by c 11 rfl x_hull ok_hull fun _ _ _ _ _ _ us hl => match us, hl with | [_], _ => rfl
theorem at_without_witnesses (c : He.SaysD fa fn (G P w K mg base).K) : ∃ fdd, DefAt (G P w K mg base) T X "without_witnesses" (He.fAd K d_without_witnesses.at_) fdd fd_without_witnesses ∧ FunD K d_without_witnesses.name d_without_witnesses.qual d_without_witnesses.params d_without_witnesses.body d_without_witnesses.scope [] [] (He.fAd K d_without_witnesses.at_) fdd := def_by c 12 rfl x_without_witnesses ok_without_witnesses fun _ _ _ _ _ _ us hl => match us, hl with | [_, _], _ => rfl
theorem at_without_records (c : He.SaysD fa fn (G P w K mg base).K) : ∃ fdd, DefAt (G P w K mg base) T X "without_records" (He.fAd K d_without_records.at_) fdd fd_without_records ∧ FunD K d_without_records.name d_without_records.qual d_without_records.params d_without_records.body d_without_records.scope [] [] (He.fAd K d_without_records.at_) fdd := def_by c 13 rfl x_without_records ok_without_records fun _ _ _ _ _ _ us hl => match us, hl with | [_, _], _ => rfl
theorem at_claimed (c : He.SaysD fa fn (G P w K mg base).K) : ∃ fdd, DefAt (G P w K mg base) T X "claimed" (He.fAd K d_claimed.at_) fdd fd_claimed ∧ FunD K d_claimed.name d_claimed.qual d_claimed.params d_claimed.body d_claimed.scope [] [] (He.fAd K d_claimed.at_) fdd := def_by c 14 rfl x_claimed ok_claimed fun _ _ _ _ _ _ us hl => match us, hl with | [_, _], _ => rfl
theorem at_World___init__ (c : He.SaysD fa fn (G P w K mg base).K) : ∃ fdd, DefAt (G P w K mg base) T X "World.__init__" (He.fAd K d_World___init__.at_) fdd fd_World___init__ ∧ FunD K d_World___init__.name d_World___init__.qual d_World___init__.params d_World___init__.body d_World___init__.scope [] [] (He.fAd K d_World___init__.at_) fdd := def_by c 15 rfl x_World___init__ ok_World___init__ fun _ _ _ _ _ _ us hl => match us, hl with | [_, _, _], _ => rfl
theorem at_World_rule_for (c : He.SaysD fa fn (G P w K mg base).K) : ∃ fdd, DefAt (G P w K mg base) T X "World.rule_for" (He.fAd K d_World_rule_for.at_) fdd fd_World_rule_for ∧ FunD K d_World_rule_for.name d_World_rule_for.qual d_World_rule_for.params d_World_rule_for.body d_World_rule_for.scope [] [] (He.fAd K d_World_rule_for.at_) fdd := def_by c 16 rfl x_World_rule_for ok_World_rule_for fun _ _ _ _ _ _ us hl => match us, hl with | [_, _], _ => rfl
theorem at_World_bears (c : He.SaysD fa fn (G P w K mg base).K) : ∃ fdd, DefAt (G P w K mg base) T X "World.bears" (He.fAd K d_World_bears.at_) fdd fd_World_bears ∧ FunD K d_World_bears.name d_World_bears.qual d_World_bears.params d_World_bears.body d_World_bears.scope [] [] (He.fAd K d_World_bears.at_) fdd := def_by c 17 rfl x_World_bears ok_World_bears fun _ _ _ _ _ _ us hl => match us, hl with | [_, _], _ => rfl
theorem at_all_worlds (c : He.SaysD fa fn (G P w K mg base).K) : ∃ fdd, DefAt (G P w K mg base) T X "all_worlds" (He.fAd K d_all_worlds.at_) fdd fd_all_worlds ∧ FunD K d_all_worlds.name d_all_worlds.qual d_all_worlds.params d_all_worlds.body d_all_worlds.scope [] [] (He.fAd K d_all_worlds.at_) fdd := def_by c 18 rfl x_all_worlds ok_all_worlds fun _ _ _ _ _ _ us hl => match us, hl with | [_], _ => rfl
theorem at_price_in (c : He.SaysD fa fn (G P w K mg base).K) : ∃ fdd, DefAt (G P w K mg base) T X "price_in" (He.fAd K d_price_in.at_) fdd fd_price_in ∧ FunD K d_price_in.name d_price_in.qual d_price_in.params d_price_in.body d_price_in.scope [] [] (He.fAd K d_price_in.at_) fdd := def_by c 19 rfl x_price_in ok_price_in fun _ _ _ _ _ _ us hl => match us, hl with | [_, _], _ => rfl
theorem at_fewest_errs (c : He.SaysD fa fn (G P w K mg base).K) : ∃ fdd, DefAt (G P w K mg base) T X "fewest_errs" (He.fAd K d_fewest_errs.at_) fdd fd_fewest_errs ∧ FunD K d_fewest_errs.name d_fewest_errs.qual d_fewest_errs.params d_fewest_errs.body d_fewest_errs.scope [] [] (He.fAd K d_fewest_errs.at_) fdd := def_by c 20 rfl x_fewest_errs ok_fewest_errs fun _ _ _ _ _ _ us hl => match us, hl with | [_], _ => rfl
theorem at_price (c : He.SaysD fa fn (G P w K mg base).K) : ∃ fdd, DefAt (G P w K mg base) T X "price" (He.fAd K d_price.at_) fdd fd_price ∧ FunD K d_price.name d_price.qual d_price.params d_price.body d_price.scope [] [] (He.fAd K d_price.at_) fdd := def_by c 21 rfl x_price ok_price fun _ _ _ _ _ _ us hl => match us, hl with | [_, _], _ => rfl
theorem at_is_beyond (c : He.SaysD fa fn (G P w K mg base).K) : ∃ fdd, DefAt (G P w K mg base) T X "is_beyond" (He.fAd K d_is_beyond.at_) fdd fd_is_beyond ∧ FunD K d_is_beyond.name d_is_beyond.qual d_is_beyond.params d_is_beyond.body d_is_beyond.scope [] [] (He.fAd K d_is_beyond.at_) fdd := def_by c 22 rfl x_is_beyond ok_is_beyond fun _ _ _ _ _ _ us hl => match us, hl with | [_, _], _ => rfl
theorem at_growth (c : He.SaysD fa fn (G P w K mg base).K) : ∃ fdd, DefAt (G P w K mg base) T X "growth" (He.fAd K d_growth.at_) fdd fd_growth ∧ FunD K d_growth.name d_growth.qual d_growth.params d_growth.body d_growth.scope [] [] (He.fAd K d_growth.at_) fdd := def_by c 23 rfl x_growth ok_growth fun _ _ _ _ _ _ us hl => match us, hl with | [_], _ => rfl
theorem at_first_broken (c : He.SaysD fa fn (G P w K mg base).K) : ∃ fdd, DefAt (G P w K mg base) T X "first_broken" (He.fAd K d_first_broken.at_) fdd fd_first_broken ∧ FunD K d_first_broken.name d_first_broken.qual d_first_broken.params d_first_broken.body d_first_broken.scope [] [] (He.fAd K d_first_broken.at_) fdd := def_by c 24 rfl x_first_broken ok_first_broken fun _ _ _ _ _ _ us hl => match us, hl with | [_, _], _ => rfl
theorem at_needed_records (c : He.SaysD fa fn (G P w K mg base).K) : ∃ fdd, DefAt (G P w K mg base) T X "needed_records" (He.fAd K d_needed_records.at_) fdd fd_needed_records ∧ FunD K d_needed_records.name d_needed_records.qual d_needed_records.params d_needed_records.body d_needed_records.scope [] [] (He.fAd K d_needed_records.at_) fdd := def_by c 25 rfl x_needed_records ok_needed_records fun _ _ _ _ _ _ us hl => match us, hl with | [_, _], _ => rfl
theorem at__law_vine (c : He.SaysD fa fn (G P w K mg base).K) : ∃ fdd, DefAt (G P w K mg base) T X "_law_vine" (He.fAd K d__law_vine.at_) fdd fd__law_vine ∧ FunD K d__law_vine.name d__law_vine.qual d__law_vine.params d__law_vine.body d__law_vine.scope [] [] (He.fAd K d__law_vine.at_) fdd := def_by c 26 rfl x__law_vine ok__law_vine fun _ _ _ _ _ _ us hl => match us, hl with | [_], _ => rfl
theorem at__law_leaf (c : He.SaysD fa fn (G P w K mg base).K) : ∃ fdd, DefAt (G P w K mg base) T X "_law_leaf" (He.fAd K d__law_leaf.at_) fdd fd__law_leaf ∧ FunD K d__law_leaf.name d__law_leaf.qual d__law_leaf.params d__law_leaf.body d__law_leaf.scope [] [] (He.fAd K d__law_leaf.at_) fdd := def_by c 27 rfl x__law_leaf ok__law_leaf fun _ _ _ _ _ _ us hl => match us, hl with | [_, _], _ => rfl
theorem at__law_lean (c : He.SaysD fa fn (G P w K mg base).K) : ∃ fdd, DefAt (G P w K mg base) T X "_law_lean" (He.fAd K d__law_lean.at_) fdd fd__law_lean ∧ FunD K d__law_lean.name d__law_lean.qual d__law_lean.params d__law_lean.body d__law_lean.scope [] [] (He.fAd K d__law_lean.at_) fdd := def_by c 28 rfl x__law_lean ok__law_lean fun _ _ _ _ _ _ us hl => match us, hl with | [_, _, _], _ => rfl
theorem at__law_same (c : He.SaysD fa fn (G P w K mg base).K) : ∃ fdd, DefAt (G P w K mg base) T X "_law_same" (He.fAd K d__law_same.at_) fdd fd__law_same ∧ FunD K d__law_same.name d__law_same.qual d__law_same.params d__law_same.body d__law_same.scope [] [] (He.fAd K d__law_same.at_) fdd := def_by c 29 rfl x__law_same ok__law_same fun _ _ _ _ _ _ us hl => match us, hl with | [_, _], _ => rfl
theorem at__law_form (c : He.SaysD fa fn (G P w K mg base).K) : ∃ fdd, DefAt (G P w K mg base) T X "_law_form" (He.fAd K d__law_form.at_) fdd fd__law_form ∧ FunD K d__law_form.name d__law_form.qual d__law_form.params d__law_form.body d__law_form.scope [] [] (He.fAd K d__law_form.at_) fdd := def_by c 30 rfl x__law_form ok__law_form fun _ _ _ _ _ _ us hl => match us, hl with | [_], _ => rfl
theorem at__law_case (c : He.SaysD fa fn (G P w K mg base).K) : ∃ fdd, DefAt (G P w K mg base) T X "_law_case" (He.fAd K d__law_case.at_) fdd fd__law_case ∧ FunD K d__law_case.name d__law_case.qual d__law_case.params d__law_case.body d__law_case.scope [] [] (He.fAd K d__law_case.at_) fdd := def_by c 31 rfl x__law_case ok__law_case fun _ _ _ _ _ _ us hl => match us, hl with | [_, _], _ => rfl
theorem at__law_lets (c : He.SaysD fa fn (G P w K mg base).K) : ∃ fdd, DefAt (G P w K mg base) T X "_law_lets" (He.fAd K d__law_lets.at_) fdd fd__law_lets ∧ FunD K d__law_lets.name d__law_lets.qual d__law_lets.params d__law_lets.body d__law_lets.scope [] [] (He.fAd K d__law_lets.at_) fdd := def_by c 32 rfl x__law_lets ok__law_lets fun _ _ _ _ _ _ us hl => match us, hl with | [_, _], _ => rfl
theorem at__law_log (c : He.SaysD fa fn (G P w K mg base).K) : ∃ fdd, DefAt (G P w K mg base) T X "_law_log" (He.fAd K d__law_log.at_) fdd fd__law_log ∧ FunD K d__law_log.name d__law_log.qual d__law_log.params d__law_log.body d__law_log.scope [] [] (He.fAd K d__law_log.at_) fdd := def_by c 33 rfl x__law_log ok__law_log fun _ _ _ _ _ _ us hl => match us, hl with | [_, _, _, _], _ => rfl
theorem at__law_claims (c : He.SaysD fa fn (G P w K mg base).K) : ∃ fdd, DefAt (G P w K mg base) T X "_law_claims" (He.fAd K d__law_claims.at_) fdd fd__law_claims ∧ FunD K d__law_claims.name d__law_claims.qual d__law_claims.params d__law_claims.body d__law_claims.scope [] [] (He.fAd K d__law_claims.at_) fdd := def_by c 34 rfl x__law_claims ok__law_claims fun _ _ _ _ _ _ us hl => match us, hl with | [_, _, _, _], _ => rfl
theorem at__law_rules (c : He.SaysD fa fn (G P w K mg base).K) : ∃ fdd, DefAt (G P w K mg base) T X "_law_rules" (He.fAd K d__law_rules.at_) fdd fd__law_rules ∧ FunD K d__law_rules.name d__law_rules.qual d__law_rules.params d__law_rules.body d__law_rules.scope [] [] (He.fAd K d__law_rules.at_) fdd := def_by c 35 rfl x__law_rules ok__law_rules fun _ _ _ _ _ _ us hl => match us, hl with | [_], _ => rfl
theorem at__law_ladder (c : He.SaysD fa fn (G P w K mg base).K) : ∃ fdd, DefAt (G P w K mg base) T X "_law_ladder" (He.fAd K d__law_ladder.at_) fdd fd__law_ladder ∧ FunD K d__law_ladder.name d__law_ladder.qual d__law_ladder.params d__law_ladder.body d__law_ladder.scope [] [] (He.fAd K d__law_ladder.at_) fdd := def_by c 36 rfl x__law_ladder ok__law_ladder fun _ _ _ _ _ _ us hl => match us, hl with | [_, _], _ => rfl
theorem at__law_wrong_places (c : He.SaysD fa fn (G P w K mg base).K) : ∃ fdd, DefAt (G P w K mg base) T X "_law_wrong_places" (He.fAd K d__law_wrong_places.at_) fdd fd__law_wrong_places ∧ FunD K d__law_wrong_places.name d__law_wrong_places.qual d__law_wrong_places.params d__law_wrong_places.body d__law_wrong_places.scope [] [] (He.fAd K d__law_wrong_places.at_) fdd := def_by c 37 rfl x__law_wrong_places ok__law_wrong_places fun _ _ _ _ _ _ us hl => match us, hl with | [_, _, _], _ => rfl
theorem at__law_fewest (c : He.SaysD fa fn (G P w K mg base).K) : ∃ fdd, DefAt (G P w K mg base) T X "_law_fewest" (He.fAd K d__law_fewest.at_) fdd fd__law_fewest ∧ FunD K d__law_fewest.name d__law_fewest.qual d__law_fewest.params d__law_fewest.body d__law_fewest.scope [] [] (He.fAd K d__law_fewest.at_) fdd := def_by c 38 rfl x__law_fewest ok__law_fewest fun _ _ _ _ _ _ us hl => match us, hl with | [_, _, _], _ => rfl
theorem at__law_asked (c : He.SaysD fa fn (G P w K mg base).K) : ∃ fdd, DefAt (G P w K mg base) T X "_law_asked" (He.fAd K d__law_asked.at_) fdd fd__law_asked ∧ FunD K d__law_asked.name d__law_asked.qual d__law_asked.params d__law_asked.body d__law_asked.scope [] [] (He.fAd K d__law_asked.at_) fdd := def_by c 39 rfl x__law_asked ok__law_asked fun _ _ _ _ _ _ us hl => match us, hl with | [_, _, _], _ => rfl
theorem at__law_hand (c : He.SaysD fa fn (G P w K mg base).K) : ∃ fdd, DefAt (G P w K mg base) T X "_law_hand" (He.fAd K d__law_hand.at_) fdd fd__law_hand ∧ FunD K d__law_hand.name d__law_hand.qual d__law_hand.params d__law_hand.body d__law_hand.scope [] [] (He.fAd K d__law_hand.at_) fdd := def_by c 40 rfl x__law_hand ok__law_hand fun _ _ _ _ _ _ us hl => match us, hl with | [_], _ => rfl
theorem at_law (c : He.SaysD fa fn (G P w K mg base).K) : ∃ fdd, DefAt (G P w K mg base) T X "law" (He.fAd K d_law.at_) fdd fd_law ∧ FunD K d_law.name d_law.qual d_law.params d_law.body d_law.scope [] [] (He.fAd K d_law.at_) fdd := def_by c 41 rfl x_law ok_law fun _ _ _ _ _ _ us hl => match us, hl with | [_], _ => rfl
theorem prog (Y : K.In h) (Gn : h.Ns mainGlobals mg) (e : ex K = true) (c : He.SaysD fa fn K) : ProgOk (G P w K mg base) T X := by
  have glo : ∀ (i : Nat) {x : Str}, fa[i]? = some (.glo x) → mg x = some (.ref (He.ga K x)) := fun i x hh => He.glo_ok Y Gn (c.fact i hh)
  refine ⟨?_, ?_, ?_, ?_, ?_, ?_, ?_, ?_, fun k X x => set_rules x rfl⟩
  · refine all_cons ?_ (all_cons ?_ (all_cons ?_ (all_cons ?_ (all_cons ?_ (all_cons ?_ (all_cons ?_ (all_cons ?_ (all_cons ?_ (all_cons ?_ (all_cons ?_ (all_cons ?_ (all_cons ?_ (all_cons ?_ (all_cons ?_ (all_cons ?_ (all_cons ?_ (all_cons ?_ (all_cons ?_ (all_cons ?_ (all_cons ?_ (all_cons ?_ (all_cons ?_ (all_cons ?_ (all_cons ?_ (all_cons ?_ (all_cons ?_ (all_cons ?_ (all_cons ?_ (all_cons ?_ (all_cons ?_ (all_cons ?_ (all_cons ?_ (all_cons ?_ (all_cons ?_ (all_cons ?_ (all_cons ?_ (all_cons ?_ (all_cons ?_ (all_nil)))))))))))))))))))))))))))))))))))))))
    · obtain ⟨fdd, D, F⟩ := at_witnesses (P := P) (w := w) (base := base) (mg := mg) c; exact ⟨_, fdd, fd_witnesses, D, rfl, glo 0 rfl, F.kp⟩
    · obtain ⟨fdd, D, F⟩ := at_told_cases (P := P) (w := w) (base := base) (mg := mg) c; exact ⟨_, fdd, fd_told_cases, D, rfl, glo 1 rfl, F.kp⟩
    · obtain ⟨fdd, D, F⟩ := at_let_cases (P := P) (w := w) (base := base) (mg := mg) c; exact ⟨_, fdd, fd_let_cases, D, rfl, glo 2 rfl, F.kp⟩
    · obtain ⟨fdd, D, F⟩ := at_refused_cases (P := P) (w := w) (base := base) (mg := mg) c; exact ⟨_, fdd, fd_refused_cases, D, rfl, glo 3 rfl, F.kp⟩
    · obtain ⟨fdd, D, F⟩ := at_is_let (P := P) (w := w) (base := base) (mg := mg) c; exact ⟨_, fdd, fd_is_let, D, rfl, glo 4 rfl, F.kp⟩
    · obtain ⟨fdd, D, F⟩ := at_lets (P := P) (w := w) (base := base) (mg := mg) c; exact ⟨_, fdd, fd_lets, D, rfl, glo 5 rfl, F.kp⟩
    · obtain ⟨fdd, D, F⟩ := at_value_condition (P := P) (w := w) (base := base) (mg := mg) c; exact ⟨_, fdd, fd_value_condition, D, rfl, glo 6 rfl, F.kp⟩
    · obtain ⟨fdd, D, F⟩ := at_case_rule (P := P) (w := w) (base := base) (mg := mg) c; exact ⟨_, fdd, fd_case_rule, D, rfl, glo 7 rfl, F.kp⟩
    · obtain ⟨fdd, D, F⟩ := at_is_against (P := P) (w := w) (base := base) (mg := mg) c; exact ⟨_, fdd, fd_is_against, D, rfl, glo 8 rfl, F.kp⟩
    · obtain ⟨fdd, D, F⟩ := at_joined_condition (P := P) (w := w) (base := base) (mg := mg) c; exact ⟨_, fdd, fd_joined_condition, D, rfl, glo 9 rfl, F.kp⟩
    · obtain ⟨fdd, D, F⟩ := at_join (P := P) (w := w) (base := base) (mg := mg) c; exact ⟨_, fdd, fd_join, D, rfl, glo 10 rfl, F.kp⟩
    · obtain ⟨fdd, D, F⟩ := at_hull (P := P) (w := w) (base := base) (mg := mg) c; exact ⟨_, fdd, fd_hull, D, rfl, glo 11 rfl, F.kp⟩
    · obtain ⟨fdd, D, F⟩ := at_without_witnesses (P := P) (w := w) (base := base) (mg := mg) c; exact ⟨_, fdd, fd_without_witnesses, D, rfl, glo 12 rfl, F.kp⟩
    · obtain ⟨fdd, D, F⟩ := at_without_records (P := P) (w := w) (base := base) (mg := mg) c; exact ⟨_, fdd, fd_without_records, D, rfl, glo 13 rfl, F.kp⟩
    · obtain ⟨fdd, D, F⟩ := at_claimed (P := P) (w := w) (base := base) (mg := mg) c; exact ⟨_, fdd, fd_claimed, D, rfl, glo 14 rfl, F.kp⟩
    · obtain ⟨fdd, D, F⟩ := at_all_worlds (P := P) (w := w) (base := base) (mg := mg) c; exact ⟨_, fdd, fd_all_worlds, D, rfl, glo 15 rfl, F.kp⟩
    · obtain ⟨fdd, D, F⟩ := at_price_in (P := P) (w := w) (base := base) (mg := mg) c; exact ⟨_, fdd, fd_price_in, D, rfl, glo 16 rfl, F.kp⟩
    · obtain ⟨fdd, D, F⟩ := at_fewest_errs (P := P) (w := w) (base := base) (mg := mg) c; exact ⟨_, fdd, fd_fewest_errs, D, rfl, glo 17 rfl, F.kp⟩
    · obtain ⟨fdd, D, F⟩ := at_price (P := P) (w := w) (base := base) (mg := mg) c; exact ⟨_, fdd, fd_price, D, rfl, glo 18 rfl, F.kp⟩
    · obtain ⟨fdd, D, F⟩ := at_is_beyond (P := P) (w := w) (base := base) (mg := mg) c; exact ⟨_, fdd, fd_is_beyond, D, rfl, glo 19 rfl, F.kp⟩
    · obtain ⟨fdd, D, F⟩ := at_growth (P := P) (w := w) (base := base) (mg := mg) c; exact ⟨_, fdd, fd_growth, D, rfl, glo 20 rfl, F.kp⟩
    · obtain ⟨fdd, D, F⟩ := at_first_broken (P := P) (w := w) (base := base) (mg := mg) c; exact ⟨_, fdd, fd_first_broken, D, rfl, glo 21 rfl, F.kp⟩
    · obtain ⟨fdd, D, F⟩ := at_needed_records (P := P) (w := w) (base := base) (mg := mg) c; exact ⟨_, fdd, fd_needed_records, D, rfl, glo 22 rfl, F.kp⟩
    · obtain ⟨fdd, D, F⟩ := at__law_vine (P := P) (w := w) (base := base) (mg := mg) c; exact ⟨_, fdd, fd__law_vine, D, rfl, glo 23 rfl, F.kp⟩
    · obtain ⟨fdd, D, F⟩ := at__law_leaf (P := P) (w := w) (base := base) (mg := mg) c; exact ⟨_, fdd, fd__law_leaf, D, rfl, glo 24 rfl, F.kp⟩
    · obtain ⟨fdd, D, F⟩ := at__law_lean (P := P) (w := w) (base := base) (mg := mg) c; exact ⟨_, fdd, fd__law_lean, D, rfl, glo 25 rfl, F.kp⟩
    · obtain ⟨fdd, D, F⟩ := at__law_same (P := P) (w := w) (base := base) (mg := mg) c; exact ⟨_, fdd, fd__law_same, D, rfl, glo 26 rfl, F.kp⟩
    · obtain ⟨fdd, D, F⟩ := at__law_form (P := P) (w := w) (base := base) (mg := mg) c; exact ⟨_, fdd, fd__law_form, D, rfl, glo 27 rfl, F.kp⟩
    · obtain ⟨fdd, D, F⟩ := at__law_case (P := P) (w := w) (base := base) (mg := mg) c; exact ⟨_, fdd, fd__law_case, D, rfl, glo 28 rfl, F.kp⟩
    · obtain ⟨fdd, D, F⟩ := at__law_lets (P := P) (w := w) (base := base) (mg := mg) c; exact ⟨_, fdd, fd__law_lets, D, rfl, glo 29 rfl, F.kp⟩
    · obtain ⟨fdd, D, F⟩ := at__law_log (P := P) (w := w) (base := base) (mg := mg) c; exact ⟨_, fdd, fd__law_log, D, rfl, glo 30 rfl, F.kp⟩
    · obtain ⟨fdd, D, F⟩ := at__law_claims (P := P) (w := w) (base := base) (mg := mg) c; exact ⟨_, fdd, fd__law_claims, D, rfl, glo 31 rfl, F.kp⟩
    · obtain ⟨fdd, D, F⟩ := at__law_rules (P := P) (w := w) (base := base) (mg := mg) c; exact ⟨_, fdd, fd__law_rules, D, rfl, glo 32 rfl, F.kp⟩
    · obtain ⟨fdd, D, F⟩ := at__law_ladder (P := P) (w := w) (base := base) (mg := mg) c; exact ⟨_, fdd, fd__law_ladder, D, rfl, glo 33 rfl, F.kp⟩
    · obtain ⟨fdd, D, F⟩ := at__law_wrong_places (P := P) (w := w) (base := base) (mg := mg) c; exact ⟨_, fdd, fd__law_wrong_places, D, rfl, glo 34 rfl, F.kp⟩
    · obtain ⟨fdd, D, F⟩ := at__law_fewest (P := P) (w := w) (base := base) (mg := mg) c; exact ⟨_, fdd, fd__law_fewest, D, rfl, glo 35 rfl, F.kp⟩
    · obtain ⟨fdd, D, F⟩ := at__law_asked (P := P) (w := w) (base := base) (mg := mg) c; exact ⟨_, fdd, fd__law_asked, D, rfl, glo 36 rfl, F.kp⟩
    · obtain ⟨fdd, D, F⟩ := at__law_hand (P := P) (w := w) (base := base) (mg := mg) c; exact ⟨_, fdd, fd__law_hand, D, rfl, glo 37 rfl, F.kp⟩
    · obtain ⟨fdd, D, F⟩ := at_law (P := P) (w := w) (base := base) (mg := mg) c; exact ⟨_, fdd, fd_law, D, rfl, glo 38 rfl, F.kp⟩
  · refine all_cons ?_ (all_cons ?_ (all_nil))
    · obtain ⟨fdd, D, F⟩ := at_first_broken (P := P) (w := w) (base := base) (mg := mg) c; exact ⟨_, fdd, fd_first_broken, D, kb_by F 0 _ _ (fun _ _ _ _ _ _ us ws h1 h2 => match us, ws, h1, h2 with | [], [_, _], _, _ => rfl), glo 21 rfl, F.kp⟩
    · obtain ⟨fdd, D, F⟩ := at_needed_records (P := P) (w := w) (base := base) (mg := mg) c; exact ⟨_, fdd, fd_needed_records, D, kb_by F 0 _ _ (fun _ _ _ _ _ _ us ws h1 h2 => match us, ws, h1, h2 with | [], [_, _], _, _ => rfl), glo 22 rfl, F.kp⟩
  · refine all_cons ?_ (all_cons ?_ (all_nil))
    · obtain ⟨fdd, D, F⟩ := at_World_bears (P := P) (w := w) (base := base) (mg := mg) c; exact ⟨_, fdd, fd_World_bears, D, He.cls_ok (c.fact 57 rfl), He.meth_ok (c.fact 59 rfl)⟩
    · obtain ⟨fdd, D, F⟩ := at_World_rule_for (P := P) (w := w) (base := base) (mg := mg) c; exact ⟨_, fdd, fd_World_rule_for, D, He.cls_ok (c.fact 57 rfl), He.meth_ok (c.fact 60 rfl)⟩
  · refine all_cons ?_ (all_nil)
    · obtain ⟨fdd, D, F⟩ := at_World___init__ (P := P) (w := w) (base := base) (mg := mg) c; exact ⟨"World.__init__", _, fdd, fd_World___init__, by kernel_rfl, D, He.mkr_ok (c.fact 58 rfl), glo 56 rfl⟩
  · exact all_cons (He.free_ok Y Gn (c.fact 39 rfl)) (all_cons (He.free_ok Y Gn (c.fact 40 rfl)) (all_cons (He.free_ok Y Gn (c.fact 41 rfl)) (all_cons (He.free_ok Y Gn (c.fact 42 rfl)) (all_cons (He.free_ok Y Gn (c.fact 43 rfl)) (all_cons (He.free_ok Y Gn (c.fact 44 rfl)) (all_cons (He.free_ok Y Gn (c.fact 45 rfl)) (all_cons (He.free_ok Y Gn (c.fact 46 rfl)) (all_cons (He.free_ok Y Gn (c.fact 47 rfl)) (all_cons (He.free_ok Y Gn (c.fact 48 rfl)) (all_cons (He.free_ok Y Gn (c.fact 49 rfl)) (all_cons (He.free_ok Y Gn (c.fact 50 rfl)) (all_cons (He.free_ok Y Gn (c.fact 51 rfl)) (all_cons (He.free_ok Y Gn (c.fact 52 rfl)) (all_cons (He.free_ok Y Gn (c.fact 53 rfl)) (all_cons (He.free_ok Y Gn (c.fact 54 rfl)) (all_cons (He.free_ok Y Gn (c.fact 55 rfl)) (all_nil)))))))))))))))))
  · exact all_nil
  · exact fun _ => isVal_ok Y Gn (by simpa [ex] using e)
  · intro cl f hh
    have hm := of_decide_eq_true (show decide ((cl, f) ∈ ([("World", "names"), ("World", "least"), ("World", "refused")] : List (Str × Str))) = true from hh)
    exact (all_cons ⟨He.cls_ok (c.fact 57 rfl), He.noat_ok (c.fact 61 rfl)⟩ (all_cons ⟨He.cls_ok (c.fact 57 rfl), He.noat_ok (c.fact 62 rfl)⟩ (all_cons ⟨He.cls_ok (c.fact 57 rfl), He.noat_ok (c.fact 63 rfl)⟩ (all_nil))) : ∀ p ∈ ([("World", "names"), ("World", "least"), ("World", "refused")] : List (Str × Str)), Cls K (He.ga K p.1) ∧ NoAttr K (He.ga K p.1) p.2) (cl, f) hm
end
end MP.H75
open PySem PySem.W PySem.Calls PyProof.Rows
theorem MP.H75.holds_of (n : Nat) (hn : L2.Room (n + 1) callerA) (hrun : ∀ ns : List Int, ns.length ≤ 63 → ∃ st, MP.callD MP.H75.X n "law" [.scr ns] [] = some (.bl true, st)) : PySem.Challenge.rw_whomayerr_k75_whole_growth.Holds := by
  w_on; o_law
  refine HandSHeadRun.head_imp (r := OpenLaw.row PySem.Challenge.rw_whomayerr_k75_whole_growth) (q := view (OpenLaw.row PySem.Challenge.rw_whomayerr_k75_whole_growth).prog [0, 51]) (H := MP.H75.hk) (ob := MP.H75.ob) (M := 8000) (loose := MP.H75.lo0 ++ MP.H75.lo1) (d := HandSHeadRun.topDef (OpenLaw.row PySem.Challenge.rw_whomayerr_k75_whole_growth).prog 51) (kwd := []) MP.H75.ob_eq
    MP.H75.run (by kernel_rfl) (by kernel_rfl) (by kernel_rfl) (by rfl) (by first | assumption | decide +kernel) (by decide +kernel) ⟨rfl, rfl, rfl, rfl, rfl, by decide +kernel⟩ ?hw ?hc
  case hw => w_witness2
  case hc =>
    refine L2.walk_ofE (l := PySem.Challenge.rw_whomayerr_k75_whole_growth) (n := 63) (k := n + 1) (x := "script") (CX := L2.CX0) rfl (by decide) (by kernel_rfl) hn ?F (fun _ _ _ _ z => z)
    intro w mg fa h Y Gn hmg0
    obtain ⟨K, KX, e, c⟩ := Y
    have hmg : mg ("law" : PySem.Str) = some (.ref fa) := by
      have e : (HandSHeadRun.topDef (OpenLaw.row PySem.Challenge.rw_whomayerr_k75_whole_growth).prog 51).name = ("law" : PySem.Str) := by kernel_rfl
      rw [← e]
      exact hmg0
    obtain ⟨fdd, D, F⟩ := MP.H75.at_law (P := (PySem.Challenge.rw_whomayerr_k75_whole_growth).prog) (w := w) (base := h) (mg := mg) c
    have ea := hmg.symm.trans (He.glo_ok KX Gn (c.fact 38 (f := .glo "law") rfl))
    cases ea
    have b := L2.FunD.bindsA (ps := ["script"]) F fun _ _ _ _ _ _ us hl => match us, hl with | [_], _ => rfl
    refine ⟨K, fdd, MP.spLaw (MP.H75.G (PySem.Challenge.rw_whomayerr_k75_whole_growth).prog w K mg h), KX, fun s v => b s [v] rfl, fun H a ns hl _ hS => ⟨a, ns, rfl, hl, hS, fun _ => rfl⟩, fun base _ Gb => ?_⟩
    exact MP.law_ok (MP.H75.prog (P := (PySem.Challenge.rw_whomayerr_k75_whole_growth).prog) (w := w) (base := base) KX Gn e c) D rfl n hrun
end
section
set_option Elab.async false
set_option linter.all false
set_option maxRecDepth 100000
set_option maxHeartbeats 0
/-! Z75: k75 holds. -/
namespace MP.H75
open PySem MP MP.K75
theorem la : La X := ⟨x_witnesses, x_told_cases, x_let_cases, x_refused_cases, x_is_let, x_lets, x_value_condition, x_case_rule, x_is_against, x_joined_condition, x_join, x_hull, x_without_witnesses, x_without_records, x_claimed, x_World___init__, x_World_rule_for, x_World_bears, x_all_worlds, x_price_in, x_fewest_errs, x_price, x_is_beyond, x_growth, x_first_broken, x_needed_records⟩
theorem lw : Lw X := ⟨x__law_vine, x__law_leaf, x__law_lean, x__law_same, x__law_form, x__law_case, x__law_lets, x__law_log, x__law_claims, x__law_rules, x__law_ladder, x__law_wrong_places, x__law_fewest, x__law_asked, x__law_hand, x_law⟩
theorem law_w : LaW X := ⟨by kernel_rfl, by kernel_rfl, by kernel_rfl, by kernel_rfl⟩
theorem lap : 2 ^ 24 ≤ X.lap := by show 2 ^ 24 ≤ 2 ^ 64; decide
end MP.H75
open PySem
theorem PySem.Challenge.cw_whomayerr_k75_whole_growth_holds : PySem.Challenge.rw_whomayerr_k75_whole_growth.Holds := by
  refine MP.H75.holds_of 22 ⟨rfl, by decide, by decide⟩ fun ns _ => ?_
  exact MP.K75.law75 MP.H75.la MP.H75.law_w MP.H75.lw MP.H75.lap ns
end
