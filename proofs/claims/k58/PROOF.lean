import PyProof.Rows.All
import Wide.All
import OpenK.AllK
import Wide.FinOn
import HandS.ForMost
import HandS.Zip
import HandS.Conv
import HandS.RaiseMore
import HandS.IsInst
import HandS.TupAny
import HandS.Deep
import HandS.Style
import HandS.Flow
import HandS.HeadHook2
import HandS.Defaults
import KE.SortData
import KE.KIndexOf
import KE.KStar
import HandS.TupMul
import KE.KTupSum
import HandS.SortKw
import HandS.TupLen
import HandS.More
import KE.KDictSum
import HandS.SetFor
import KE.GoesMore
import HandS.NoneIn
import HandS.Iter
import KE.KDictDisplayH
import PyProof.Rows.TupDisplay
import HandS.List
import HandS.TryOnly
import HandS.ExcOwn
import PyProof.ListIndex
import HandS.HeadEnd
import PyProof.P3Eq
import HandS.Head2
import PySem.Challenge.RW_hightrees_k58_whole_told_forests_of_outs
set_option Elab.async false
set_option linter.all false
set_option maxRecDepth 100000
set_option maxHeartbeats 4000000
/-! Va: an interpreter over plain data for the fragment of Python that the laws use. -/
namespace Vi
open PySem L2

/-- a value: plain data, a thing of the store, the script -/
inductive D where
  | v (p : PyData)
  | ref (n : Nat)
  | scr (ns : List Int)

/-- a thing of the store -/
inductive O where
  | lst (xs : List D)
  | dct (kvs : List (Str × D))
  | dk (lk : Bool) (kvs : List (L2.Key × D))
  | dt (lk : Bool) (kvs : List (List L2.Key × D))

abbrev Sto := List O
abbrev En := List (Option D)

/-- what an evaluation comes to -/
inductive R (α : Type) where
  | ok (a : α)
  | no
def R.bind {α β : Type} (r : R α) (f : α → R β) : R β := match r with
  | .ok a => f a
  | .no => .no
@[simp] theorem R.bind_ok {α β : Type} (a : α) (f : α → R β) : (R.ok a).bind f = f a := rfl
@[simp] theorem R.bind_no {α β : Type} (f : α → R β) : (R.no : R α).bind f = .no := rfl
theorem R.bind_eq {α β : Type} {r : R α} {f : α → R β} {b : β} (h : r.bind f = .ok b) : ∃ a, r = .ok a ∧ f a = .ok b := by
  cases r with
  | ok a => exact ⟨a, rfl, h⟩
  | no => cases h
def R.of {α : Type} : Option α → R α
  | some a => .ok a
  | none => .no
@[simp] theorem R.of_some {α : Type} (a : α) : R.of (some a) = .ok a := rfl
@[simp] theorem R.of_none {α : Type} : (R.of none : R α) = .no := rfl
theorem R.of_eq {α : Type} {o : Option α} {a : α} (h : R.of o = .ok a) : o = some a := by
  cases o with
  | some b => cases h; rfl
  | none => cases h

inductive Flow where
  | nx | bk | ct | rt (d : D) | ex

def notEx : Flow → Bool
  | .ex => false
  | _ => true

/-! ### the language -/
inductive Bl where
  | tuple | list | int | len | abs | max2 | min2 | repr | sum | all | min1 | max1
inductive Mt where
  | append | pop | popAt | count
def mtTup : Mt → Bool := fun _ => false
inductive Ty where
  | int | bool | str | tuple | list
mutual
inductive E where
  | var (i : Nat)
  | cst (p : PyData)
  | tup (es : List Ar)
  | lst (es : List Ar)
  | bin (op : Operator) (a b : E)
  | neg (a : E)
  | not (a : E)
  | and (es : List E)
  | or (es : List E)
  | cmp (op : CmpOp) (a b : E)
  | chain (op op' : CmpOp) (a b c : E)
  | isN (neg : Bool) (a : E)
  | ite (c a b : E)
  | idx (a i : E)
  | slice (a : E) (lo hi : Option E)
  | rev (a : E)
  | call (f : Nat) (es : List E)
  | blt (b : Bl) (es : List E)
  | lrng (es : List E)
  | trng (es : List E)
  | sorted (rev : Bool) (a : E)
  | isa (t : Ty) (a : E)
  | mt (m : Mt) (o : E) (es : List E)
  | comp (elt : E) (own : List Nat) (t : T) (it : It) (c : Option E)
  | new (e : E)
  | ndct (kvs : List (Str × E))
  | gint (x : Str) (i : Int)
  | dpairs (e : E)
  | nd (t : Bool)
  | nd1 (t : Bool) (k v : E)
inductive Ar where
  | one (e : E)
  | star (e : E)
inductive T where
  | name (i : Nat)
  | tup (ts : List T)
  | sub (o i : E)
inductive It where
  | val (e : E)
  | rng (es : List E)
  | enum (e : E)
  | zip (a b : E)
  | zips (a b : E)
  | rngD (a b : E)
end
inductive S where
  | set (t : T) (e : E)
  | par (ts : List T) (es : List E)
  | aug (i : Nat) (op : Operator) (e : E)
  | augS (o i : E) (op : Operator) (e : E)
  | tryR (w : Bool) (f : Nat) (es : List E)
  | raise
  | expr (e : E)
  | ret (e : E)
  | retN
  | ite (c : E) (a b : List S)
  | forS (t : T) (it : It) (b : List S)
  | whileS (c : E) (b : List S)
  | forK (t : T) (i : Nat) (b : List S)
  | bad
  | pass
  | brk
  | cont

/-! ### values -/
def plain1 : D → Option PyData
  | .v p => some p
  | _ => none
def plains : List D → Option (List PyData)
  | [] => some []
  | .v p :: r => (plains r).map (p :: ·)
  | _ :: _ => none
/-- the items of a list or tuple, and which of both it is (true: a tuple) -/
def seqOf (st : Sto) : D → Option (Bool × List D)
  | .v (.tuple xs) => some (true, xs.map .v)
  | .v (.list xs) => some (false, xs.map .v)
  | .ref n => match st[n]? with
    | some (.lst xs) => some (false, xs)
    | _ => none
  | _ => none
def toInt : D → Option Int
  | .v (.int i) => some i
  | _ => none
def toBool : D → Option Bool
  | .v (.bool b) => some b
  | _ => none
def truthOf (st : Sto) : D → Option Bool
  | .v .none => some false
  | .v (.bool b) => some b
  | .v (.int i) => some (i != 0)
  | .v (.str s) => if decide (s.length ≤ sizeLine) then some ((s.length : Int) != 0) else none
  | d => match seqOf st d with
    | some (_, ds) => some (!ds.isEmpty)
    | none => none
def small (n : Nat) : Bool := decide (n ≤ sizeLine)
def mkTup (ds : List D) : R D := match plains ds with
  | some ps => if small ps.length then .ok (.v (.tuple ps)) else .no
  | none => .no
def mkLst (ds : List D) : R D := match plains ds with
  | some ps => if small ps.length then .ok (.v (.list ps)) else .no
  | none => .no
/-- plain data of a value: a thing of the store as it stands (one deep) -/
def toP (st : Sto) : D → Option PyData
  | .v p => some p
  | .ref n => match st[n]? with
    | some (.lst xs) => (plains xs).map .list
    | _ => none
  | .scr _ => none

/-! ### dicts with whole numbers, texts or rows of them for keys -/
def keyP : L2.Key → PyData
  | .inl i => .int i
  | .inr s => .str s
def keyT (k : List L2.Key) : PyData := .tuple (k.map keyP)
def toKey : PyData → Option L2.Key
  | .int i => some (.inl i)
  | .str s => some (.inr s)
  | _ => none
def toKs : List PyData → Option (List L2.Key)
  | [] => some []
  | p :: r => (toKey p).bind fun k => (toKs r).map (k :: ·)
def toKeys : PyData → Option (List L2.Key)
  | .tuple xs => toKs xs
  | _ => none
section
variable {κ : Type} [DecidableEq κ]
def kget (kvs : List (κ × D)) (k : κ) : Option D := (kvs.find? fun kv => decide (kv.1 = k)).map (·.2)
def kput (kvs : List (κ × D)) (k : κ) (d : D) : List (κ × D) := if (kget kvs k).isSome then kvs.map fun kv => if kv.1 = k then (kv.1, d) else kv else kvs ++ [(k, d)]
end
def pairKs : List PyData → Option (List (L2.Key × PyData))
  | [] => some []
  | .tuple [k, p] :: r => (toKey k).bind fun k => (pairKs r).map ((k, p) :: ·)
  | _ :: _ => none
def kmerge (kvs : List (L2.Key × PyData)) : List (L2.Key × D) := kvs.foldl (fun acc kv => kput acc kv.1 (.v kv.2)) []
def objOf (st : Sto) : D → Option O
  | .ref n => st[n]?
  | _ => none
/-- what a dict has at a key: none, it is no dict with such keys -/
def dGet : O → D → Option (Option D)
  | .dk _ kvs, .v p => (toKey p).map fun k => kget kvs k
  | .dt _ kvs, .v p => (toKeys p).map fun k => kget kvs k
  | _, _ => none
def dAt (st : Sto) (x i : D) : Option (Option D) := (objOf st x).bind fun o => dGet o i
def dPut : O → D → D → Option O
  | .dk false kvs, .v p, d => if kvs.length < sizeLine then (toKey p).map fun k => .dk false (kput kvs k d) else none
  | .dt false kvs, .v p, d => if kvs.length < sizeLine then (toKeys p).map fun k => .dt false (kput kvs k d) else none
  | _, _, _ => none
def dKeys : O → Option (List PyData)
  | .dk false kvs => some (kvs.map fun kv => keyP kv.1)
  | .dt false kvs => some (kvs.map fun kv => keyT kv.1)
  | _ => none
def keysOf (st : Sto) (x : D) : Option (List PyData) := (objOf st x).bind dKeys
def tKeys : O → Option (List PyData)
  | .dt false kvs => some (kvs.map fun kv => keyT kv.1)
  | _ => none
def keysT (st : Sto) (x : D) : Option (List PyData) := (objOf st x).bind tKeys
def lockO : O → Option (O × List PyData)
  | .dk false kvs => some (.dk true kvs, kvs.map fun kv => keyP kv.1)
  | .dt false kvs => some (.dt true kvs, kvs.map fun kv => keyT kv.1)
  | _ => none
def unlockO : O → Option O
  | .dk true kvs => some (.dk false kvs)
  | .dt true kvs => some (.dt false kvs)
  | _ => none
def mulOk (i j : Int) : Bool := (decide (-(2 ^ 64) < i) && decide (i < 2 ^ 64)) || (decide (-(2 ^ 64) < j) && decide (j < 2 ^ 64))
def binI (op : Operator) (i j : Int) : R D := match op with
  | .Add => .ok (.v (.int (i + j)))
  | .Sub => .ok (.v (.int (i - j)))
  | .Mult => if mulOk i j then .ok (.v (.int (i * j))) else .no
  | .FloorDiv => if decide (j ≠ 0) && decide (j.natAbs < 1073741824) then .ok (.v (.int (i.fdiv j))) else .no
  | .Mod => if decide (j ≠ 0) then .ok (.v (.int (i.fmod j))) else .no
  | .RShift => if decide (0 ≤ j) then .ok (.v (.int (i / 2 ^ j.toNat))) else .no
  | .LShift => if decide (0 ≤ j) && decide (j ≤ 1000000) && decide (i.natAbs < 2 ^ 64) then .ok (.v (.int (i * 2 ^ j.toNat))) else .no
  | .Pow => if decide (0 ≤ j) && decide (j ≤ 1000000) && decide (i.natAbs < 2 ^ 64) then .ok (.v (.int (i ^ j.toNat))) else .no
  | .BitAnd => .ok (.v (.int (Builtin.bitAnd i j)))
  | _ => .no
def binop (st : Sto) (op : Operator) (x y : D) : R D := match x, y with
  | .v (.int i), .v (.int j) => binI op i j
  | .v (.str s), .v (.str t) => match op with
    | .Add => if small (s.length + t.length) then .ok (.v (.str (s ++ t))) else .no
    | _ => .no
  | .v (.tuple xs), .v (.tuple ys) => match op with
    | .Add => if small (xs.length + ys.length) then .ok (.v (.tuple (xs ++ ys))) else .no
    | _ => .no
  | .v (.tuple xs), .v (.int k) => match op with
    | .Mult => if decide (0 ≤ k) && decide (k ≤ 1000) && decide (xs.length ≤ 1000) then .ok (.v (.tuple (List.replicate k.toNat xs).flatten)) else .no
    | _ => .no
  | x, .v (.int k) => match op with
    | .Mult => match seqOf st x with
      | some (false, ds) => if decide (0 ≤ k) && decide (k < 2 ^ 62) && small (ds.length * k.toNat) then mkLst (List.replicate k.toNat ds).flatten else .no
      | _ => .no
    | _ => .no
  | x, y => match op with
    | .Add => match seqOf st x, seqOf st y with
      | some (false, ds), some (false, es) => if small (ds.length + es.length) then mkLst (ds ++ es) else .no
      | _, _ => .no
    | _ => .no
def cmpI (op : CmpOp) (i j : Int) : Option Bool := match op with
  | .Lt => some (decide (i < j))
  | .LtE => some (decide (i ≤ j))
  | .Gt => some (decide (j < i))
  | .GtE => some (decide (j ≤ i))
  | _ => none
def eqOk (p q : PyData) : Bool := SeqAt.shaped p && SeqAt.shaped q
def cmpop0 (st : Sto) (op : CmpOp) (x y : D) : R Bool := match op with
  | .Eq => match toP st x, toP st y with
    | some p, some q => if eqOk p q then .ok (PyData.eqv p q) else .no
    | _, _ => .no
  | .NotEq => match toP st x, toP st y with
    | some p, some q => if eqOk p q then .ok (!PyData.eqv p q) else .no
    | _, _ => .no
  | .In => match toP st x, seqOf st y with
    | some p, some (_, ds) => match plains ds with
      | some qs => if SeqAt.shaped p && SeqAt.shaped (.list qs) && SeqAt.shaped (.tuple qs) then .ok (qs.any fun z => PyData.eqv z p) else .no
      | none => .no
    | _, _ => .no
  | .NotIn => match toP st x, seqOf st y with
    | some p, some (_, ds) => match plains ds with
      | some qs => if SeqAt.shaped p && SeqAt.shaped (.list qs) && SeqAt.shaped (.tuple qs) then .ok (!qs.any fun z => PyData.eqv z p) else .no
      | none => .no
    | _, _ => .no
  | _ => match toInt x, toInt y with
    | some i, some j => R.of (cmpI op i j)
    | _, _ => .no
def sPair : D → D → Option (Str × Str)
  | .v (.str s), .v (.str t) => some (s, t)
  | _, _ => none
def cmpop (st : Sto) (op : CmpOp) (x y : D) : R Bool := match sPair x y with
  | some (s, t) => match op with
    | .Eq => .ok (decide (s = t))
    | .NotEq => .ok (!decide (s = t))
    | _ => .no
  | none => match op with
    | .In => match dAt st y x with
      | some r => .ok r.isSome
      | none => cmpop0 st op x y
    | .NotIn => match dAt st y x with
      | some r => .ok (!r.isSome)
      | none => cmpop0 st op x y
    | _ => cmpop0 st op x y
def isNone : D → Bool
  | .v .none => true
  | _ => false
def tyOf (st : Sto) : D → Option String
  | .v .none => some "NoneType"
  | .v (.bool _) => some "bool"
  | .v (.int _) => some "int"
  | .v (.str _) => some "str"
  | .v (.tuple _) => some "tuple"
  | .v (.list _) => some "list"
  | .ref n => match st[n]? with
    | some (.lst _) => some "list"
    | some (.dct _) => some "dict"
    | _ => none
  | _ => none
def tyStr : Ty → String
  | .int => "int"
  | .bool => "bool"
  | .str => "str"
  | .tuple => "tuple"
  | .list => "list"
def isTy (st : Sto) (t : Ty) (d : D) : Option Bool := (tyOf st d).map fun x => x == tyStr t || (x == "bool" && tyStr t == "int")
def index0 (st : Sto) (x i : D) : R D := match i with
  | .v (.int k) => match seqOf st x with
    | some (_, ds) => R.of (atI ds k)
    | none => .no
  | .v (.str s) => match x with
    | .ref n => match st[n]? with
      | some (.dct kvs) => R.of (kvs.lookup s)
      | _ => .no
    | _ => .no
  | _ => .no
def index (st : Sto) (x i : D) : R D := match dAt st x i with
  | some r => R.of r
  | none => index0 st x i
def cut {α : Type} (xs : List α) (lo hi : Option Int) : List α := (xs.drop (HT.sIx xs.length 0 lo)).take (HT.sIx xs.length xs.length hi - HT.sIx xs.length 0 lo)
def sliced (st : Sto) (x : D) (lo hi : Option Int) : R D := match x with
  | .v (.tuple xs) => .ok (.v (.tuple (cut xs lo hi)))
  | x => match seqOf st x with
    | some (false, ds) => mkLst (cut ds lo hi)
    | _ => .no
def reversed (st : Sto) (x : D) : R D := match seqOf st x with
  | some (false, ds) => mkLst ds.reverse
  | _ => .no
def intsOf : List PyData → Option (List Int)
  | [] => some []
  | .int i :: r => (intsOf r).map (i :: ·)
  | _ :: _ => none
def boolsOf : List PyData → Option (List Bool)
  | [] => some []
  | .bool i :: r => (boolsOf r).map (i :: ·)
  | _ :: _ => none
/-- the whole numbers of a list -/
def nsOf (st : Sto) (x : D) : Option (List Int) := match seqOf st x with
  | some (false, ds) => (plains ds).bind intsOf
  | _ => none
def leastOf : List Int → Option Int
  | [] => none
  | n :: r => some (r.foldl min n)
def mostOf : List Int → Option Int
  | [] => none
  | n :: r => some (r.foldl max n)
def lenOf (st : Sto) (x : D) : R D := match x with
  | .v (.str s) => if small s.length then .ok (.v (.int s.length)) else .no
  | x => match seqOf st x with
    | some (_, ds) => .ok (.v (.int ds.length))
    | none => match keysOf st x with
      | some ps => .ok (.v (.int ps.length))
      | none => .no
def reprOk (p : PyData) : Bool := p.showable && small p.shown.length && decide (p.depth ≤ 60) && !p.hasDict
def blt (st : Sto) : Bl → List D → R D
  | .tuple, [x] => match seqOf st x with
    | some (_, ds) => mkTup ds
    | none => .no
  | .list, [x] => match seqOf st x with
    | some (_, ds) => mkLst ds
    | none => .no
  | .int, [.v (.int i)] => .ok (.v (.int i))
  | .int, [.v (.bool b)] => .ok (.v (.int (if b then 1 else 0)))
  | .len, [x] => lenOf st x
  | .abs, [.v (.int i)] => .ok (.v (.int (if i < 0 then -i else i)))
  | .max2, [.v (.int i), .v (.int j)] => .ok (.v (.int (if j > i then j else i)))
  | .min2, [.v (.int i), .v (.int j)] => .ok (.v (.int (if j < i then j else i)))
  | .repr, [x] => match toP st x with
    | some p => if reprOk p then .ok (.v (.str p.shown)) else .no
    | none => .no
  | .sum, [x] => match seqOf st x with
    | some (_, ds) => match plains ds with
      | some ps => (R.of (intsOf ps)).bind fun ns => .ok (.v (.int ns.sum))
      | none => .no
    | _ => .no
  | .all, [x] => match seqOf st x with
    | some (false, ds) => match plains ds with
      | some ps => (R.of (boolsOf ps)).bind fun bs => .ok (.v (.bool (bs.all id)))
      | none => .no
    | _ => .no
  | .min1, [x] => (R.of ((nsOf st x).bind leastOf)).bind fun i => .ok (.v (.int i))
  | .max1, [x] => (R.of ((nsOf st x).bind mostOf)).bind fun i => .ok (.v (.int i))
  | _, _ => .no
def rngI (lo hi : Int) : List D := (List.range (hi - lo).toNat).map fun i => D.v (.int (lo + (i : Nat)))
def rngOk (i : Int) : Bool := decide (-(2 ^ 62) ≤ i) && decide (i < 2 ^ 62)
def rngOf : List D → R (List D)
  | [.v (.int j)] => if rngOk j then .ok (rngI 0 j) else .no
  | [.v (.int i), .v (.int j)] => if rngOk i && rngOk j then .ok (rngI i j) else .no
  | _ => .no
/-- i, i - 1, .. down to above j -/
def rngDn (i j : Int) : List D := (List.range (i - j).toNat).map fun k => D.v (.int (i - (k : Nat)))
def rngDOf : List D → R (List D)
  | [.v (.int i), .v (.int j)] => if rngOk i && rngOk j then .ok (rngDn i j) else .no
  | _ => .no
def alikeAllB (ps : List PyData) : Bool := ps.all fun p => ps.all fun q => PySem.W.alike p q
def sortOk (ps : List PyData) : Bool := small ps.length && alikeAllB ps && ((ps.all fun p => match p with | .tuple _ => true | _ => false) || (ps.all fun p => match p with | .none => false | .tuple _ => false | _ => true)) && ps.all fun p => decide (p.depth ≤ 60)
def intKs {α : Type} : List (L2.Key × α) → Option (List Int)
  | [] => some []
  | (.inl i, _) :: r => (intKs r).map (i :: ·)
  | _ :: _ => none
/-- the whole-number keys of a dict -/
def keysI (st : Sto) (x : D) : Option (List Int) := match objOf st x with
  | some (.dk false kvs) => intKs kvs
  | _ => none
def sortedOf0 (st : Sto) (rev : Bool) (x : D) : R D := match keysT st x with
  | some ps => if !rev && sortOk ps then .ok (.v (.list (ps.mergeSort (PySem.W.dataLe rev id)))) else .no
  | none => match seqOf st x with
  | some (b, ds) => match plains ds with
    | some ps => if !(b && rev) && sortOk ps then .ok (.v (.list (ps.mergeSort (PySem.W.dataLe rev id)))) else .no
    | none => .no
  | _ => .no
def sortedOf (st : Sto) (rev : Bool) (x : D) : R D := match keysI st x with
  | some ks => if !rev && decide (ks.length < 64) then .ok (.v (.list ((ks.mergeSort fun a b => decide (a ≤ b)).map .int))) else .no
  | none => sortedOf0 st rev x
/-- alloc a plain list -/
def alloc (st : Sto) : D → R (D × Sto)
  | .v (.list xs) => .ok (.ref st.length, st ++ [.lst (xs.map .v)])
  | _ => .no
def putS (kvs : List (Str × D)) (k : Str) (d : D) : List (Str × D) :=
  if (kvs.lookup k).isSome then kvs.map fun kv => if kv.1 = k then (kv.1, d) else kv else kvs ++ [(k, d)]
def store0 (st : Sto) (o i d : D) : R Sto := match o, i with
  | .ref n, .v (.int k) => match st[n]? with
    | some (.lst xs) => match ixN xs.length k with
      | some j => .ok (st.set n (.lst (xs.set j d)))
      | none => .no
    | _ => .no
  | .ref n, .v (.str s) => match st[n]? with
    | some (.dct kvs) => if kvs.length < 1000 then .ok (st.set n (.dct (putS kvs s d))) else .no
    | _ => .no
  | _, _ => .no
def store (st : Sto) (o i d : D) : R Sto := match o with
  | .ref n => match (st[n]?).bind fun ob => dPut ob i d with
    | some ob => .ok (st.set n ob)
    | none => store0 st o i d
  | _ => store0 st o i d
def meth (st : Sto) : Mt → D → List D → R (D × Sto)
  | .append, .ref n, [d] => match st[n]? with
    | some (.lst xs) => if xs.length < sizeLine then .ok (.v .none, st.set n (.lst (xs ++ [d]))) else .no
    | _ => .no
  | .pop, .ref n, [] => match st[n]? with
    | some (.lst xs) => match xs.getLast? with
      | some d => .ok (d, st.set n (.lst xs.dropLast))
      | none => .no
    | _ => .no
  | .popAt, .ref n, [.v (.int i)] => match st[n]? with
    | some (.lst xs) => if decide (0 ≤ i) && decide (i < 2 ^ 62) then match xs[i.toNat]? with
      | some d => .ok (d, st.set n (.lst (xs.eraseIdx i.toNat)))
      | none => .no
      else .no
    | _ => .no
  | .count, x, [.v (.int k)] => match nsOf st x with
    | some ns => .ok (.v (.int (ns.count k : Nat)), st)
    | none => .no
  | _, _, _ => .no

/-- a whole number at a place of a list of the store -/
def getI (st : Sto) : D → D → Option Int
  | .ref n, .v (.int k) => match st[n]? with
    | some (.lst xs) => (atI xs k).bind toInt
    | _ => none
  | _, _ => none
def setI (st : Sto) : D → D → Int → Option Sto
  | .ref n, .v (.int k), z => match st[n]? with
    | some (.lst xs) => (ixN xs.length k).map fun j => st.set n (.lst (xs.set j (.v (.int z))))
    | _ => none
  | _, _, _ => none

/-! ### evaluation -/
structure Cfg where
  call : Nat → List D → Sto → R (D × Sto)
  callX : Nat → List D → Sto → R (Option D × Sto)
  lim : Nat
inductive Src where
  | items (ds : List D)
  | live (n : Nat)
def wipeE (env : En) : List Nat → En
  | [] => env
  | v :: vs => (wipeE env vs).set v none
def getV (env : En) (i : Nat) : R D := match env[i]? with
  | some (some d) => .ok d
  | _ => .no
/-- the turns of a comprehension; turn: one item -/
def compL (turn : D → Sto → R (Option D × Sto)) : List D → Sto → List PyData → R (D × Sto)
  | [], st, acc => .ok (.v (.list acc), st)
  | x :: r, st, acc => (turn x st).bind fun (o, st) => match o with
    | some (.v p) => if acc.length < sizeLine then compL turn r st (acc ++ [p]) else .no
    | some _ => .no
    | none => compL turn r st acc
def compV (turn : D → Sto → R (Option D × Sto)) (n : Nat) : Nat → Nat → Sto → List PyData → R (D × Sto)
  | 0, _, _, _ => .no
  | k + 1, i, st, acc => match st[n]? with
    | some (.lst xs) => match xs[i]? with
      | some x => (turn x st).bind fun (o, st) => match o with
        | some (.v p) => if acc.length < sizeLine then compV turn n k (i + 1) st (acc ++ [p]) else .no
        | some _ => .no
        | none => compV turn n k (i + 1) st acc
      | none => .ok (.v (.list acc), st)
    | _ => .no

mutual
def evE (C : Cfg) : E → En → Sto → R (D × Sto)
  | .var i, env, st => (getV env i).bind fun d => .ok (d, st)
  | .cst p, _, st => .ok (.v p, st)
  | .tup es, env, st => (evAs C es env st).bind fun (ds, st) => (mkTup ds).bind fun d => .ok (d, st)
  | .lst es, env, st => (evAs C es env st).bind fun (ds, st) => (mkLst ds).bind fun d => .ok (d, st)
  | .bin op a b, env, st => (evE C a env st).bind fun (x, st) => (evE C b env st).bind fun (y, st) => (binop st op x y).bind fun d => .ok (d, st)
  | .neg a, env, st => (evE C a env st).bind fun (x, st) => (R.of (toInt x)).bind fun i => .ok (.v (.int (-i)), st)
  | .not a, env, st => (evE C a env st).bind fun (x, st) => (R.of (truthOf st x)).bind fun b => .ok (.v (.bool (!b)), st)
  | .and es, env, st => evAnd C es env st
  | .or es, env, st => evOr C es env st
  | .cmp op a b, env, st => (evE C a env st).bind fun (x, st) => (evE C b env st).bind fun (y, st) => (cmpop st op x y).bind fun c => .ok (.v (.bool c), st)
  | .chain op op' a b c, env, st => (evE C a env st).bind fun (x, st) => (evE C b env st).bind fun (y, st) => (cmpop st op x y).bind fun k =>
      if k then (evE C c env st).bind fun (z, st) => (cmpop st op' y z).bind fun k => .ok (.v (.bool k), st) else .ok (.v (.bool false), st)
  | .isN neg a, env, st => (evE C a env st).bind fun (x, st) => .ok (.v (.bool (if neg then !isNone x else isNone x)), st)
  | .ite c a b, env, st => (evE C c env st).bind fun (x, st) => (R.of (truthOf st x)).bind fun k => if k then evE C a env st else evE C b env st
  | .idx a i, env, st => (evE C a env st).bind fun (x, st) => (evE C i env st).bind fun (y, st) => (index st x y).bind fun d => .ok (d, st)
  | .slice a lo hi, env, st => (evE C a env st).bind fun (x, st) => (evO C lo env st).bind fun (l, st) => (evO C hi env st).bind fun (h, st) => (sliced st x l h).bind fun d => .ok (d, st)
  | .rev a, env, st => (evE C a env st).bind fun (x, st) => (reversed st x).bind fun d => .ok (d, st)
  | .call f es, env, st => (evEs C es env st).bind fun (ds, st) => C.call f ds st
  | .blt b es, env, st => (evEs C es env st).bind fun (ds, st) => (blt st b ds).bind fun d => .ok (d, st)
  | .lrng es, env, st => (evEs C es env st).bind fun (ds, st) => (rngOf ds).bind fun xs => (mkLst xs).bind fun d => .ok (d, st)
  | .trng es, env, st => (evEs C es env st).bind fun (ds, st) => (rngOf ds).bind fun xs => (mkTup xs).bind fun d => .ok (d, st)
  | .sorted rev a, env, st => (evE C a env st).bind fun (x, st) => (sortedOf st rev x).bind fun d => .ok (d, st)
  | .isa t a, env, st => (evE C a env st).bind fun (x, st) => (R.of (isTy st t x)).bind fun b => .ok (.v (.bool b), st)
  | .mt m o es, env, st => (evE C o env st).bind fun (x, st) => (R.of (seqOf st x)).bind fun (b, _) => if b == mtTup m then (evEs C es env st).bind fun (ds, st) => meth st m x ds else .no
  | .comp elt own t it c, env, st => (evIt C it env st).bind fun (src, st) =>
      let turn := fun x st => (asT C t x (wipeE env own) st).bind fun (env', st) => match c with
        | none => (evE C elt env' st).bind fun (d, st) => .ok (some d, st)
        | some c => (evE C c env' st).bind fun (x, st) => (R.of (truthOf st x)).bind fun k =>
            if k then (evE C elt env' st).bind fun (d, st) => .ok (some d, st) else .ok (none, st)
      match src with
      | .items ds => compL turn ds st []
      | .live n => compV turn n C.lim 0 st []
  | .new e, env, st => (evE C e env st).bind fun (d, st) => alloc st d
  | .ndct kvs, env, st => (evKs C kvs env st).bind fun (kvs, st) => .ok (.ref st.length, st ++ [.dct kvs])
  | .gint _ i, _, st => .ok (.v (.int i), st)
  | .dpairs e, env, st => (evE C e env st).bind fun (x, st) => match seqOf st x with
    | some (false, ds) => match plains ds with
      | some ps => (R.of (pairKs ps)).bind fun kvs => .ok (.ref st.length, st ++ [.dk false (kmerge kvs)])
      | none => .no
    | _ => .no
  | .nd t, _, st => .ok (.ref st.length, st ++ [if t then .dt false [] else .dk false []])
  | .nd1 t k v, env, st => (evE C k env st).bind fun (x, st) => (evE C v env st).bind fun (y, st) => match x with
    | .v p => if t then (R.of (toKeys p)).bind fun k => .ok (.ref st.length, st ++ [.dt false [(k, y)]]) else (R.of (toKey p)).bind fun k => .ok (.ref st.length, st ++ [.dk false [(k, y)]])
    | _ => .no
def evAnd (C : Cfg) : List E → En → Sto → R (D × Sto)
  | [], _, _ => .no
  | a :: r, env, st => match r with
    | [] => evE C a env st
    | _ :: _ => (evE C a env st).bind fun (x, st) => (R.of (truthOf st x)).bind fun k => if k then evAnd C r env st else .ok (x, st)
def evOr (C : Cfg) : List E → En → Sto → R (D × Sto)
  | [], _, _ => .no
  | a :: r, env, st => match r with
    | [] => evE C a env st
    | _ :: _ => (evE C a env st).bind fun (x, st) => (R.of (truthOf st x)).bind fun k => if k then .ok (x, st) else evOr C r env st
def evO (C : Cfg) : Option E → En → Sto → R (Option Int × Sto)
  | none, _, st => .ok (none, st)
  | some e, env, st => (evE C e env st).bind fun (x, st) => (R.of (toInt x)).bind fun i => .ok (some i, st)
def evEs (C : Cfg) : List E → En → Sto → R (List D × Sto)
  | [], _, st => .ok ([], st)
  | e :: r, env, st => (evE C e env st).bind fun (d, st) => (evEs C r env st).bind fun (ds, st) => .ok (d :: ds, st)
def evAs (C : Cfg) : List Ar → En → Sto → R (List D × Sto)
  | [], _, st => .ok ([], st)
  | a :: r, env, st => (evA C a env st).bind fun (ds, st) => (evAs C r env st).bind fun (es, st) => .ok (ds ++ es, st)
def evA (C : Cfg) : Ar → En → Sto → R (List D × Sto)
  | .one e, env, st => (evE C e env st).bind fun (d, st) => .ok ([d], st)
  | .star e, env, st => (evE C e env st).bind fun (x, st) => match seqOf st x with
    | some (_, ds) => .ok (ds, st)
    | none => .no
def evKs (C : Cfg) : List (Str × E) → En → Sto → R (List (Str × D) × Sto)
  | [], _, st => .ok ([], st)
  | (k, e) :: r, env, st => (evE C e env st).bind fun (d, st) => (evKs C r env st).bind fun (kvs, st) => .ok ((k, d) :: kvs, st)
def evIt (C : Cfg) : It → En → Sto → R (Src × Sto)
  | .val e, env, st => (evE C e env st).bind fun (x, st) => match x with
    | .v (.tuple xs) => .ok (.items (xs.map .v), st)
    | .v (.list xs) => .ok (.items (xs.map .v), st)
    | .scr ns => .ok (.items (ns.map fun n => .v (.int n)), st)
    | .ref n => match st[n]? with
      | some (.lst _) => .ok (.live n, st)
      | _ => .no
    | _ => .no
  | .rng es, env, st => (evEs C es env st).bind fun (ds, st) => (rngOf ds).bind fun xs => .ok (.items xs, st)
  | .enum e, env, st => (evE C e env st).bind fun (x, st) => match x with
    | .v (.tuple xs) => .ok (.items (xs.zipIdx.map fun p => .v (.tuple [.int (p.2 : Nat), p.1])), st)
    | .v (.list xs) => .ok (.items (xs.zipIdx.map fun p => .v (.tuple [.int (p.2 : Nat), p.1])), st)
    | _ => .no
  | .zip a b, env, st => (evE C a env st).bind fun (x, st) => (evE C b env st).bind fun (y, st) => match x, y with
    | .v (.tuple xs), .v (.tuple ys) => .ok (.items ((xs.zip ys).map fun p => .v (.tuple [p.1, p.2])), st)
    | .v (.list xs), .v (.list ys) => .ok (.items ((xs.zip ys).map fun p => .v (.tuple [p.1, p.2])), st)
    | _, _ => .no
  | .zips a b, env, st => (evE C a env st).bind fun (x, st) => (evE C b env st).bind fun (y, st) => match x, y with
    | .v (.tuple xs), .v (.tuple ys) => if xs.length = ys.length then .ok (.items ((xs.zip ys).map fun p => .v (.tuple [p.1, p.2])), st) else .no
    | .v (.list xs), .v (.list ys) => if xs.length = ys.length then .ok (.items ((xs.zip ys).map fun p => .v (.tuple [p.1, p.2])), st) else .no
    | .v (.list xs), .v (.tuple ys) => if xs.length = ys.length then .ok (.items ((xs.zip ys).map fun p => .v (.tuple [p.1, p.2])), st) else .no
    | .v (.tuple xs), .v (.list ys) => if xs.length = ys.length then .ok (.items ((xs.zip ys).map fun p => .v (.tuple [p.1, p.2])), st) else .no
    | _, _ => .no
  | .rngD a b, env, st => (evE C a env st).bind fun (x, st) => (evE C b env st).bind fun (y, st) => (rngDOf [x, y]).bind fun xs => .ok (.items xs, st)
def asT (C : Cfg) : T → D → En → Sto → R (En × Sto)
  | .name i, d, env, st => if i < env.length then .ok (env.set i (some d), st) else .no
  | .tup ts, d, env, st => match d with
    | .v (.tuple xs) => if xs.length = ts.length then asTs C ts (xs.map .v) env st else .no
    | .v (.list xs) => if xs.length = ts.length then asTs C ts (xs.map .v) env st else .no
    | _ => .no
  | .sub o i, d, env, st => (evE C o env st).bind fun (x, st) => (evE C i env st).bind fun (y, st) => (store st x y d).bind fun st => .ok (env, st)
def asTs (C : Cfg) : List T → List D → En → Sto → R (En × Sto)
  | [], [], env, st => .ok (env, st)
  | t :: ts, d :: ds, env, st => (asT C t d env st).bind fun (env, st) => asTs C ts ds env st
  | _, _, _, _ => .no
end

/-- a for's turns -/
def forL (body : D → En → Sto → R (Flow × En × Sto)) : List D → En → Sto → R (Flow × En × Sto)
  | [], env, st => .ok (.nx, env, st)
  | x :: r, env, st => (body x env st).bind fun (fl, env, st) => match fl with
    | .nx => forL body r env st
    | .ct => forL body r env st
    | .bk => .ok (.nx, env, st)
    | .rt d => .ok (.rt d, env, st)
    | .ex => .ok (.ex, env, st)
def forV (body : D → En → Sto → R (Flow × En × Sto)) (n : Nat) : Nat → Nat → En → Sto → R (Flow × En × Sto)
  | 0, _, _, _ => .no
  | k + 1, i, env, st => match st[n]? with
    | some (.lst xs) => match xs[i]? with
      | some x => (body x env st).bind fun (fl, env, st) => match fl with
        | .nx => forV body n k (i + 1) env st
        | .ct => forV body n k (i + 1) env st
        | .bk => .ok (.nx, env, st)
        | .rt d => .ok (.rt d, env, st)
        | .ex => .ok (.ex, env, st)
      | none => .ok (.nx, env, st)
    | _ => .no
def whileL (test : En → Sto → R (Bool × Sto)) (body : En → Sto → R (Flow × En × Sto)) : Nat → En → Sto → R (Flow × En × Sto)
  | 0, _, _ => .no
  | k + 1, env, st => (test env st).bind fun (b, st) =>
    if b then (body env st).bind fun (fl, env, st) => match fl with
      | .nx => whileL test body k env st
      | .ct => whileL test body k env st
      | .bk => .ok (.nx, env, st)
      | .rt d => .ok (.rt d, env, st)
      | .ex => .ok (.ex, env, st)
    else .ok (.nx, env, st)
def evT (C : Cfg) (c : E) (env : En) (st : Sto) : R (Bool × Sto) := (evE C c env st).bind fun (x, st) => (R.of (truthOf st x)).bind fun k => .ok (k, st)
mutual
def exS (C : Cfg) : S → En → Sto → R (Flow × En × Sto)
  | .set t e, env, st => (evE C e env st).bind fun (d, st) => (asT C t d env st).bind fun (env, st) => .ok (.nx, env, st)
  | .par ts es, env, st => (evEs C es env st).bind fun (ds, st) => (asTs C ts ds env st).bind fun (env, st) => .ok (.nx, env, st)
  | .aug i op e, env, st => (getV env i).bind fun x => (evE C e env st).bind fun (y, st) => match x, y with
    | .v (.int a), .v (.int b) => match op with
      | .Add => .ok (.nx, env.set i (some (.v (.int (a + b)))), st)
      | .Sub => .ok (.nx, env.set i (some (.v (.int (a - b)))), st)
      | .Mult => if mulOk a b then .ok (.nx, env.set i (some (.v (.int (a * b)))), st) else .no
      | _ => .no
    | _, _ => .no
  | .augS o i op e, env, st => (evE C o env st).bind fun (x, st) => (evE C i env st).bind fun (y, st) => (R.of (getI st x y)).bind fun a => (evE C e env st).bind fun (w, st) => match w with
    | .v (.int b) => match op with
      | .Add => (R.of (setI st x y (a + b))).bind fun st => .ok (.nx, env, st)
      | .Sub => (R.of (setI st x y (a - b))).bind fun st => .ok (.nx, env, st)
      | _ => .no
    | _ => .no
  | .tryR w f es, env, st => (evEs C es env st).bind fun (ds, st) => (C.callX f ds st).bind fun (o, st) => match o with
    | some d => if w then (mkLst [d]).bind fun d => .ok (.rt d, env, st) else .ok (.rt d, env, st)
    | none => .ok (.rt (.v (if w then .list [] else .none)), env, st)
  | .raise, env, st => .ok (.ex, env, st)
  | .expr e, env, st => (evE C e env st).bind fun (_, st) => .ok (.nx, env, st)
  | .ret e, env, st => (evE C e env st).bind fun (d, st) => .ok (.rt d, env, st)
  | .retN, env, st => .ok (.rt (.v .none), env, st)
  | .ite c a b, env, st => (evT C c env st).bind fun (k, st) => if k then exSs C a env st else exSs C b env st
  | .forS t it b, env, st => (evIt C it env st).bind fun (src, st) =>
      let body := fun x env st => (asT C t x env st).bind fun (env, st) => exSs C b env st
      match src with
      | .items ds => forL body ds env st
      | .live n => forV body n C.lim 0 env st
  | .whileS c b, env, st => whileL (evT C c) (exSs C b) C.lim env st
  | .forK t i b, env, st => (getV env i).bind fun x => match x with
    | .ref n => match (st[n]?).bind lockO with
      | some (ob, ps) => (forL (fun x env st => (asT C t x env st).bind fun (env, st) => exSs C b env st) (ps.map .v) env (st.set n ob)).bind fun (fl, env, st) => match (st[n]?).bind unlockO with
        | some ob => if notEx fl then .ok (fl, env, st.set n ob) else .no
        | none => .no
      | none => .no
    | _ => .no
  | .bad, _, _ => .no
  | .pass, env, st => .ok (.nx, env, st)
  | .brk, env, st => .ok (.bk, env, st)
  | .cont, env, st => .ok (.ct, env, st)
def exSs (C : Cfg) : List S → En → Sto → R (Flow × En × Sto)
  | [], env, st => .ok (.nx, env, st)
  | s :: r, env, st => (exS C s env st).bind fun (fl, env, st) => match fl with
    | .nx => exSs C r env st
    | fl => .ok (fl, env, st)
end

/-! ### leaving a def: what it made in the store is given up, what it hands back is plain -/
def frz1 (m : Nat) (st : Sto) : Nat → D → Option D
  | _, .v p => some (.v p)
  | _, .scr ns => some (.scr ns)
  | 0, .ref n => if n < m then some (.ref n) else none
  | k + 1, .ref n => if n < m then some (.ref n) else match st[n]? with
    | some (.lst xs) => ((xs.mapM fun x => (frz1 m st k x).bind plain1)).map fun ps => .v (.list ps)
    | _ => none
def belowD (m : Nat) : D → Bool
  | .ref n => decide (n < m)
  | _ => true
def belowO (m : Nat) : O → Bool
  | .lst xs => xs.all (belowD m)
  | .dct kvs => kvs.all fun kv => belowD m kv.2
  | .dk lk kvs => !lk && kvs.all fun kv => belowD m kv.2
  | .dt lk kvs => !lk && kvs.all fun kv => belowD m kv.2
def leave (keep : Bool) (m : Nat) (d : D) (st : Sto) : R (D × Sto) :=
  if keep || decide (st.length ≤ m) then .ok (d, st) else
  match frz1 m st 8 d with
  | some d' => if (st.take m).all (belowO m) then .ok (d', st.take m) else .no
  | none => .no
structure FDef where
  np : Nat
  nv : Nat
  keep : Bool
  body : List S
def runDef (C : Cfg) (fd : FDef) (ds : List D) (st : Sto) : R (D × Sto) :=
  if ds.length = fd.np then
    (exSs C fd.body (ds.map some ++ List.replicate (fd.nv - fd.np) none) st).bind fun (fl, _, st1) => match fl with
      | .rt d => leave fd.keep st.length d st1
      | .nx => leave fd.keep st.length (.v .none) st1
      | _ => .no
  else .no
/-- .. or raises -/
def runDefX (C : Cfg) (fd : FDef) (ds : List D) (st : Sto) : R (Option D × Sto) :=
  if ds.length = fd.np then
    (exSs C fd.body (ds.map some ++ List.replicate (fd.nv - fd.np) none) st).bind fun (fl, _, st1) => match fl with
      | .rt d => (leave fd.keep st.length d st1).bind fun (d, st) => .ok (some d, st)
      | .nx => (leave fd.keep st.length (.v .none) st1).bind fun (d, st) => .ok (some d, st)
      | .ex => (leave false st.length (.v .none) st1).bind fun (_, st) => .ok (none, st)
      | _ => .no
  else .no
mutual
def callF (P : List FDef) (lim : Nat) : Nat → Nat → List D → Sto → R (D × Sto)
  | 0, _, _, _ => .no
  | n + 1, f, ds, st => match P[f]? with
    | some fd => runDef ⟨callF P lim n, callX P lim n, lim⟩ fd ds st
    | none => .no
def callX (P : List FDef) (lim : Nat) : Nat → Nat → List D → Sto → R (Option D × Sto)
  | 0, _, _, _ => .no
  | n + 1, f, ds, st => match P[f]? with
    | some fd => runDefX ⟨callF P lim n, callX P lim n, lim⟩ fd ds st
    | none => .no
end
/-- the defs down to a depth -/
abbrev cfg (P : List FDef) (lim n : Nat) : Cfg := ⟨callF P lim n, callX P lim n, lim⟩
end Vi
set_option Elab.async false
set_option linter.all false
set_option maxRecDepth 100000
set_option maxHeartbeats 4000000
set_option autoImplicit false
/-! Vt: tuples that are known to have no dict of their own (so that their methods can be called): tracked as known objects. -/
namespace Vi
open PySem L2 PySem.Spec PyProof.Rows
theorem tuple_mul1 (l : Addr) (items : Array Value) (n : Nat) (dd : Option Addr) (sl : Array (Option Value)) (x : Int) (u : Tok) (c0 : (decide (x < -(2 ^ 63)) || decide (x ≥ 2 ^ 63)) = false) (c1 : (items.isEmpty || x == 1) = true) :
    Meets (Builtin.«tuple.__mul__» ⟨[.ref l, .int x u], []⟩) (fun _ R s => s.heap.get? l = some { cls := .type "tuple", dict := dd, data := .seq items n, slots := sl } ∧ R (.ok (.ret (Value.ref l))) s) :=
  .of_wp fun prog w A R s h => by
    obtain ⟨hp, g, d, tk, os⟩ := s
    obtain ⟨hl, h⟩ := h
    have f1 := AutoSeq1.idx_int
    wp_walk using wpAny_loadPart' hl
    repeat (first
      | (refine wpAny_ite_false (decide_eq_false (by rw [c0]; exact Bool.false_ne_true)) ?_; wp_walk using wpAny_loadPart' hl)
      | (refine wpAny_ite_true (by rw [c1]; rfl) ?_; wp_walk using wpAny_loadPart' hl))
    exact ⟨_, rfl, h⟩
theorem tuple_mul0 (l : Addr) (items : Array Value) (n : Nat) (dd : Option Addr) (sl : Array (Option Value)) (x : Int) (u : Tok) (c0 : (decide (x < -(2 ^ 63)) || decide (x ≥ 2 ^ 63)) = false) (c1 : (items.isEmpty || x == 1) = false) (c2 : (decide (x ≤ 0) || items.isEmpty) = true) :
    Meets (Builtin.«tuple.__mul__» ⟨[.ref l, .int x u], []⟩) (fun _ R s => s.heap.get? l = some { cls := .type "tuple", dict := dd, data := .seq items n, slots := sl } ∧
      R (.ok (.ret (Value.ref s.heap.objs.size))) { s with heap := s.heap.push { cls := Value.type "tuple", data := Data.seq #[] }, toks := s.toks }) :=
  .of_wp fun prog w A R s h => by
    obtain ⟨hp, g, d, tk, os⟩ := s
    obtain ⟨hl, h⟩ := h
    have f1 := AutoSeq1.idx_int
    wp_walk using wpAny_loadPart' hl
    repeat (first
      | (refine wpAny_ite_false (decide_eq_false (by rw [c0]; exact Bool.false_ne_true)) ?_; wp_walk using wpAny_loadPart' hl)
      | (refine wpAny_ite_false (decide_eq_false (by rw [c1]; exact Bool.false_ne_true)) ?_; wp_walk using wpAny_loadPart' hl)
      | (refine wpAny_ite_true (by rw [c2]; rfl) ?_; wp_walk using wpAny_loadPart' hl))
    exact ⟨_, rfl, h⟩
/-- a tuple of a known object without a dict of its own -/
def TupF (H : Hp) (a : Addr) (vs : List V) : Prop := H a = some (.tup vs)
theorem TupF.sqT {K : PySem.W.Frag} {H : Hp} {a : Addr} {vs : List V} (t : TupF H a vs) : SqT K H a vs := .inl (.inl t)
/-- what is wanted of a new tuple -/
def NewT (vs : List V) (H : Hp) (Q : VK) : Prop := ∀ (p : Addr), H p = none → Q (.ref p) (upd H p (.tup vs))
section
variable {X : Cx} {pins : List (Addr × Obj)} {σ : L2.St} {H : Hp} {s : Shared} {Q : VK}
theorem new_tup {vs : List V} {its : List Value} (I : Inv X pins σ H s) (r : Vals vs its) (hz : vs.length ≤ sizeLine) (q : NewT vs H Q) :
    EP X pins σ Q (.ref s.heap.objs.size) { s with heap := s.heap.push { cls := .type "tuple", data := .seq its.toArray } } := by
  have hf : H s.heap.objs.size = none := I.hok.fresh (Nat.le_refl _)
  refine ⟨.ref s.heap.objs.size, _, I.laid (t' := s.toks) (o := .tup vs) (fun b ob q => Heap.get?_push_of_some _ q) (Nat.le_refl _) ?_, rfl, q _ hf⟩
  exact ⟨hz, its, r, IsTup.new _ _⟩
def tTupF (t : TA) : TE := fun σ H Q => t σ H fun xs H1 => xs.length ≤ sizeLine ∧ NewT xs H1 Q
theorem pe_tupF {es : List Expr} {t : TA} {n : Nat} {pos : Pos} (h : PA X es t) : PE X (.Tuple es n pos) (tTupF t) := by
  refine ⟨fun pins s σ H Q I hq => ?_⟩
  exact wpAny_Tuple_spliced (thn (h.run pos pins s σ H _ I hq) fun us s1 ⟨xs, H1, I1, r, z, q⟩ => ⟨by rw [← r.length]; exact z, new_tup I1 r z q⟩)
theorem call_tupleF : CallR X (.type "tuple") (fun xs H Q => ∃ p ys, xs = [.ref p] ∧ ((SqL X.K H p ys ∧ NewT ys H Q) ∨ (SqT X.K H p ys ∧ Q (.ref p) H))) := by
  intro pins s σ H xs us Q I r h
  obtain ⟨p, ys, rfl, h⟩ := h
  obtain ⟨u, rfl, rx⟩ := vals1 r
  cases rx
  rcases h with ⟨hq, q⟩ | ⟨hq, q⟩
  · obtain ⟨its, r', pl, hz⟩ := I.list hq
    have hlen := r'.length
    refine call_tuple_list pl.isList (fun h' kp => ?_) (by simp only [List.size_toArray] <;> omega)
    exact new_tup (s := { s with heap := h' }) (I.kept (t' := s.toks) kp) r' hz q
  · obtain ⟨its, r', pl, hz⟩ := I.tuple hq
    exact call_tuple_same pl ⟨.ref p, H, I, rfl, q⟩
def rCatF (K : PySem.W.Frag) : R2 := fun x y H Q => ∃ a b xs ys, x = .ref a ∧ y = .ref b ∧ SqT K H a xs ∧ SqT K H b ys ∧ xs.length + ys.length ≤ sizeLine ∧
  (xs = [] → Q (.ref b) H) ∧ (xs ≠ [] → ys = [] → Q (.ref a) H) ∧ (xs ≠ [] → ys ≠ [] → NewT (xs ++ ys) H Q)
theorem op_catF : OpR X (binaryOp .Add) (rCatF X.K) := by
  intro pins s σ H x y v u Q I rx ry h
  obtain ⟨a, b, xs, ys, rfl, rfl, ha, hb, hz, q0, q1, q2⟩ := h
  cases rx
  cases ry
  obtain ⟨its, r1, p1, _⟩ := I.tuple ha
  obtain ⟨its2, r2, p2, _⟩ := I.tuple hb
  by_cases hx : xs = []
  · subst hx
    cases r1
    exact cat_tup0 p1 p2 ⟨.ref b, H, I, rfl, q0 rfl⟩
  · refine HT.cat_tup p1 p2 (fun z => hx (r1.nil_iff.mp z)) (fun z => ⟨.ref a, H, I, rfl, q1 hx (r2.nil_iff.mp z)⟩) (fun z => ?_) (by rw [← r1.length, ← r2.length]; exact hz)
    exact new_tup I (r1.append r2) (by rw [List.length_append]; exact hz) (q2 hx fun w => z (r2.nil_iff.mpr w))
def rSlF (K : PySem.W.Frag) : V → Option Int → Option Int → Hp → VK → Prop := fun x lo hi H Q => ∃ a xs, x = .ref a ∧ SqT K H a xs ∧
  (HT.sIx xs.length 0 lo = 0 ∧ HT.sIx xs.length xs.length hi = xs.length → Q (.ref a) H) ∧ (¬ (HT.sIx xs.length 0 lo = 0 ∧ HT.sIx xs.length xs.length hi = xs.length) → NewT (cutV xs lo hi) H Q)
theorem sl_tupF : SlR X (rSlF X.K) := by
  intro pins s σ H x v vl vu lo hi sl Q I rx hs pl pu h
  obtain ⟨a, xs, rfl, hx, q1, q2⟩ := h
  cases rx
  obtain ⟨its, r, ht, hz⟩ := I.tuple hx
  have hlen : its.toArray.size = xs.length := by rw [List.size_toArray]; exact r.length.symm
  refine ⟨"tuple", _, PyProof.Rows.slot_tuple_getitem.lookup, ht.typeIs, ?_⟩
  by_cases hw : HT.sIx xs.length 0 lo = 0 ∧ HT.sIx xs.length xs.length hi = xs.length
  · exact getItem_tuple_whole ht hs pl pu (by rw [hlen]; exact hw) ⟨.ref a, H, I, rfl, q1 hw⟩
  · refine HT.getItem_tuple_cut ht hs pl pu (by rw [hlen]; exact hw) ?_ (by rw [hlen]; exact hz)
    rw [hlen]
    exact new_tup I ((r.drop (HT.sIx xs.length 0 lo)).take (HT.sIx xs.length xs.length hi - HT.sIx xs.length 0 lo)) (Nat.le_trans (cutV_length xs lo hi) hz) (q2 hw)
def rRepF (K : PySem.W.Frag) : R2 := fun x y H Q => ∃ l k xs, x = .ref l ∧ y = .int k ∧ SqT K H l xs ∧ 0 ≤ k ∧ k ≤ 1000 ∧ xs.length ≤ 1000 ∧ (xs = [] ∨ k = 1 → Q (.ref l) H) ∧ (¬ (xs = [] ∨ k = 1) → NewT (List.replicate k.toNat xs).flatten H Q)
theorem op_repF : OpR X (binaryOp .Mult) (rRepF X.K) := by
  intro pins s σ H x y v u Q I rx ry h
  obtain ⟨l, k, xs, rfl, rfl, hT, h1, h2, hz, q1, q2⟩ := h
  cases rx
  obtain ⟨t, rfl⟩ := ry
  obtain ⟨its, r, ⟨⟨cls, dd, data, sl⟩, ho, hc, n, hd⟩, hs⟩ := I.tuple hT
  simp only at hc hd
  subst hc hd
  have hle : its.length = xs.length := r.length.symm
  by_cases hk1 : xs = [] ∨ k = 1
  · have c0 : (decide (k < -(2 ^ 63)) || decide (k ≥ 2 ^ 63)) = false := by rw [decide_eq_false (by omega), decide_eq_false (by omega)]; rfl
    have c1 : (its.toArray.isEmpty || k == 1) = true := by
      rcases hk1 with e | e
      · rw [e] at hle
        have : its = [] := List.eq_nil_of_length_eq_zero (by simpa using hle)
        rw [this]
        rfl
      · rw [e]
        simp
    exact wpAny_binaryOp_repeat_ref (T := "tuple") (U := "int") (by decide) ⟨_, ho, rfl⟩ (fun s' => typeIs_int s' k t) noFill_tuple_mul F.fills_int_mul F.slot_int_rmul repeat_tuple F.slot_int_index.lookup
      (call_meets F.slot_int_rmul (typeIs_int s k t) F.entry_int_rmul (F.args_int_rmul_2 _ _) (int_rmul_tuple k t l its.toArray n dd sl)
        ⟨ho, rfl, ⟨_, ho, rfl⟩, call_meets F.slot_tuple_mul ⟨_, ho, rfl⟩ F.entry_tuple_mul (F.args_tuple_mul_2 _ _) (tuple_mul1 l its.toArray n dd sl k t c0 c1) ⟨ho, ⟨.ref l, H, I, rfl, q1 hk1⟩⟩⟩)
  · have hn : its ≠ [] := fun e => hk1 (.inl (by
      rw [e] at hle
      exact List.eq_nil_of_length_eq_zero hle.symm))
    have hk2 : k ≠ 1 := fun e => hk1 (.inr e)
    have hi : its.toArray.isEmpty = false := by
      cases its with
      | nil => exact absurd rfl hn
      | cons a b => rfl
    have hsz0 : its.toArray.size = xs.length := by rw [List.size_toArray, hle]
    have hm : ((its.toArray.size : Nat) : Int) * k ≤ 1000000 := by
      rw [hsz0]
      have a1 : ((xs.length : Nat) : Int) * k ≤ 1000 * k := Int.mul_le_mul_of_nonneg_right (by omega) (by omega)
      omega
    have small2 : k.toNat * xs.length ≤ 1000 * 1000 := Nat.mul_le_mul (by omega) hz
    have flen : (List.replicate k.toNat its).flatten.length ≤ sizeLine := by
      rw [PyProof.Rows.lm_len_rep_flat, hle, sizeLine_eq]
      omega
    by_cases hk0 : k = 0
    · have e : NewT [] H Q := by
        have := q2 hk1
        rw [hk0] at this
        exact this
      refine wpAny_binaryOp_repeat_ref (T := "tuple") (U := "int") (by decide) ⟨_, ho, rfl⟩ (fun s' => typeIs_int s' k t) noFill_tuple_mul F.fills_int_mul F.slot_int_rmul repeat_tuple F.slot_int_index.lookup
        (call_meets F.slot_int_rmul (typeIs_int s k t) F.entry_int_rmul (F.args_int_rmul_2 _ _) (int_rmul_tuple k t l its.toArray n dd sl)
          ⟨ho, rfl, ⟨_, ho, rfl⟩, call_meets F.slot_tuple_mul ⟨_, ho, rfl⟩ F.entry_tuple_mul (F.args_tuple_mul_2 _ _) (tuple_mul0 l its.toArray n dd sl k t ?_ ?_ ?_) ⟨ho, ?_⟩⟩)
      · rw [decide_eq_false (by omega), decide_eq_false (by omega)] <;> rfl
      · rw [hi, Bool.false_or]; exact beq_eq_false_iff_ne.mpr hk2
      · rw [hi, Bool.or_false]; exact decide_eq_true (by omega)
      · exact new_tup I .nil (by rw [sizeLine_eq]; show 0 ≤ _; omega) e
    refine wpAny_binaryOp_repeat_ref (T := "tuple") (U := "int") (by decide) ⟨_, ho, rfl⟩ (fun s' => typeIs_int s' k t) noFill_tuple_mul F.fills_int_mul F.slot_int_rmul repeat_tuple F.slot_int_index.lookup
      (call_meets F.slot_int_rmul (typeIs_int s k t) F.entry_int_rmul (F.args_int_rmul_2 _ _) (int_rmul_tuple k t l its.toArray n dd sl)
        ⟨ho, rfl, ⟨_, ho, rfl⟩, call_meets F.slot_tuple_mul ⟨_, ho, rfl⟩ F.entry_tuple_mul (F.args_tuple_mul_2 _ _) (tuple_mulW l its.toArray n dd sl k t ?_ ?_ ?_ (by omega) ?_ (by rw [size_rep, List.size_toArray]; exact flen)) ⟨ho, ?_⟩⟩)
    · rw [decide_eq_false (by omega), decide_eq_false (by omega)] <;> rfl
    · rw [hi, Bool.false_or]; exact beq_eq_false_iff_ne.mpr hk2
    · rw [hi, Bool.or_false]; exact decide_eq_false (by omega)
    · unfold Builtin.Tuple.tupleTooMany
      rw [sizeLine_eq]
      exact decide_eq_false (by omega)
    · rw [size_rep]
      exact new_tup I (r.rep k.toNat) (by rw [PyProof.Rows.lm_len_rep_flat, sizeLine_eq]; omega) (q2 hk1)
end
end Vi
set_option Elab.async false
set_option linter.all false
set_option maxRecDepth 100000
set_option maxHeartbeats 4000000
set_option autoImplicit false
/-! Vb: how data and the store stand in the abstract heap. -/
namespace Vi
open PySem L2

abbrev AS := Addr → Prop
/-- what never changes -/
def Still : HO → Prop
  | .tup _ => True
  | .frz _ _ => True
  | _ => False
mutual
/-- v stands for the plain data p; all its objects are shut (in A) -/
inductive RP (A : AS) (H : Hp) : V → PyData → Prop
  | non : RP A H .non .none
  | bl (b : Bool) : RP A H (.bl b) (.bool b)
  | int (i : Int) : RP A H (.int i) (.int i)
  | str (x : Str) : RP A H (.str x) (.str x)
  | tup {a : Addr} {vs : List V} {xs : List PyData} : H a = some (.tup vs) → RPs A H vs xs → RP A H (.ref a) (.tuple xs)
  | lst {a : Addr} {vs : List V} {xs : List PyData} : A a → H a = some (.lst vs) → RPs A H vs xs → RP A H (.ref a) (.list xs)
inductive RPs (A : AS) (H : Hp) : List V → List PyData → Prop
  | nil : RPs A H [] []
  | cons {v : V} {vs : List V} {p : PyData} {ps : List PyData} : RP A H v p → RPs A H vs ps → RPs A H (v :: vs) (p :: ps)
end
/-- what is shut stays -/
def TupO : HO → Prop
  | .tup _ => True
  | _ => False
theorem TupO.still {u : HO} (h : TupO u) : Still u := by cases u <;> first | exact h.elim | trivial
def Kp (A : AS) (H H' : Hp) : Prop := ∀ a u, A a ∨ TupO u → H a = some u → H' a = some u
theorem Kp.refl (A : AS) (H : Hp) : Kp A H H := fun _ _ _ h => h
mutual
theorem RP.mono {A A' : AS} {H H' : Hp} (s : ∀ a, A a → A' a) (k : Kp A H H') : ∀ {v : V} {p : PyData}, RP A H v p → RP A' H' v p
  | _, _, .non => .non
  | _, _, .bl b => .bl b
  | _, _, .int i => .int i
  | _, _, .str x => .str x
  | _, _, .tup h r => .tup (k _ _ (.inr trivial) h) (RPs.mono s k r)
  | _, _, .lst a h r => .lst (s _ a) (k _ _ (.inl a) h) (RPs.mono s k r)
theorem RPs.mono {A A' : AS} {H H' : Hp} (s : ∀ a, A a → A' a) (k : Kp A H H') : ∀ {vs : List V} {ps : List PyData}, RPs A H vs ps → RPs A' H' vs ps
  | _, _, .nil => .nil
  | _, _, .cons r t => .cons (RP.mono s k r) (RPs.mono s k t)
end
mutual
theorem RP.dp {K : PySem.W.Frag} {A : AS} {H : Hp} : ∀ {v : V} {p : PyData}, RP A H v p → Dp K H v p
  | _, _, .non => .non
  | _, _, .bl b => .bl b
  | _, _, .int i => .int i
  | _, _, .str x => .str x
  | _, _, .tup h r => .tup (.inl (.inl h)) (RPs.dp r)
  | _, _, .lst a h r => .lst (SqL.of h) (RPs.dp r)
theorem RPs.dp {K : PySem.W.Frag} {A : AS} {H : Hp} : ∀ {vs : List V} {ps : List PyData}, RPs A H vs ps → DpAll K H vs ps
  | _, _, .nil => .nil
  | _, _, .cons r t => .cons (RP.dp r) (RPs.dp t)
end
theorem RPs.length {A : AS} {H : Hp} : ∀ {vs : List V} {ps : List PyData}, RPs A H vs ps → vs.length = ps.length
  | _, _, .nil => rfl
  | _, _, .cons _ t => congrArg (· + 1) (RPs.length t)
theorem RPs.append {A : AS} {H : Hp} : ∀ {vs ws : List V} {ps qs : List PyData}, RPs A H vs ps → RPs A H ws qs → RPs A H (vs ++ ws) (ps ++ qs)
  | _, _, _, _, .nil, s => s
  | _, _, _, _, .cons r t, s => .cons r (RPs.append t s)

/-- a value of the interpreter -/
inductive RD (K : PySem.W.Frag) (ρ : List Addr) (A : AS) (H : Hp) : V → D → Prop
  | v {x : V} {p : PyData} : RP A H x p → RD K ρ A H x (.v p)
  | ref {n : Nat} {a : Addr} : ρ[n]? = some a → RD K ρ A H (.ref a) (.ref n)
  | scr {a : Addr} {ns : List Int} : ((∃ o, A a ∧ H a = some (.frz o (.lst (ns.map V.int)))) ∨ ∀ H', SqL K H' a (ns.map V.int)) → RD K ρ A H (.ref a) (.scr ns)
inductive RDs (K : PySem.W.Frag) (ρ : List Addr) (A : AS) (H : Hp) : List V → List D → Prop
  | nil : RDs K ρ A H [] []
  | cons {v : V} {vs : List V} {d : D} {ds : List D} : RD K ρ A H v d → RDs K ρ A H vs ds → RDs K ρ A H (v :: vs) (d :: ds)
/-- one state follows another: names of the store stay, what is shut stays, all that isn't the store's stays; what comes to the store, or is shut, is new -/
structure Stp (ρ : List Addr) (A : AS) (H : Hp) (ρ' : List Addr) (A' : AS) (H' : Hp) : Prop where
  pre : ρ <+: ρ'
  sub : ∀ a, A a → A' a
  ka : Kp A H H'
  kp : ∀ a u, a ∉ ρ → H a = some u → H' a = some u
  nw : ∀ a, a ∈ ρ' → a ∉ ρ → H a = none
  an : ∀ a, A' a → ¬ A a → a ∉ ρ ∧ H a = none
  fz : ∀ a o u, H a = some (.frz o u) → H' a = some (.frz o u)
section
variable {K : PySem.W.Frag} {ρ ρ' ρ2 : List Addr} {A A' A2 : AS} {H H' H2 : Hp}
theorem Stp.refl : Stp ρ A H ρ A H := ⟨List.prefix_refl _, fun _ h => h, Kp.refl _ _, fun _ _ _ h => h, fun _ h n => absurd h n, fun _ h n => absurd h n, fun _ _ _ h => h⟩
theorem Stp.free (s : Stp ρ A H ρ' A' H') {a : Addr} (n : a ∉ ρ) (h : H' a = none) : H a = none := by
  cases e : H a with
  | none => rfl
  | some u => rw [s.kp a u n e] at h; cases h
theorem Stp.trans (a : Stp ρ A H ρ' A' H') (b : Stp ρ' A' H' ρ2 A2 H2) : Stp ρ A H ρ2 A2 H2 where
  pre := a.pre.trans b.pre
  sub := fun x h => b.sub x (a.sub x h)
  ka := fun x u h e => b.ka x u (h.imp (a.sub x) id) (a.ka x u h e)
  kp := fun x u n e => b.kp x u (fun m => by rw [a.nw x m n] at e; cases e) (a.kp x u n e)
  nw := fun x m n => by
    by_cases m' : x ∈ ρ'
    · exact a.nw x m' n
    · exact a.free n (b.nw x m m')
  an := fun x h n => by
    by_cases m' : A' x
    · exact a.an x m' n
    · obtain ⟨h1, h2⟩ := b.an x h m'
      have h3 : x ∉ ρ := fun z => h1 (a.pre.subset z)
      exact ⟨h3, a.free h3 h2⟩
  fz := fun x o u h => b.fz x o u (a.fz x o u h)
theorem pre_get {α : Type} {l l' : List α} {n : Nat} {a : α} (p : l <+: l') (h : l[n]? = some a) : l'[n]? = some a := by
  obtain ⟨t, rfl⟩ := p
  have hn : n < l.length := by
    obtain ⟨h1, _⟩ := List.getElem?_eq_some_iff.mp h
    exact h1
  rw [List.getElem?_append_left hn]; exact h
theorem RD.mono3 (pp : ρ <+: ρ') (sb : ∀ a, A a → A' a) (ka : Kp A H H') {v : V} {d : D} (r : RD K ρ A H v d) : RD K ρ' A' H' v d := by
  cases r with
  | v r => exact .v (r.mono sb ka)
  | ref h => exact .ref (pre_get pp h)
  | scr h =>
    refine .scr ?_
    rcases h with ⟨o, a, h⟩ | h
    · exact .inl ⟨o, sb _ a, ka _ _ (.inl a) h⟩
    · exact .inr h
theorem RDs.mono3 (pp : ρ <+: ρ') (sb : ∀ a, A a → A' a) (ka : Kp A H H') : ∀ {vs : List V} {ds : List D}, RDs K ρ A H vs ds → RDs K ρ' A' H' vs ds
  | _, _, .nil => .nil
  | _, _, .cons r t => .cons (r.mono3 pp sb ka) (RDs.mono3 pp sb ka t)
theorem RD.mono (s : Stp ρ A H ρ' A' H') {v : V} {d : D} (r : RD K ρ A H v d) : RD K ρ' A' H' v d := r.mono3 s.pre s.sub s.ka
theorem RDs.mono (s : Stp ρ A H ρ' A' H') {vs : List V} {ds : List D} (r : RDs K ρ A H vs ds) : RDs K ρ' A' H' vs ds := r.mono3 s.pre s.sub s.ka
theorem RDs.length : ∀ {vs : List V} {ds : List D}, RDs K ρ A H vs ds → vs.length = ds.length
  | _, _, .nil => rfl
  | _, _, .cons _ t => congrArg (· + 1) (RDs.length t)
theorem RDs.append : ∀ {vs ws : List V} {ds es : List D}, RDs K ρ A H vs ds → RDs K ρ A H ws es → RDs K ρ A H (vs ++ ws) (ds ++ es)
  | _, _, _, _, .nil, s => s
  | _, _, _, _, .cons r t, s => .cons r (RDs.append t s)
theorem RDs.get : ∀ {vs : List V} {ds : List D} {i : Nat} {d : D}, RDs K ρ A H vs ds → ds[i]? = some d → ∃ v, vs[i]? = some v ∧ RD K ρ A H v d
  | _, _, _, _, .nil, e => by simp at e
  | _, _, 0, _, .cons r _, e => by simp at e; subst e; exact ⟨_, rfl, r⟩
  | _, _, i + 1, d, .cons _ t, e => by
    obtain ⟨v, h1, h2⟩ := RDs.get (i := i) (d := d) t (by simpa using e)
    exact ⟨v, by simpa using h1, h2⟩
theorem RDs.get' : ∀ {vs : List V} {ds : List D} {i : Nat} {v : V}, RDs K ρ A H vs ds → vs[i]? = some v → ∃ d, ds[i]? = some d ∧ RD K ρ A H v d
  | _, _, _, _, .nil, e => by simp at e
  | _, _, 0, _, .cons r _, e => by simp at e; subst e; exact ⟨_, rfl, r⟩
  | _, _, i + 1, d, .cons _ t, e => by
    obtain ⟨v, h1, h2⟩ := RDs.get' (i := i) (v := d) t (by simpa using e)
    exact ⟨v, by simpa using h1, h2⟩
theorem RDs.set {v : V} {d : D} (r : RD K ρ A H v d) : ∀ {vs : List V} {ds : List D} (i : Nat), RDs K ρ A H vs ds → RDs K ρ A H (vs.set i v) (ds.set i d)
  | _, _, _, .nil => .nil
  | _, _, 0, .cons _ t => .cons r t
  | _, _, i + 1, .cons q t => .cons q (RDs.set r i t)
theorem RDs.eraseIdx : ∀ {vs : List V} {ds : List D} (i : Nat), RDs K ρ A H vs ds → RDs K ρ A H (vs.eraseIdx i) (ds.eraseIdx i)
  | _, _, _, .nil => .nil
  | _, _, 0, .cons _ t => t
  | _, _, i + 1, .cons q t => .cons q (RDs.eraseIdx i t)
theorem RDs.dropLast {vs : List V} {ds : List D} (h : RDs K ρ A H vs ds) : RDs K ρ A H vs.dropLast ds.dropLast := by
  induction h with
  | nil => exact .nil
  | cons r t ih =>
    cases t with
    | nil => exact .nil
    | cons r2 t2 => exact .cons r ih
theorem RDs.drop : ∀ {vs : List V} {ds : List D} (i : Nat), RDs K ρ A H vs ds → RDs K ρ A H (vs.drop i) (ds.drop i)
  | _, _, 0, h => h
  | _, _, _ + 1, .nil => .nil
  | _, _, i + 1, .cons _ t => RDs.drop i t
theorem RDs.take : ∀ {vs : List V} {ds : List D} (i : Nat), RDs K ρ A H vs ds → RDs K ρ A H (vs.take i) (ds.take i)
  | _, _, 0, h => .nil
  | _, _, _ + 1, .nil => .nil
  | _, _, i + 1, .cons r t => .cons r (RDs.take i t)
theorem RDs.reverse {vs : List V} {ds : List D} (h : RDs K ρ A H vs ds) : RDs K ρ A H vs.reverse ds.reverse := by
  induction h with
  | nil => exact .nil
  | cons r t ih => rw [List.reverse_cons, List.reverse_cons]; exact ih.append (.cons r .nil)
theorem RDs.rep {vs : List V} {ds : List D} (h : RDs K ρ A H vs ds) : ∀ k : Nat, RDs K ρ A H (List.replicate k vs).flatten (List.replicate k ds).flatten
  | 0 => .nil
  | k + 1 => by rw [List.replicate_succ, List.replicate_succ, List.flatten_cons, List.flatten_cons]; exact h.append (RDs.rep h k)
theorem RDs.plain : ∀ {vs : List V} {ps : List PyData}, RPs A H vs ps → RDs K ρ A H vs (ps.map .v)
  | _, _, .nil => .nil
  | _, _, .cons r t => .cons (.v r) (RDs.plain t)
theorem RDs.plains : ∀ {vs : List V} {ds : List D} {ps : List PyData}, RDs K ρ A H vs ds → plains ds = some ps → RPs A H vs ps
  | _, _, _, .nil, e => by simp only [Vi.plains, Option.some.injEq] at e; subst e; exact .nil
  | _, _, _, .cons (.v r) t, e => by
    simp only [Vi.plains, Option.map_eq_some_iff] at e
    obtain ⟨qs, e1, rfl⟩ := e
    exact .cons r (RDs.plains t e1)
  | _, _, _, .cons (.ref _) _, e => by simp [Vi.plains] at e
  | _, _, _, .cons (.scr _) _, e => by simp [Vi.plains] at e
theorem plains_length : ∀ {ds : List D} {ps : List PyData}, plains ds = some ps → ps.length = ds.length
  | [], _, e => by simp only [plains, Option.some.injEq] at e; subst e; rfl
  | .v p :: r, _, e => by
    simp only [plains, Option.map_eq_some_iff] at e
    obtain ⟨qs, e1, rfl⟩ := e
    simp [plains_length e1]
  | .ref _ :: _, _, e => by simp [plains] at e
  | .scr _ :: _, _, e => by simp [plains] at e
@[simp] theorem plains_map (ps : List PyData) : plains (ps.map .v) = some ps := by
  induction ps with
  | nil => rfl
  | cons p ps ih => simp [plains, ih]
end

/-! ### the store -/
def kK (k : Str) : Key := .inr k
inductive KVs (K : PySem.W.Frag) (ρ : List Addr) (A : AS) (H : Hp) : List (Key × V) → List (Str × D) → Prop
  | nil : KVs K ρ A H [] []
  | cons {k : Str} {v : V} {d : D} {kvs : List (Key × V)} {kds : List (Str × D)} : RD K ρ A H v d → KVs K ρ A H kvs kds → KVs K ρ A H ((kK k, v) :: kvs) ((k, d) :: kds)
inductive KVg (κ : Type) (K : PySem.W.Frag) (ρ : List Addr) (A : AS) (H : Hp) : List (κ × V) → List (κ × D) → Prop
  | nil : KVg κ K ρ A H [] []
  | cons {k : κ} {v : V} {d : D} {kvs : List (κ × V)} {kds : List (κ × D)} : RD K ρ A H v d → KVg κ K ρ A H kvs kds → KVg κ K ρ A H ((k, v) :: kvs) ((k, d) :: kds)
inductive RO (K : PySem.W.Frag) (ρ : List Addr) (A : AS) (H : Hp) : HO → O → Prop
  | lst {vs : List V} {ds : List D} : RDs K ρ A H vs ds → RO K ρ A H (.lst vs) (.lst ds)
  | dct {kvs : List (Key × V)} {kds : List (Str × D)} : KVs K ρ A H kvs kds → RO K ρ A H (.dK kvs) (.dct kds)
  | dk {kvs : List (L2.Key × V)} {kds : List (L2.Key × D)} : KVg L2.Key K ρ A H kvs kds → RO K ρ A H (.dK kvs) (.dk false kds)
  | dkl {o : Obj} {kvs : List (L2.Key × V)} {kds : List (L2.Key × D)} : KVg L2.Key K ρ A H kvs kds → RO K ρ A H (.frz o (.dK kvs)) (.dk true kds)
  | dt {kvs : List (List L2.Key × V)} {kds : List (List L2.Key × D)} : KVg (List L2.Key) K ρ A H kvs kds → RO K ρ A H (.dT kvs) (.dt false kds)
  | dtl {o : Obj} {kvs : List (List L2.Key × V)} {kds : List (List L2.Key × D)} : KVg (List L2.Key) K ρ A H kvs kds → RO K ρ A H (.frz o (.dT kvs)) (.dt true kds)
/-- unlocked -/
def opn : O → Bool
  | .dk lk _ => !lk
  | .dt lk _ => !lk
  | _ => true
structure SR (K : PySem.W.Frag) (ρ : List Addr) (A : AS) (st : Sto) (H : Hp) : Prop where
  len : ρ.length = st.length
  nd : ρ.Nodup
  off : ∀ a, a ∈ ρ → ¬ A a
  al : ∀ a, A a → H a ≠ none
  ob : ∀ (n : Nat) (o : O) (a : Addr), st[n]? = some o → ρ[n]? = some a → ∃ u, H a = some u ∧ RO K ρ A H u o
section
variable {K : PySem.W.Frag} {ρ ρ' ρ2 : List Addr} {A A' A2 : AS} {H H' H2 : Hp} {st st' : Sto}
theorem KVs.mono3 (pp : ρ <+: ρ') (sb : ∀ a, A a → A' a) (ka : Kp A H H') : ∀ {kvs : List (Key × V)} {kds : List (Str × D)}, KVs K ρ A H kvs kds → KVs K ρ' A' H' kvs kds
  | _, _, .nil => .nil
  | _, _, .cons r t => .cons (r.mono3 pp sb ka) (KVs.mono3 pp sb ka t)
theorem KVg.mono3 {κ : Type} (pp : ρ <+: ρ') (sb : ∀ a, A a → A' a) (ka : Kp A H H') : ∀ {kvs : List (κ × V)} {kds : List (κ × D)}, KVg κ K ρ A H kvs kds → KVg κ K ρ' A' H' kvs kds
  | _, _, .nil => .nil
  | _, _, .cons r t => .cons (r.mono3 pp sb ka) (KVg.mono3 pp sb ka t)
theorem RO.mut {u : HO} {o : O} (r : RO K ρ A H u o) (h : opn o = true) : ¬ Still u := by
  cases r <;> first | exact id | cases h
theorem RO.mono3 (pp : ρ <+: ρ') (sb : ∀ a, A a → A' a) (ka : Kp A H H') {u : HO} {o : O} (r : RO K ρ A H u o) : RO K ρ' A' H' u o := by
  cases r with
  | lst r => exact .lst (r.mono3 pp sb ka)
  | dct r => exact .dct (r.mono3 pp sb ka)
  | dk r => exact .dk (r.mono3 pp sb ka)
  | dkl r => exact .dkl (r.mono3 pp sb ka)
  | dt r => exact .dt (r.mono3 pp sb ka)
  | dtl r => exact .dtl (r.mono3 pp sb ka)
theorem RO.mono (s : Stp ρ A H ρ' A' H') {u : HO} {o : O} (r : RO K ρ A H u o) : RO K ρ' A' H' u o := r.mono3 s.pre s.sub s.ka
theorem RO.monoA (sb : ∀ a, A a → A' a) (ka : Kp A H H') {u : HO} {o : O} (r : RO K ρ A H u o) : RO K ρ A' H' u o := r.mono3 (List.prefix_refl _) sb ka
theorem RO.monoP (pp : ρ <+: ρ') {u : HO} {o : O} (r : RO K ρ A H u o) : RO K ρ' A H u o := r.mono3 pp (fun _ h => h) (Kp.refl _ _)
theorem SR.at (S : SR K ρ A st H) {n : Nat} {o : O} (h : st[n]? = some o) : ∃ a u, ρ[n]? = some a ∧ ¬ A a ∧ H a = some u ∧ RO K ρ A H u o := by
  have hn : n < ρ.length := by rw [S.len]; exact (List.getElem?_eq_some_iff.mp h).1
  have e : ρ[n]? = some ρ[n] := List.getElem?_eq_getElem hn
  obtain ⟨u, h1, h2⟩ := S.ob n o _ h e
  exact ⟨_, u, e, S.off _ (List.getElem_mem hn), h1, h2⟩
/-- a new object, shut -/
def addA (A : AS) (p : Addr) : AS := fun a => A a ∨ a = p
theorem SR.notmem (S : SR K ρ A st H) {p : Addr} (hp : H p = none) : p ∉ ρ := fun hm => by
  obtain ⟨n, hn, e⟩ := List.getElem_of_mem hm
  have hn' : n < st.length := by rw [← S.len]; exact hn
  obtain ⟨u, h1, _⟩ := S.ob n _ p (List.getElem?_eq_getElem hn') (by rw [List.getElem?_eq_getElem hn, e])
  rw [hp] at h1; cases h1
/-- the store's part stays where its objects stay -/
theorem SR.step (S : SR K ρ A st H) (s : Stp ρ A H ρ A' H') (keep : ∀ a u, a ∈ ρ → H a = some u → H' a = some u) (off : ∀ a, a ∈ ρ → ¬ A' a) (al : ∀ a, A' a → H' a ≠ none) : SR K ρ A' st H' where
  len := S.len
  nd := S.nd
  off := off
  al := al
  ob := fun n o a h e => by
    obtain ⟨u, h1, h2⟩ := S.ob n o a h e
    exact ⟨u, keep a u (List.mem_of_getElem? e) h1, h2.mono s⟩
theorem upd_keep {p : Addr} {u : HO} (hp : H p = none) : ∀ a w, H a = some w → upd H p u a = some w := fun a w e => by
  rw [upd_ne (ne_of_none e hp)]; exact e
theorem Stp.laid {p : Addr} {u : HO} (S : SR K ρ A st H) (hp : H p = none) : Stp ρ A H ρ (addA A p) (upd H p u) :=
  ⟨List.prefix_refl _, fun _ h => .inl h, fun a w _ e => upd_keep hp a w e, fun a w _ e => upd_keep hp a w e, fun _ h n => absurd h n, fun a h n => h.elim (fun z => absurd z n) fun z => z ▸ ⟨S.notmem hp, hp⟩, fun a o w e => upd_keep hp a _ e⟩
theorem Stp.laid0 {p : Addr} {u : HO} (hp : H p = none) : Stp ρ A H ρ A (upd H p u) :=
  ⟨List.prefix_refl _, fun _ h => h, fun a w _ e => upd_keep hp a w e, fun a w _ e => upd_keep hp a w e, fun _ h n => absurd h n, fun a h n => absurd h n, fun a o w e => upd_keep hp a _ e⟩
theorem SR.laid (S : SR K ρ A st H) {p : Addr} {u : HO} (hp : H p = none) : SR K ρ (addA A p) st (upd H p u) :=
  S.step (Stp.laid S hp) (fun a w _ e => upd_keep hp a w e) (fun a ha h => h.elim (S.off a ha) fun e => S.notmem hp (e ▸ ha)) fun a h => by
    rcases h with h | h
    · intro z
      by_cases e : a = p
      · subst e; rw [upd_same] at z; cases z
      · rw [upd_ne e] at z; exact S.al a h z
    · subst h; rw [upd_same]; intro z; cases z
theorem SR.laid0 (S : SR K ρ A st H) {p : Addr} {u : HO} (hp : H p = none) : SR K ρ A st (upd H p u) :=
  S.step (Stp.laid0 hp) (fun a w _ e => upd_keep hp a w e) S.off fun a h z => by
    by_cases e : a = p
    · subst e; rw [upd_same] at z; cases z
    · rw [upd_ne e] at z; exact S.al a h z
/-- a thing that stands open in the heap is shut -/
theorem SR.shut (S : SR K ρ A st H) {p : Addr} (h1 : p ∉ ρ) (h2 : H p ≠ none) : SR K ρ (addA A p) st H where
  len := S.len
  nd := S.nd
  off := fun a ha h => h.elim (S.off a ha) fun e => h1 (e ▸ ha)
  al := fun a h => h.elim (S.al a) fun e => e ▸ h2
  ob := fun n o a h e => by
    obtain ⟨u, q1, q2⟩ := S.ob n o a h e
    exact ⟨u, q1, q2.monoA (fun _ z => .inl z) fun _ _ _ z => z⟩
/-- a thing that stands open comes to the store -/
theorem SR.push (S : SR K ρ A st H) {p : Addr} {u : HO} {o : O} (h1 : p ∉ ρ) (h2 : ¬ A p) (h3 : H p = some u) (r : RO K ρ A H u o) : SR K (ρ ++ [p]) A (st ++ [o]) H := by
  refine ⟨by simp [S.len], ?_, ?_, S.al, ?_⟩
  · rw [List.nodup_append]
    refine ⟨S.nd, by simp, fun a ha b hb e => ?_⟩
    have : b = p := by simpa using hb
    exact h1 (this ▸ e ▸ ha)
  · intro a ha
    rcases List.mem_append.mp ha with h | h
    · exact S.off a h
    · have : a = p := by simpa using h
      exact this ▸ h2
  · intro n o' a h e
    by_cases hn : n < st.length
    · rw [List.getElem?_append_left hn] at h
      rw [List.getElem?_append_left (by rw [S.len]; exact hn)] at e
      obtain ⟨w, q1, q2⟩ := S.ob n o' a h e
      exact ⟨w, q1, q2.monoP (List.prefix_append _ _)⟩
    · have hn' : n = st.length := by
        have := (List.getElem?_eq_some_iff.mp h).1
        simp at this; omega
      subst hn'
      have e2 : (ρ ++ [p])[st.length]? = some p := by rw [← S.len]; simp
      rw [e2] at e; cases e
      have h' : (st ++ [o])[st.length]? = some o := by simp
      rw [h'] at h; cases h
      exact ⟨u, h3, r.monoP (List.prefix_append _ _)⟩
theorem ns_lst {a : Addr} {vs : List V} (h : H a = some (.lst vs)) : ∀ w, H a = some w → ¬ Still w := fun w e => by rw [h] at e; cases e; exact id
theorem ns_dK {a : Addr} {vs : List (L2.Key × V)} (h : H a = some (.dK vs)) : ∀ w, H a = some w → ¬ Still w := fun w e => by rw [h] at e; cases e; exact id
/-- a thing of the store is written -/
theorem Stp.write (S : SR K ρ A st H) {n : Nat} {p : Addr} {u : HO} (e : ρ[n]? = some p) (ns : ∀ w, H p = some w → ¬ Still w) : Stp ρ A H ρ A (upd H p u) := by
  have hm := List.mem_of_getElem? e
  have hp : ¬ A p := S.off p hm
  refine ⟨List.prefix_refl _, fun _ h => h, fun a w ha q => ?_, fun a w ha q => ?_, fun _ h n => absurd h n, fun _ h n => absurd h n, fun a o w q => by rw [upd_ne (fun z => ns (.frz o w) (by rw [← z]; exact q) trivial)]; exact q⟩
  · have z : a ≠ p := fun z => ha.elim (fun ha => hp (by rw [← z]; exact ha)) fun hs => ns w (by rw [← z]; exact q) hs.still
    rw [upd_ne z]; exact q
  · have z : a ≠ p := fun z => ha (by rw [z]; exact hm)
    rw [upd_ne z]; exact q
theorem SR.write (S : SR K ρ A st H) {n : Nat} {p : Addr} {u : HO} {o : O} (e : ρ[n]? = some p) (ns : ∀ w, H p = some w → ¬ Still w) (r : RO K ρ A (upd H p u) u o) : SR K ρ A (st.set n o) (upd H p u) := by
  have hp : ¬ A p := S.off p (List.mem_of_getElem? e)
  have s : Stp ρ A H ρ A (upd H p u) := Stp.write S e ns
  refine ⟨by simp [S.len], S.nd, S.off, fun a ha z => ?_, fun m o' a h e' => ?_⟩
  · have z2 : a ≠ p := fun z => hp (by rw [← z]; exact ha)
    rw [upd_ne z2] at z; exact S.al a ha z
  · by_cases hm : m = n
    · subst hm
      rw [e] at e'; cases e'
      have hlt : m < st.length := by
        have := (List.getElem?_eq_some_iff.mp h).1
        simpa using this
      rw [List.getElem?_set_self hlt] at h
      cases h
      exact ⟨u, upd_same, r⟩
    · rw [List.getElem?_set_ne (Ne.symm hm)] at h
      obtain ⟨w, q1, q2⟩ := S.ob m o' a h e'
      refine ⟨w, ?_, q2.mono s⟩
      rw [upd_ne ?_]
      · exact q1
      · rintro rfl
        obtain ⟨hx, ex⟩ := List.getElem?_eq_some_iff.mp e
        obtain ⟨hy, ey⟩ := List.getElem?_eq_some_iff.mp e'
        exact hm ((List.getElem_inj S.nd).mp (ey.trans ex.symm))
theorem ref_at (S : SR K ρ A st H) {v : V} {n : Nat} {o : O} (r : RD K ρ A H v (.ref n)) (h : st[n]? = some o) : ∃ a u, v = .ref a ∧ ρ[n]? = some a ∧ ¬ A a ∧ H a = some u ∧ RO K ρ A H u o := by
  cases r with
  | ref e =>
    obtain ⟨b, u, h1, h2, h3, h4⟩ := S.at h
    rw [h1] at e; cases e
    exact ⟨_, u, rfl, h1, h2, h3, h4⟩
def SqB (b : Bool) (H : Hp) (a : Addr) (vs : List V) : Prop := if b then TupF H a vs else H a = some (.lst vs)
/-- a list or tuple read as its items -/
theorem seq_at (S : SR K ρ A st H) {v : V} {d : D} {b : Bool} {ds : List D} (r : RD K ρ A H v d) (h : seqOf st d = some (b, ds)) :
    ∃ a vs, v = .ref a ∧ SqB b H a vs ∧ RDs K ρ A H vs ds := by
  cases d with
  | v p =>
    cases r with
    | v r =>
      cases r with
      | tup hH rs =>
        simp only [seqOf, Option.some.injEq, Prod.mk.injEq] at h
        obtain ⟨rfl, rfl⟩ := h
        exact ⟨_, _, rfl, hH, .plain rs⟩
      | lst ha hH rs =>
        simp only [seqOf, Option.some.injEq, Prod.mk.injEq] at h
        obtain ⟨rfl, rfl⟩ := h
        exact ⟨_, _, rfl, hH, .plain rs⟩
      | _ => simp [seqOf] at h
  | ref n =>
    simp only [seqOf] at h
    cases e : st[n]? with
    | none => rw [e] at h; cases h
    | some o =>
      rw [e] at h
      cases o with
      | dct _ => cases h
      | dk _ _ => cases h
      | dt _ _ => cases h
      | lst xs =>
        simp only [Option.some.injEq, Prod.mk.injEq] at h
        obtain ⟨rfl, rfl⟩ := h
        obtain ⟨a, u, rfl, h1, _, h3, h4⟩ := ref_at S r e
        cases h4 with
        | lst h4 => exact ⟨a, _, rfl, h3, h4⟩
  | scr ns => simp [seqOf] at h
theorem toP_dp (S : SR K ρ A st H) {v : V} {d : D} {p : PyData} (r : RD K ρ A H v d) (h : toP st d = some p) : Dp K H v p := by
  cases d with
  | v q =>
    simp only [toP, Option.some.injEq] at h; subst h
    cases r with
    | v r => exact r.dp
  | ref n =>
    simp only [toP] at h
    cases e : st[n]? with
    | none => rw [e] at h; cases h
    | some o =>
      rw [e] at h
      cases o with
      | dct _ => cases h
      | dk _ _ => cases h
      | dt _ _ => cases h
      | lst xs =>
        simp only [Option.map_eq_some_iff] at h
        obtain ⟨ps, h, rfl⟩ := h
        obtain ⟨a, u, rfl, h1, _, h3, h4⟩ := ref_at S r e
        cases h4 with
        | lst h4 => exact .lst (SqL.of h3) (RPs.dp (h4.plains h))
  | scr ns => simp [toP] at h
end

/-! ### the names -/
def ER (K : PySem.W.Frag) (ρ : List Addr) (A : AS) (H : Hp) (σ : L2.St) (env : En) : Prop := σ.length = env.length ∧ ∀ (i : Nat) (d : D), env[i]? = some (some d) → ∃ v, σ[i]? = some (some v) ∧ RD K ρ A H v d
section
variable {K : PySem.W.Frag} {ρ ρ' : List Addr} {A A' : AS} {H H' : Hp} {σ : L2.St} {env : En}
theorem ER.mono (s : Stp ρ A H ρ' A' H') (e : ER K ρ A H σ env) : ER K ρ' A' H' σ env := ⟨e.1, fun i d h => by
  obtain ⟨v, h1, h2⟩ := e.2 i d h
  exact ⟨v, h1, h2.mono s⟩⟩
theorem ER.set (e : ER K ρ A H σ env) {v : V} {d : D} (r : RD K ρ A H v d) (i : Nat) : ER K ρ A H (σ.set i (some v)) (env.set i (some d)) := by
  refine ⟨by simp [e.1], fun j d' h => ?_⟩
  by_cases hj : j = i
  · subst hj
    have hl : j < env.length := by
      have := (List.getElem?_eq_some_iff.mp h).1
      simpa using this
    rw [List.getElem?_set_self hl] at h
    cases h
    exact ⟨v, List.getElem?_set_self (by rw [e.1]; exact hl), r⟩
  · rw [List.getElem?_set_ne (Ne.symm hj)] at h
    obtain ⟨w, h1, h2⟩ := e.2 j d' h
    exact ⟨w, by rw [List.getElem?_set_ne (Ne.symm hj)]; exact h1, h2⟩
theorem ER.unset (e : ER K ρ A H σ env) (i : Nat) : ER K ρ A H (σ.set i none) (env.set i none) := by
  refine ⟨by simp [e.1], fun j d' h => ?_⟩
  by_cases hj : j = i
  · subst hj
    have hl : j < env.length := by
      have := (List.getElem?_eq_some_iff.mp h).1
      simpa using this
    rw [List.getElem?_set_self hl] at h
    cases h
  · rw [List.getElem?_set_ne (Ne.symm hj)] at h
    obtain ⟨w, h1, h2⟩ := e.2 j d' h
    exact ⟨w, by rw [List.getElem?_set_ne (Ne.symm hj)]; exact h1, h2⟩
theorem ER.wipe (e : ER K ρ A H σ env) : ∀ vs : List Nat, ER K ρ A H (wipe σ vs) (wipeE env vs)
  | [] => e
  | v :: vs => (ER.wipe e vs).unset v
theorem getV_eq {i : Nat} {d : D} (h : getV env i = .ok d) : env[i]? = some (some d) := by
  unfold getV at h
  split at h
  · rename_i d' e; cases h; exact e
  · cases h
end
end Vi
set_option Elab.async false
set_option linter.all false
set_option maxRecDepth 100000
set_option maxHeartbeats 4000000
set_option autoImplicit false
/-! Vc: the look that holds a term of the small language against a text. -/
namespace Vi
open PySem L2

/-- where a text stands: its scope, what may be stored, the places of the names, the defs by number -/
structure CC where
  sc : Scope
  st : List (Str × NameKind)
  N : List Str
  fns : List Str
  gi : List (Str × Int) := []
  exc : Option Str := none

def visB (c : CC) (x : Str) : Bool := match c.sc.names.lookup x with
  | some .local => true
  | some .cell => true
  | some .free => true
  | _ => false
def locB (c : CC) (x : Str) : Bool := match c.st.lookup x with
  | some .local => true
  | some .cell => true
  | _ => false
def glB (c : CC) (x : Str) : Bool := match c.sc.names.lookup x with
  | some .globalImplicit => true
  | _ => false
def dbg : Str := "__debug__"
def cdict : Str := "__classdict__"
def notStar : Expr → Bool
  | .Starred _ _ => false
  | _ => true
def notSlice : Expr → Bool
  | .Slice _ _ _ _ => false
  | _ => true
def notSet : Expr → Bool
  | .Set _ _ _ => false
  | _ => true
def notCall : Expr → Bool
  | .Call _ _ _ _ => false
  | _ => true
def notComp : Expr → Bool
  | .ListComp _ _ _ _ => false
  | .SetComp _ _ _ _ => false
  | .DictComp _ _ _ _ _ => false
  | _ => true
def opB : Operator → Operator → Bool
  | .Add, .Add => true
  | .Sub, .Sub => true
  | .Mult, .Mult => true
  | .FloorDiv, .FloorDiv => true
  | .Mod, .Mod => true
  | .RShift, .RShift => true
  | .LShift, .LShift => true
  | .Pow, .Pow => true
  | .BitAnd, .BitAnd => true
  | _, _ => false
def cmB : CmpOp → CmpOp → Bool
  | .Eq, .Eq => true
  | .NotEq, .NotEq => true
  | .Lt, .Lt => true
  | .LtE, .LtE => true
  | .Gt, .Gt => true
  | .GtE, .GtE => true
  | .In, .In => true
  | .NotIn, .NotIn => true
  | _, _ => false
def cstB : Const → PyData → Bool
  | .int i, .int j => i == j
  | .str x, .str y => x == y
  | .bool a, .bool b => a == b
  | .none, .none => true
  | _, _ => false
def blName : Bl → Str
  | .tuple => "tuple"
  | .list => "list"
  | .int => "int"
  | .len => "len"
  | .abs => "abs"
  | .max2 => "max"
  | .min2 => "min"
  | .repr => "repr"
  | .sum => "sum"
  | .all => "all"
  | .min1 => "min"
  | .max1 => "max"
def tyName : Ty → Str
  | .int => "int"
  | .bool => "bool"
  | .str => "str"
  | .tuple => "tuple"
  | .list => "list"
def mtName : Mt → Str
  | .append => "append"
  | .pop => "pop"
  | .popAt => "pop"
  | .count => "count"
/-- a new list -/
def isNew : E → Bool
  | .lst _ => true
  | .bin _ _ _ => true
  | .slice _ _ _ => true
  | .rev _ => true
  | .blt .list _ => true
  | .lrng _ => true
  | .sorted _ _ => true
  | .comp _ _ _ _ _ => true
  | _ => false
def blkCC (c : CC) (scope : Scope) : CC := { c with sc := relS scope c.sc, st := scope.names }
mutual
def tNames : T → List Nat
  | .name i => [i]
  | .tup ts => tsNames ts
  | .sub _ _ => []
def tsNames : List T → List Nat
  | [] => []
  | t :: ts => tNames t ++ tsNames ts
end
def ownOf (c : CC) (own : List Nat) : List (Str × Nat) := own.map fun i => (c.N.getD i dbg, i)

mutual
def chE (c : CC) : Expr → E → Bool
  | .Name x _, .var i => c.N[i]? == some x && visB c x && !(x == dbg) && !(x == cdict)
  | .Constant k _ _, .cst p => cstB k p
  | .Name x _, .gint y i => x == y && c.gi.lookup x == some i && glB c x && !(x == dbg)
  | .Tuple es _ _, .tup as => chAs c es as
  | .List es _, .lst as => chAs c es as
  | .BinOp a op b _, .bin op' a' b' => opB op op' && chE c a a' && chE c b b'
  | .UnaryOp .USub a _, .neg a' => chE c a a'
  | .UnaryOp .Not a _, .not a' => chE c a a'
  | .BoolOp .And es _, .and es' => chL c es es'
  | .BoolOp .Or es _, .or es' => chL c es es'
  | .Compare a [op] [b] _, .cmp op' a' b' => cmB op op' && notSet b && chE c a a' && chE c b b'
  | .Compare a [.Is] [.Constant .none _ _] _, .isN false a' => chE c a a'
  | .Compare a [.IsNot] [.Constant .none _ _] _, .isN true a' => chE c a a'
  | .Compare a [op, oq] [b, d] _, .chain op' oq' a' b' d' => cmB op op' && cmB oq oq' && notSet b && notSet d && chE c a a' && chE c b b' && chE c d d'
  | .IfExp t a b _, .ite t' a' b' => chE c t t' && chE c a a' && chE c b b'
  | .Subscript a (.Slice lo hi none _) _, .slice a' lo' hi' => chE c a a' && chO c lo lo' && chO c hi hi'
  | .Subscript a (.Slice none none (some (.UnaryOp .USub (.Constant (.int 1) _ _) _)) _) _, .rev a' => chE c a a'
  | .Subscript a i _, .idx a' i' => notSlice i && chE c a a' && chE c i i'
  | .Call (.Name x _) es [] _, .call f es' => c.fns[f]? == some x && glB c x && !(x == dbg) && es.all notStar && chL c es es'
  | .Call (.Name x _) [.Call (.Name y _) es [] _] [] _, .lrng es' => x == ("list" : Str) && y == ("range" : Str) && glB c x && glB c y && es.all notStar && chL c es es'
  | .Call (.Name x _) [.Call (.Name y _) es [] _] [] _, .trng es' => x == ("tuple" : Str) && y == ("range" : Str) && glB c x && glB c y && es.all notStar && chL c es es'
  | .Call (.Name x _) es [] _, .blt b es' => x == blName b && glB c x && es.all notStar && chL c es es'
  | .Call (.Name x _) [a] [] _, .sorted false a' => x == ("sorted" : Str) && glB c x && notStar a && chE c a a'
  | .Call (.Name x _) [a] [⟨some r, .Constant (.bool true) _ _, _⟩] _, .sorted true a' => x == ("sorted" : Str) && r == ("reverse" : Str) && glB c x && notStar a && chE c a a'
  | .Call (.Name x _) [a, .Name y _] [] _, .isa t a' => x == ("isinstance" : Str) && y == tyName t && glB c x && glB c y && notStar a && chE c a a'
  | .Call (.Attribute o m ap) es [] cp, .mt m' o' es' => m == mtName m' && notCall o && ap.endLine == cp.line && es.all notStar && decide (es.length < 20) && chE c o o' && chL c es es'
  | .ListComp elt [⟨tg, iter, ifs, 0⟩] scope _, .comp elt' own t it g => blkC c.N c.sc scope (ownOf c own) && (tNames t).all (fun i => own.contains i) && notSet iter && chI c tg iter it && chT (blkCC c scope) tg t && chG (blkCC c scope) ifs g && chE (blkCC c scope) elt elt'
  | e, .new e' => isNew e' && chE c e e'
  | .Call (.Name x _) [a] [] _, .dpairs a' => x == ("dict" : Str) && glB c x && notStar a && chE c a a'
  | .Dict [] [] _, .nd _ => true
  | .Dict [some k] [v] _, .nd1 _ k' v' => chE c k k' && chE c v v'
  | .Dict ks vs _, .ndct kvs => decide (kvs.length ≤ 15) && !kvs.isEmpty && decide (kvs.map (·.1)).Nodup && chK c ks vs kvs
  | _, _ => false
def chL (c : CC) : List Expr → List E → Bool
  | [], [] => true
  | e :: es, a :: as => chE c e a && chL c es as
  | _, _ => false
def chO (c : CC) : Option Expr → Option E → Bool
  | none, none => true
  | some e, some a => chE c e a
  | _, _ => false
def chG (c : CC) : List Expr → Option E → Bool
  | [], none => true
  | [e], some a => chE c e a
  | _, _ => false
def chAs (c : CC) : List Expr → List Ar → Bool
  | [], [] => true
  | e :: es, a :: as => chA c e a && chAs c es as
  | _, _ => false
def chA (c : CC) : Expr → Ar → Bool
  | .Starred e _, .star a => chE c e a
  | e, .one a => notStar e && chE c e a
  | _, _ => false
def chK (c : CC) : List (Option Expr) → List Expr → List (Str × E) → Bool
  | [], [], [] => true
  | some (.Constant (.str k) _ _) :: ks, v :: vs, (k', a) :: r => k == k' && chE c v a && chK c ks vs r
  | _, _, _ => false
def chI (c : CC) : Expr → Expr → It → Bool
  | _, e, .val a => notSet e && chE c e a
  | _, .Call (.Name x _) es [] _, .rng as => x == ("range" : Str) && glB c x && es.all notStar && chL c es as
  | .Tuple _ _ _, .Call (.Name x _) [e] [] _, .enum a => x == ("enumerate" : Str) && glB c x && notStar e && chE c e a
  | .Tuple _ _ _, .Call (.Name x _) [e, f] [] _, .zip a b => x == ("zip" : Str) && glB c x && notStar e && notStar f && chE c e a && chE c f b
  | _, .Call (.Name x _) [e, f, .UnaryOp .USub (.Constant (.int 1) _ _) _] [] _, .rngD a b => x == ("range" : Str) && glB c x && notStar e && notStar f && chE c e a && chE c f b
  | _, _, _ => false
def chT (c : CC) : Expr → T → Bool
  | .Name x _, .name i => c.N[i]? == some x && locB c x
  | .Tuple es _ _, .tup ts => chTs c es ts
  | .Subscript o i _, .sub o' i' => notSlice i && chE c o o' && chE c i i'
  | _, _ => false
def chTs (c : CC) : List Expr → List T → Bool
  | [], [] => true
  | e :: es, t :: ts => notStar e && chT c e t && chTs c es ts
  | _, _ => false
end
def locN (c : CC) (x : Str) : Bool := c.sc.names.lookup x == some .local
def isName : Expr → Bool
  | .Name _ _ => true
  | _ => false
def isTupE : Expr → Bool
  | .Tuple _ _ _ => true
  | _ => false
/-- the names that are stored from the right -/
def swNames (c : CC) (ts : List Expr) : List Str := ts.filterMap fun
    | .Name id pos => if c.sc.names.lookup id == some .local && pos.line == (ts.head?.map (·.pos.line)).getD 0 then some id else none
    | _ => none
def swNone (c : CC) (ts vs : List Expr) : Bool := !(ts.length == 2 || ts.length == 3) || (swNames c ts).length != ts.length || vs.all (foldedForSure 8)
def setB (c : CC) : Expr → Expr → Bool
  | .Tuple ts _ _, .Tuple vs _ _ => swNone c ts vs
  | .Tuple _ _ _, _ => true
  | .Name _ _, .ListComp _ _ _ _ => true
  | .Name _ _, e => notComp e
  | .Subscript _ _ _, _ => true
  | _, _ => false
mutual
def chS (c : CC) : Stmt → S → Bool
  | .Assign [tg] e _, .set t a => setB c tg e && notStar tg && chT c tg t && chE c e a
  | .Assign [.Tuple [.Name x px, .Name y py] _ _] (.Tuple [a, b] _ _) _, .par [.name i, .name j] [a', b'] =>
      ((c.N[i]? == some x && c.N[j]? == some y && !(i == j) && !(x == y) && locN c x && locN c y && px.line == py.line && notStar a && notStar b && !([a, b].all (foldedForSure 8)) && !([a, b].all (constantsAlone 8)))
        || (c.N[i]? == some x && c.N[j]? == some y && locB c x && locB c y && notStar a && notStar b && swNone c [.Name x px, .Name y py] [a, b])) && chE c a a' && chE c b b'
  | .Assign [.Tuple [.Name x px, .Name y py, .Name z pz] _ _] (.Tuple [a, b, d] _ _) _, .par [.name i, .name j, .name l] [a', b', d'] =>
      c.N[i]? == some x && c.N[j]? == some y && c.N[l]? == some z && !(i == j) && !(i == l) && !(j == l) && !(x == y) && !(x == z) && !(y == z) && locN c x && locN c y && locN c z && px.line == py.line && px.line == pz.line && notStar a && notStar b && notStar d
        && !([a, b, d].all (foldedForSure 8)) && !([a, b, d].all (constantsAlone 8)) && chE c a a' && chE c b b' && chE c d d'
  | .AugAssign (.Name x _) op e _, .aug i op' a => c.N[i]? == some x && locB c x && opB op op' && chE c e a
  | .AugAssign (.Subscript o i _) op e _, .augS o' i' op' a => notSlice i && opB op op' && chE c o o' && chE c i i' && chE c e a
  | .Try [.Return (some (.Call (.Name x _) es [] _)) _] [.ExceptHandler (some (.Name y _)) none [.Return (some (.Constant .none _ _)) _] _] [] [] _, .tryR false f es' => c.fns[f]? == some x && glB c x && !(x == dbg) && es.all notStar && !es.isEmpty && chL c es es' && c.exc == some y && glB c y && !(y == dbg)
  | .Try [.Return (some (.List [.Call (.Name x _) es [] _] _)) _] [.ExceptHandler (some (.Name y _)) none [.Return (some (.List [] _)) _] _] [] [] _, .tryR true f es' => c.fns[f]? == some x && glB c x && !(x == dbg) && es.all notStar && !es.isEmpty && chL c es es' && c.exc == some y && glB c y && !(y == dbg)
  | .Raise (some (.Call (.Name y _) [] [] _)) none _, .raise => c.exc == some y && glB c y && !(y == dbg)
  | .Expr e _, .expr a => notComp e && chE c e a
  | .Return (some e) _, .ret a => chE c e a
  | .Return none _, .retN => true
  | .If t a b _, .ite t' a' b' => chE c t t' && chSs c a a' && chSs c b b'
  | .For tg iter b [] _, .forS t it b' => notSet iter && chI c tg iter it && chT c tg t && chSs c b b'
  | .For tg (.Name x _) b [] _, .forK t i b' => c.N[i]? == some x && visB c x && !(x == dbg) && !(x == cdict) && chT c tg t && chSs c b b'
  | _, .bad => true
  | .While t b [] _, .whileS t' b' => chE c t t' && chSs c b b'
  | .Pass _, .pass => true
  | .Break _, .brk => true
  | .Continue _, .cont => true
  | _, _ => false
def chSs (c : CC) : List Stmt → List S → Bool
  | [], [] => true
  | s :: r, a :: as => chS c s a && chSs c r as
  | _, _ => false
end
end Vi
set_option Elab.async false
set_option linter.all false
set_option maxRecDepth 100000
set_option maxHeartbeats 4000000
set_option autoImplicit false
/-! Vd: each rule of the small language, shown over the hand layer. -/
namespace Vi
open PySem L2 PySem.Spec PyProof.Rows

/-- what a def does, by the interpreter's call -/
def spC (K : PySem.W.Frag) (C : Cfg) (f : Nat) (vs : List V) (H : Hp) (Q : VK) : Prop :=
  ∃ (ρ : List Addr) (A : AS) (ds : List D) (st : Sto) (d : D) (st' : Sto), SR K ρ A st H ∧ RDs K ρ A H vs ds ∧ C.call f ds st = .ok (d, st') ∧
    ∀ v H' ρ' A', Stp ρ A H ρ' A' H' → SR K ρ' A' st' H' → RD K ρ' A' H' v d → Q v H'
structure FnG (P : Program) (w : World) (K : PySem.W.Frag) (mg : Str → Option Value) (base : Heap) (k : Nat) (f : Addr) (fd : FuncData) (ps : List Str) (sp : List V → Hp → VK → Prop) : Prop where
  len : ∀ vs H Q, sp vs H Q → vs.length = ps.length
  run : ∀ (A : Around) (outer : List Env) (s : Shared) (H : Hp) (args : Args) (us : List Value) (vs : List V) (Q : VK), Room k A → A.guards = some [] → Env0 P w K mg base A outer s H → BindsTo s fd args (ps.zip us) → Vals vs us → sp vs H Q →
    codeAny (model P w) A (.call (.ref f) args) (CR CX0 outer P w H s Q E0) s
def bltNames : List Str := ["tuple", "list", "int", "len", "abs", "max", "min", "repr", "sum", "dict", "bool", "str", "sorted", "range", "enumerate", "zip", "isinstance", "all"]
structure Okx (c : CC) (C : Cfg) (X : Cx) : Prop where
  sc : X.env.scope = c.sc
  N : X.N = c.N
  nd : c.N.Nodup
  calm : X.calm = true
  st : ∀ x, locB c x = true → Loc X.env.scope x ∧ (X.fn x = true ∨ X.env.scope.names.lookup x = some .local)
  bl : ∀ x, x ∈ bltNames → X.mg x = none
  un : X.A.units + 200 < cLine
  gu : X.A.guards = some []
  pass : PassesOwn (model X.prog X.w) X.A X.env X.xe
  gi : ∀ x i, c.gi.lookup x = some i → ∃ t, X.mg x = some (.int i t)
  call : ∀ (f : Nat) (x : Str), c.fns[f]? = some x → ∃ (k : Nat) (fa : Addr) (fd : FuncData) (ps : List Str), X.mg x = some (.ref fa) ∧ PySem.W.keepIn X.K (.ref fa) = true ∧ Room k X.A ∧ Binds X.K fd ps [] ∧
    FnG X.prog X.w X.K X.mg X.base k fa fd ps (spC X.K C f)

/-- a new list of plain data, open: it isn't shut, nor the store's -/
def FD (K : PySem.W.Frag) (H0 : Hp) (ρ : List Addr) (A : AS) (H : Hp) (v : V) (d : D) : Prop := match d with
  | .v (.list xs) => ∃ a vs, v = .ref a ∧ H0 a = none ∧ ¬ A a ∧ a ∉ ρ ∧ H a = some (.lst vs) ∧ RPs A H vs xs
  | d => RD K ρ A H v d
def PD (fr : Bool) (K : PySem.W.Frag) (H0 : Hp) (ρ : List Addr) (A : AS) (H : Hp) (v : V) (d : D) : Prop := if fr then FD K H0 ρ A H v d else RD K ρ A H v d
/-- the readings -/
def tX (fr : Bool) (K : PySem.W.Frag) (C : Cfg) (e : E) : TE := fun σ H Q => ∃ (ρ : List Addr) (A : AS) (env : En) (st : Sto) (d : D) (st' : Sto), ER K ρ A H σ env ∧ SR K ρ A st H ∧ evE C e env st = .ok (d, st') ∧
  ∀ v H' ρ' A', Stp ρ A H ρ' A' H' → SR K ρ' A' st' H' → PD fr K H ρ' A' H' v d → Q v H'
def tXs (K : PySem.W.Frag) (C : Cfg) (es : List E) : TA := fun σ H Q => ∃ (ρ : List Addr) (A : AS) (env : En) (st : Sto) (ds : List D) (st' : Sto), ER K ρ A H σ env ∧ SR K ρ A st H ∧ evEs C es env st = .ok (ds, st') ∧
  ∀ vs H' ρ' A', Stp ρ A H ρ' A' H' → SR K ρ' A' st' H' → RDs K ρ' A' H' vs ds → Q vs H'
def tXAs (K : PySem.W.Frag) (C : Cfg) (es : List Ar) : TA := fun σ H Q => ∃ (ρ : List Addr) (A : AS) (env : En) (st : Sto) (ds : List D) (st' : Sto), ER K ρ A H σ env ∧ SR K ρ A st H ∧ evAs C es env st = .ok (ds, st') ∧
  ∀ vs H' ρ' A', Stp ρ A H ρ' A' H' → SR K ρ' A' st' H' → RDs K ρ' A' H' vs ds → Q vs H'
def tXT (K : PySem.W.Frag) (C : Cfg) (e : E) : TT := fun σ H Q => ∃ (ρ : List Addr) (A : AS) (env : En) (st : Sto) (b : Bool) (st' : Sto), ER K ρ A H σ env ∧ SR K ρ A st H ∧ evT C e env st = .ok (b, st') ∧
  ∀ H' ρ' A', Stp ρ A H ρ' A' H' → SR K ρ' A' st' H' → Q b H'
section
variable {K : PySem.W.Frag} {C : Cfg} {X : Cx} {c : CC} {ρ ρ' : List Addr} {A A' : AS} {H H' : Hp} {st st' : Sto}
theorem RD.int_eq {v : V} {i : Int} (r : RD K ρ A H v (.v (.int i))) : v = .int i := by cases r with | v r => cases r; rfl
theorem RD.bl_eq {v : V} {b : Bool} (r : RD K ρ A H v (.v (.bool b))) : v = .bl b := by cases r with | v r => cases r; rfl
theorem RD.str_eq {v : V} {x : Str} (r : RD K ρ A H v (.v (.str x))) : v = .str x := by cases r with | v r => cases r; rfl
theorem RD.non_eq {v : V} (r : RD K ρ A H v (.v .none)) : v = .non := by cases r with | v r => cases r; rfl
theorem RD.tup_eq {v : V} {xs : List PyData} (r : RD K ρ A H v (.v (.tuple xs))) : ∃ a vs, v = .ref a ∧ True ∧ TupF H a vs ∧ RPs A H vs xs := by
  cases r with | v r => cases r with | tup h2 h3 => exact ⟨_, _, rfl, trivial, h2, h3⟩
theorem RD.lst_eq {v : V} {xs : List PyData} (r : RD K ρ A H v (.v (.list xs))) : ∃ a vs, v = .ref a ∧ A a ∧ H a = some (.lst vs) ∧ RPs A H vs xs := by
  cases r with | v r => cases r with | lst h1 h2 h3 => exact ⟨_, _, rfl, h1, h2, h3⟩
theorem toInt_eq {d : D} {i : Int} (h : toInt d = some i) : d = .v (.int i) := by
  cases d with
  | v p => cases p <;> simp [toInt] at h; subst h; rfl
  | _ => simp [toInt] at h
theorem toBool_eq {d : D} {b : Bool} (h : toBool d = some b) : d = .v (.bool b) := by
  cases d with
  | v p => cases p <;> simp [toBool] at h; subst h; rfl
  | _ => simp [toBool] at h
theorem truth_at {v : V} {d : D} {b : Bool} (S : SR K ρ A st H) (r : RD K ρ A H v d) (h : truthOf st d = some b) : TruV K v H b := by
  have sq : ∀ {d : D}, RD K ρ A H v d → (match seqOf st d with
    | some (_, ds) => some (!ds.isEmpty)
    | none => none) = some b → TruV K v H b := fun {d} r h => by
    cases e : seqOf st d with
    | none => rw [e] at h; cases h
    | some bd =>
      obtain ⟨k, ds⟩ := bd
      rw [e] at h
      obtain ⟨a, vs, rfl, hh, rs⟩ := seq_at S r e
      have hb : b = !vs.isEmpty := by
        cases rs with
        | nil => cases h; rfl
        | cons _ _ => cases h; rfl
      cases k with
      | true => exact .inr (.inl ⟨vs, hh.sqT, hb⟩)
      | false => exact .inl ⟨vs, SqL.of hh, hb⟩
  cases d with
  | v p =>
    cases p with
    | none => cases r.non_eq; exact (Option.some.inj h).symm
    | bool _ => cases r.bl_eq; exact (Option.some.inj h).symm
    | int _ => cases r.int_eq; exact (Option.some.inj h).symm
    | str _ =>
      cases r.str_eq
      simp only [truthOf] at h
      split at h
      · rename_i hz; simp only [Option.some.injEq] at h; exact ⟨of_decide_eq_true hz, h.symm⟩
      · cases h
    | list _ => exact sq r h
    | tuple _ => exact sq r h
    | dict _ => exact sq r h
  | ref n => exact sq r h
  | scr ns => exact sq r h
theorem small_eq {n : Nat} (h : small n = true) : n ≤ sizeLine := of_decide_eq_true h
theorem mkLst_eq {ds : List D} {d : D} (h : mkLst ds = .ok d) : ∃ ps, d = .v (.list ps) ∧ plains ds = some ps ∧ ds.length ≤ sizeLine := by
  unfold mkLst at h
  split at h
  · rename_i ps e
    split at h
    · rename_i hs
      cases h
      exact ⟨ps, rfl, e, by rw [← plains_length e]; exact small_eq hs⟩
    · cases h
  · cases h
theorem mkTup_eq {ds : List D} {d : D} (h : mkTup ds = .ok d) : ∃ ps, d = .v (.tuple ps) ∧ plains ds = some ps ∧ ds.length ≤ sizeLine := by
  unfold mkTup at h
  split at h
  · rename_i ps e
    split at h
    · rename_i hs
      cases h
      exact ⟨ps, rfl, e, by rw [← plains_length e]; exact small_eq hs⟩
    · cases h
  · cases h
theorem PD.weak {fr : Bool} {H0 : Hp} {v : V} {d : D} (S : SR K ρ A st H) (p : PD fr K H0 ρ A H v d) (hn : ∀ a u, H0 a = some u → a ∉ ρ ∨ True) : ∃ A', (∀ ρ0 A0 H0', Stp ρ0 A0 H0' ρ A H → (∀ a, H0 a = none → a ∉ ρ0 ∧ H0' a = none) → Stp ρ0 A0 H0' ρ A' H) ∧ SR K ρ A' st H ∧ RD K ρ A' H v d := by
  have triv : RD K ρ A H v d → ∃ A', (∀ ρ0 A0 H0', Stp ρ0 A0 H0' ρ A H → (∀ a, H0 a = none → a ∉ ρ0 ∧ H0' a = none) → Stp ρ0 A0 H0' ρ A' H) ∧ SR K ρ A' st H ∧ RD K ρ A' H v d := fun r => ⟨A, fun _ _ _ s _ => s, S, r⟩
  unfold PD at p
  split at p
  · unfold FD at p
    split at p
    · rename_i xs
      obtain ⟨a, vs, rfl, h0, hA, hρ, hH, rs⟩ := p
      refine ⟨addA A a, fun ρ0 A0 H0' s hz => ⟨s.pre, fun b h => .inl (s.sub b h), s.ka, s.kp, s.nw, fun b h n => ?_, s.fz⟩, S.shut hρ (by rw [hH]; intro z; cases z), .v (.lst (.inr rfl) hH (rs.mono (fun _ z => .inl z) (Kp.refl _ _)))⟩
      rcases h with h | h
      · exact s.an b h n
      · exact h ▸ hz a h0
    · exact triv p
  · exact triv p
/-- from the strong reading the weak one -/
theorem pe_weak {e : Expr} {ir : E} {fr : Bool} (h : PE X e (tX fr X.K C ir)) : PE X e (tX false X.K C ir) := by
  refine ⟨fun pins s σ H Q I q => ?_⟩
  obtain ⟨ρ, A, env, st, d, st', er, sr, ev, post⟩ := q
  refine h.run pins s σ H Q I ⟨ρ, A, env, st, d, st', er, sr, ev, fun v H' ρ' A' s' S' p => ?_⟩
  obtain ⟨A2, h1, h2, h3⟩ := PD.weak S' p (fun _ _ _ => .inr trivial)
  exact post v H' ρ' A2 (h1 ρ A H s' fun a ha => ⟨sr.notmem ha, ha⟩) h2 h3
/-- the strong reading where nothing new is told -/
theorem pe_strong {e : Expr} {ir : E} (h : PE X e (tX false X.K C ir)) (hn : ∀ env st xs st', evE C ir env st ≠ .ok (.v (.list xs), st')) {fr : Bool} : PE X e (tX fr X.K C ir) := by
  refine ⟨fun pins s σ H Q I q => ?_⟩
  obtain ⟨ρ, A, env, st, d, st', er, sr, ev, post⟩ := q
  refine h.run pins s σ H Q I ⟨ρ, A, env, st, d, st', er, sr, ev, fun v H' ρ' A' s' S' p => post v H' ρ' A' s' S' ?_⟩
  unfold PD at p ⊢
  simp only [Bool.false_eq_true, if_false] at p
  split
  · unfold FD
    split
    · exact absurd ev (hn _ _ _ _)
    · exact p
  · exact p
/-- the end of a rule whose answer is a new list -/
theorem end_list {ds : List D} {d : D} {vs : List V} {p : Addr} {ρ2 : List Addr} {A2 : AS} {H2 : Hp} {Q : VK} {fr : Bool} (s : Stp ρ A H ρ2 A2 H2) (S0 : SR K ρ A st H) (S2 : SR K ρ2 A2 st' H2) (r : RDs K ρ2 A2 H2 vs ds) (m : mkLst ds = .ok d) (hp : H2 p = none)
    (post : ∀ v H' ρ' A', Stp ρ A H ρ' A' H' → SR K ρ' A' st' H' → PD true K H ρ' A' H' v d → Q v H') : Q (.ref p) (upd H2 p (.lst vs)) := by
  obtain ⟨ps, rfl, e, _⟩ := mkLst_eq m
  have l : Stp ρ2 A2 H2 ρ2 A2 (upd H2 p (.lst vs)) := Stp.laid0 hp
  have np : p ∉ ρ2 := S2.notmem hp
  have h0 : H p = none := s.free (fun z => np (s.pre.subset z)) hp
  exact post _ _ ρ2 A2 (s.trans l) (S2.laid0 hp) ⟨p, vs, rfl, h0, fun z => S2.al p z hp, np, upd_same, (r.plains e).mono l.sub l.ka⟩
/-- .. a new tuple -/
theorem end_tup {ps : List PyData} {vs : List V} {ρ2 : List Addr} {A2 : AS} {H2 : Hp} {Q : VK} {fr : Bool} {H0 : Hp} (s : Stp ρ A H ρ2 A2 H2) (S2 : SR K ρ2 A2 st' H2) (r : RPs A2 H2 vs ps)
    (post : ∀ v H' ρ' A', Stp ρ A H ρ' A' H' → SR K ρ' A' st' H' → PD fr K H0 ρ' A' H' v (.v (.tuple ps)) → Q v H') : NewT vs H2 Q := by
  intro p hp
  have l : Stp ρ2 A2 H2 ρ2 (addA A2 p) (upd H2 p (.tup vs)) := Stp.laid S2 hp
  refine post _ _ ρ2 (addA A2 p) (s.trans l) (S2.laid hp) ?_
  have q : RD K ρ2 (addA A2 p) (upd H2 p (.tup vs)) (.ref p) (.v (.tuple ps)) := .v (.tup upd_same (r.mono l.sub l.ka))
  unfold PD
  split
  · exact q
  · exact q
/-- .. any value that isn't a list -/
theorem PD.of {fr : Bool} {H0 : Hp} {v : V} {d : D} (r : RD K ρ A H v d) (h : ∀ xs, d ≠ .v (.list xs)) : PD fr K H0 ρ A H v d := by
  unfold PD
  split
  · unfold FD
    split
    · exact absurd rfl (h _)
    · exact r
  · exact r
theorem PD.int {fr : Bool} {H0 : Hp} {i : Int} : PD fr K H0 ρ A H (.int i) (.v (.int i)) := .of (.v (.int i)) (fun _ z => nomatch z)
theorem PD.bl {fr : Bool} {H0 : Hp} {b : Bool} : PD fr K H0 ρ A H (.bl b) (.v (.bool b)) := .of (.v (.bl b)) (fun _ z => nomatch z)
theorem PD.str {fr : Bool} {H0 : Hp} {x : Str} : PD fr K H0 ρ A H (.str x) (.v (.str x)) := .of (.v (.str x)) (fun _ z => nomatch z)
theorem PD.weak0 {H0 : Hp} {v : V} {d : D} (r : RD K ρ A H v d) : PD false K H0 ρ A H v d := r
theorem PD.rd {H0 : Hp} {v : V} {d : D} (r : PD false K H0 ρ A H v d) : RD K ρ A H v d := r
/-- one operand, then the rest -/
theorem one_tX {a : E} {σ : L2.St} {env : En} {d : D} {st1 : Sto} {R1 : VK} (er : ER K ρ A H σ env) (sr : SR K ρ A st H) (ev : evE C a env st = .ok (d, st1))
    (k : ∀ v H1 ρ1 A1, Stp ρ A H ρ1 A1 H1 → SR K ρ1 A1 st1 H1 → RD K ρ1 A1 H1 v d → R1 v H1) : tX false K C a σ H R1 :=
  ⟨ρ, A, env, st, d, st1, er, sr, ev, fun v H1 ρ1 A1 s S r => k v H1 ρ1 A1 s S r⟩
theorem two_tX {a b : E} {σ : L2.St} {env : En} {d e : D} {st1 st2 : Sto} {R2 : V → V → Hp → Prop} (er : ER K ρ A H σ env) (sr : SR K ρ A st H) (ev : evE C a env st = .ok (d, st1)) (ev2 : evE C b env st1 = .ok (e, st2))
    (k : ∀ v w H2 ρ2 A2, Stp ρ A H ρ2 A2 H2 → SR K ρ2 A2 st2 H2 → RD K ρ2 A2 H2 v d → RD K ρ2 A2 H2 w e → R2 v w H2) : tX false K C a σ H fun v H1 => tX false K C b σ H1 fun w H2 => R2 v w H2 :=
  one_tX er sr ev fun v H1 ρ1 A1 s S r => one_tX (er.mono s) S ev2 fun w H2 ρ2 A2 s2 S2 r2 => k v w H2 ρ2 A2 (s.trans s2) S2 (r.mono s2) r2
end
end Vi
set_option Elab.async false
set_option linter.all false
set_option maxRecDepth 100000
set_option maxHeartbeats 4000000
set_option autoImplicit false
/-! Ve: expressions, one rule each. -/
namespace Vi
open PySem L2 PySem.Spec PyProof.Rows
section
variable {C : Cfg} {X : Cx} {c : CC}
theorem and2 {a b : Bool} (h : (a && b) = true) : a = true ∧ b = true := Bool.and_eq_true_iff.mp h
theorem bang {a : Bool} (h : (!a) = true) : a = false := by cases a <;> simp_all
theorem beqt {α : Type} [BEq α] [LawfulBEq α] {a b : α} (h : (a == b) = true) : a = b := eq_of_beq h
theorem vis_of (O : Okx c C X) {x : Str} (h : visB c x = true) : Vis X.env.scope x := by
  unfold visB at h
  rw [← O.sc] at h
  unfold Vis
  split at h <;> first | (rename_i e; simp only [e]; simp) | cases h
theorem gl_of (O : Okx c C X) {x : Str} (h : glB c x = true) : Gl X x := by
  unfold glB at h
  rw [← O.sc] at h
  show X.env.scope.names.lookup x = _
  split at h
  · rename_i e; exact e
  · cases h
/-! ### lists of arguments -/
theorem star_cons {e : Expr} {es : List Expr} {env : Env} (h : notStar e = true) : starEach (e :: es) env = (false, eval e env) :: starEach es env := by
  cases e <;> first | rfl | (simp [notStar] at h)
theorem back_star {es : List Expr} {env : Env} {pos : Pos} (h : es.all notStar = true) : (backTo pos (starEach es env)).any (·.1) = false := by
  induction es with
  | nil => rfl
  | cons e es ih =>
    rw [List.all_cons] at h
    obtain ⟨h1, h2⟩ := and2 h
    rw [star_cons h1]
    show (false || (backTo pos (starEach es env)).any (·.1)) = false
    rw [ih h2]; rfl
theorem s_nil : PA X [] (tXs X.K C []) := by
  refine ⟨fun pos pins s σ H Q I q => ?_⟩
  obtain ⟨ρ, A, env, st, ds, st', er, sr, ev, post⟩ := q
  simp only [evEs, R.ok.injEq, Prod.mk.injEq] at ev
  obtain ⟨rfl, rfl⟩ := ev
  exact pa_nil.run pos pins s σ H Q I (post [] H ρ A .refl sr .nil)
theorem s_cons {e : Expr} {es : List Expr} {a : E} {as : List E} (h1 : PE X e (tX false X.K C a)) (h2 : PA X es (tXs X.K C as)) (hn : notStar e = true) : PA X (e :: es) (tXs X.K C (a :: as)) := by
  refine ⟨fun pos pins s σ H Q I q => ?_⟩
  obtain ⟨ρ, A, env, st, ds, st', er, sr, ev, post⟩ := q
  simp only [evEs] at ev
  obtain ⟨⟨d, st1⟩, e1, ev⟩ := R.bind_eq ev
  obtain ⟨⟨ds', st2⟩, e2, ev⟩ := R.bind_eq ev
  simp only [R.ok.injEq, Prod.mk.injEq] at ev
  obtain ⟨rfl, rfl⟩ := ev
  refine (pa_cons h1 h2 (star_cons hn)).run pos pins s σ H Q I (one_tX er sr e1 fun v H1 ρ1 A1 s1 S1 r1 => ?_)
  exact ⟨ρ1, A1, env, st1, ds', st2, er.mono s1, S1, e2, fun vs H2 ρ2 A2 s2 S2 r2 => post _ H2 ρ2 A2 (s1.trans s2) S2 (.cons (r1.mono s2) r2)⟩
/-- .. with stars -/
theorem a_nil : PA X [] (tXAs X.K C []) := by
  refine ⟨fun pos pins s σ H Q I q => ?_⟩
  obtain ⟨ρ, A, env, st, ds, st', er, sr, ev, post⟩ := q
  simp only [evAs, R.ok.injEq, Prod.mk.injEq] at ev
  obtain ⟨rfl, rfl⟩ := ev
  exact pa_nil.run pos pins s σ H Q I (post [] H ρ A .refl sr .nil)
theorem a_one {e : Expr} {es : List Expr} {a : E} {as : List Ar} (h1 : PE X e (tX false X.K C a)) (h2 : PA X es (tXAs X.K C as)) (hn : notStar e = true) : PA X (e :: es) (tXAs X.K C (.one a :: as)) := by
  refine ⟨fun pos pins s σ H Q I q => ?_⟩
  obtain ⟨ρ, A, env, st, ds, st', er, sr, ev, post⟩ := q
  simp only [evAs, evA] at ev
  obtain ⟨⟨d, st1⟩, e1, ev⟩ := R.bind_eq ev
  obtain ⟨⟨d1, st1'⟩, e0, e3⟩ := R.bind_eq e1
  simp only [R.ok.injEq, Prod.mk.injEq] at e3
  obtain ⟨rfl, rfl⟩ := e3
  obtain ⟨⟨ds', st2⟩, e2, ev⟩ := R.bind_eq ev
  simp only [R.ok.injEq, Prod.mk.injEq] at ev
  obtain ⟨rfl, rfl⟩ := ev
  refine (pa_cons h1 h2 (star_cons hn)).run pos pins s σ H Q I (one_tX er sr e0 fun v H1 ρ1 A1 s1 S1 r1 => ?_)
  exact ⟨ρ1, A1, env, _, ds', st2, er.mono s1, S1, e2, fun vs H2 ρ2 A2 s2 S2 r2 => post _ H2 ρ2 A2 (s1.trans s2) S2 (.cons (r1.mono s2) r2)⟩
theorem seq_collect {pins : List (Addr × Obj)} {σ : L2.St} {H : Hp} {s : Shared} {a : Addr} {b : Bool} {vs : List V} {E : Value → Shared → Prop} {Q : List Value → Shared → Prop} (I : Inv X pins σ H s) (h : SqB b H a vs)
    (q : ∀ us s', Vals vs us → Inv X pins σ H s' → Q us s') : PySem.W.StarOf (model X.prog X.w) X.A E (.ref a) Q s := by
  cases b with
  | true =>
    obtain ⟨its, rv, ⟨o, ho, hc, n, hd⟩, hz⟩ := I.tuple (TupF.sqT h)
    have hT : s.TypeIs (.ref a) "tuple" := ⟨o, ho, hc⟩
    have z : wpAny (model X.prog X.w) X.A (collect (.ref a)) Q E s := by
      refine wpAny_collect_seq a (.inr rfl) ho hc hd (fun h' hk => ?_) (by rw [List.size_toArray, ← rv.length]; exact hz)
      exact q _ _ (by simpa using rv) (I.kept (t' := s.toks) hk)
    unfold PySem.W.StarOf notIterableAtAll
    exact wpAny_bind (wpAny_specialOf hT PySem.F.slot_tuple_iter.lookup (wpAny_pure ⟨rfl, z⟩))
  | false =>
    obtain ⟨its, rv, ⟨o, n, ho, hc, hdn, hd⟩, hz⟩ := I.list (SqL.of h)
    have hT : s.TypeIs (.ref a) "list" := ⟨o, ho, hc⟩
    have z : wpAny (model X.prog X.w) X.A (collect (.ref a)) Q E s := by
      refine wpAny_collect_seq a (.inl rfl) ho hc hd (fun h' hk => ?_) (by rw [List.size_toArray, ← rv.length]; exact hz)
      exact q _ _ (by simpa using rv) (I.kept (t' := s.toks) hk)
    unfold PySem.W.StarOf notIterableAtAll
    exact wpAny_bind (wpAny_specialOf hT PySem.F.slot_list_iter.lookup (wpAny_pure ⟨rfl, z⟩))
theorem a_star {e : Expr} {p : Pos} {es : List Expr} {a : E} {as : List Ar} (h1 : PE X e (tX false X.K C a)) (h2 : PA X es (tXAs X.K C as)) : PA X (.Starred e p :: es) (tXAs X.K C (.star a :: as)) := by
  refine ⟨fun pos pins s σ H Q I q => ?_⟩
  obtain ⟨ρ, A, env, st, ds, st', er, sr, ev, post⟩ := q
  simp only [evAs, evA] at ev
  obtain ⟨⟨d, st1⟩, e1, ev⟩ := R.bind_eq ev
  obtain ⟨⟨d1, st1'⟩, e0, e3⟩ := R.bind_eq e1
  cases hq : seqOf st1' d1 with
  | none => simp only [hq] at e3; cases e3
  | some bd =>
    obtain ⟨b, dd⟩ := bd
    simp only [hq, R.ok.injEq, Prod.mk.injEq] at e3
    obtain ⟨rfl, rfl⟩ := e3
    obtain ⟨⟨ds', st2⟩, e2, ev⟩ := R.bind_eq ev
    simp only [R.ok.injEq, Prod.mk.injEq] at ev
    obtain ⟨rfl, rfl⟩ := ev
    refine PySem.W.items_star (thn (h1.run pins s σ H _ I (one_tX er sr e0 (R1 := fun v H1 => ∃ ρ1 A1, Stp ρ A H ρ1 A1 H1 ∧ SR X.K ρ1 A1 st1' H1 ∧ RD X.K ρ1 A1 H1 v d1) fun v H1 ρ1 A1 s1 S1 r1 => ⟨ρ1, A1, s1, S1, r1⟩)) ?_) rfl
    rintro u s1 ⟨v, H1, I1, rv, ρ1, A1, s1', S1, r1⟩
    obtain ⟨a1, vs, rfl, hh, rs⟩ := seq_at S1 r1 hq
    cases rv
    refine seq_collect I1 hh fun us s2 hus I2 => ?_
    refine thn (h2.run pos pins s2 σ H1 _ I2 ⟨ρ1, A1, env, st1', ds', st2, er.mono s1', S1, e2, fun ws H2 ρ2 A2 s2' S2 r2 => post (vs ++ ws) H2 ρ2 A2 (s1'.trans s2') S2 ((rs.mono s2').append r2)⟩) ?_
    rintro ws s3 ⟨xs, H3, I3, rxs, q3⟩
    exact ⟨vs ++ xs, H3, I3, hus.append rxs, q3⟩

/-! ### names, constants, displays -/
theorem e_var (O : Okx c C X) {x : Str} {i : Nat} {pos : Pos} (h : (c.N[i]? == some x && visB c x && !(x == dbg) && !(x == cdict)) = true) : PE X (.Name x pos) (tX false X.K C (.var i)) := by
  obtain ⟨h, h4⟩ := and2 h
  obtain ⟨h, h3⟩ := and2 h
  obtain ⟨h1, h2⟩ := and2 h
  refine ⟨fun pins s σ H Q I q => ?_⟩
  obtain ⟨ρ, A, env, st, d, st', er, sr, ev, post⟩ := q
  simp only [evE] at ev
  obtain ⟨d', e1, ev⟩ := R.bind_eq ev
  simp only [R.ok.injEq, Prod.mk.injEq] at ev
  obtain ⟨rfl, rfl⟩ := ev
  obtain ⟨v, hv, rv⟩ := er.2 i d' (getV_eq e1)
  exact (pe_var (by rw [O.N]; exact beqt h1) (vis_of O h2) (bang h3) (bang h4)).run pins s σ H Q I ⟨v, hv, post v H ρ A .refl sr rv⟩
theorem e_cst {k : Const} {p : PyData} {n : Nat} {pos : Pos} {fr : Bool} (h : cstB k p = true) : PE X (.Constant k n pos) (tX fr X.K C (.cst p)) := by
  have go : ∀ {v : V}, PE X (.Constant k n pos) (tC v) → (∀ (K : PySem.W.Frag) ρ A H, RD K ρ A H v (.v p)) → (∀ xs, p ≠ .list xs) → PE X (.Constant k n pos) (tX fr X.K C (.cst p)) := fun {v} hv hr hl => by
    refine ⟨fun pins s σ H Q I q => ?_⟩
    obtain ⟨ρ, A, env, st, d, st', er, sr, ev, post⟩ := q
    simp only [evE, R.ok.injEq, Prod.mk.injEq] at ev
    obtain ⟨rfl, rfl⟩ := ev
    exact hv.run pins s σ H Q I (post v H ρ A .refl sr (.of (hr _ _ _ _) fun xs z => hl xs (by cases z; rfl)))
  cases k <;> cases p <;> simp [cstB] at h
  · exact go pe_non (fun _ _ _ _ => .v .non) (fun _ z => nomatch z)
  · subst h; exact go pe_bl (fun _ _ _ _ => .v (.bl _)) (fun _ z => nomatch z)
  · subst h; exact go pe_int (fun _ _ _ _ => .v (.int _)) (fun _ z => nomatch z)
  · subst h; exact go pe_str (fun _ _ _ _ => .v (.str _)) (fun _ z => nomatch z)
theorem e_tup {es : List Expr} {as : List Ar} {n : Nat} {pos : Pos} {fr : Bool} (h : PA X es (tXAs X.K C as)) : PE X (.Tuple es n pos) (tX fr X.K C (.tup as)) := by
  refine ⟨fun pins s σ H Q I q => ?_⟩
  obtain ⟨ρ, A, env, st, d, st', er, sr, ev, post⟩ := q
  simp only [evE] at ev
  obtain ⟨⟨ds, st1⟩, e1, ev⟩ := R.bind_eq ev
  obtain ⟨d', e2, ev⟩ := R.bind_eq ev
  simp only [R.ok.injEq, Prod.mk.injEq] at ev
  obtain ⟨rfl, rfl⟩ := ev
  obtain ⟨ps, rfl, e3, hz⟩ := mkTup_eq e2
  exact (pe_tupF h).run pins s σ H Q I ⟨ρ, A, env, st, ds, st1, er, sr, e1, fun vs H1 ρ1 A1 s1 S1 r1 => ⟨by rw [r1.length]; exact hz, end_tup s1 S1 (r1.plains e3) post⟩⟩
theorem e_lst {es : List Expr} {as : List Ar} {pos : Pos} (h : PA X es (tXAs X.K C as)) : PE X (.List es pos) (tX true X.K C (.lst as)) := by
  refine ⟨fun pins s σ H Q I q => ?_⟩
  obtain ⟨ρ, A, env, st, d, st', er, sr, ev, post⟩ := q
  simp only [evE] at ev
  obtain ⟨⟨ds, st1⟩, e1, ev⟩ := R.bind_eq ev
  obtain ⟨d', e2, ev⟩ := R.bind_eq ev
  simp only [R.ok.injEq, Prod.mk.injEq] at ev
  obtain ⟨rfl, rfl⟩ := ev
  obtain ⟨ps, _, _, hz⟩ := mkLst_eq e2
  refine (pe_lst h).run pins s σ H Q I ⟨ρ, A, env, st, ds, st1, er, sr, e1, fun vs H1 ρ1 A1 s1 S1 r1 => ⟨by rw [r1.length]; exact hz, fun p hp => ?_⟩⟩
  exact end_list (fr := true) s1 sr S1 r1 e2 hp post
/-! ### numbers, truth -/
theorem e_neg {e : Expr} {a : E} {pos : Pos} {fr : Bool} (h : PE X e (tX false X.K C a)) : PE X (.UnaryOp .USub e pos) (tX fr X.K C (.neg a)) := by
  refine ⟨fun pins s σ H Q I q => ?_⟩
  obtain ⟨ρ, A, env, st, d, st', er, sr, ev, post⟩ := q
  simp only [evE] at ev
  obtain ⟨⟨x, st1⟩, e1, ev⟩ := R.bind_eq ev
  obtain ⟨i, e2, ev⟩ := R.bind_eq ev
  simp only [R.ok.injEq, Prod.mk.injEq] at ev
  obtain ⟨rfl, rfl⟩ := ev
  have := toInt_eq (R.of_eq e2)
  subst this
  refine (pe_un un_neg h).run pins s σ H Q I (one_tX er sr e1 fun v H1 ρ1 A1 s1 S1 r1 => ⟨i, r1.int_eq, post _ _ ρ1 A1 s1 S1 .int⟩)
theorem e_not {e : Expr} {a : E} {pos : Pos} {fr : Bool} (h : PE X e (tX false X.K C a)) : PE X (.UnaryOp .Not e pos) (tX fr X.K C (.not a)) := by
  refine ⟨fun pins s σ H Q I q => ?_⟩
  obtain ⟨ρ, A, env, st, d, st', er, sr, ev, post⟩ := q
  simp only [evE] at ev
  obtain ⟨⟨x, st1⟩, e1, ev⟩ := R.bind_eq ev
  obtain ⟨i, e2, ev⟩ := R.bind_eq ev
  simp only [R.ok.injEq, Prod.mk.injEq] at ev
  obtain ⟨rfl, rfl⟩ := ev
  refine (pe_notT h).run pins s σ H Q I (one_tX er sr e1 fun v H1 ρ1 A1 s1 S1 r1 => ⟨i, truth_at S1 r1 (R.of_eq e2), post _ _ ρ1 A1 s1 S1 .bl⟩)
theorem e_isN {e : Expr} {a : E} {b : Bool} {n : Nat} {p pos : Pos} {fr : Bool} (h : PE X e (tX false X.K C a)) : PE X (.Compare e [if b then .IsNot else .Is] [.Constant .none n p] pos) (tX fr X.K C (.isN b a)) := by
  refine ⟨fun pins s σ H Q I q => ?_⟩
  obtain ⟨ρ, A, env, st, d, st', er, sr, ev, post⟩ := q
  simp only [evE] at ev
  obtain ⟨⟨x, st1⟩, e1, ev⟩ := R.bind_eq ev
  simp only [R.ok.injEq, Prod.mk.injEq] at ev
  obtain ⟨rfl, rfl⟩ := ev
  have key : ∀ {ρ1 : List Addr} {A1 : AS} {H1 : Hp} {v : V}, RD X.K ρ1 A1 H1 v x → decide (v = V.non) = isNone x := fun {ρ1 A1 H1 v} r => by
    cases r with
    | v r => cases r <;> simp [isNone]
    | ref _ => simp [isNone]
    | scr _ => simp [isNone]
  cases b with
  | true =>
    refine (pe_cmp (pc_notN h) (by rfl)).run pins s σ H Q I (one_tX er sr e1 fun v H1 ρ1 A1 s1 S1 r1 => ?_)
    rw [key r1]; exact post _ _ ρ1 A1 s1 S1 .bl
  | false =>
    refine (pe_cmp (pc_isN h) (by rfl)).run pins s σ H Q I (one_tX er sr e1 fun v H1 ρ1 A1 s1 S1 r1 => ?_)
    rw [key r1]; exact post _ _ ρ1 A1 s1 S1 .bl
theorem behind_of {op : CmpOp} {b : Expr} (h : notSet b = true) : behindInMarks op b = false := by
  cases b <;> first | rfl | (simp [notSet] at h)
end
end Vi
set_option Elab.async false
set_option linter.all false
set_option maxRecDepth 100000
set_option maxHeartbeats 4000000
set_option autoImplicit false
/-! Vda: dicts of the store. -/
namespace Vi
open PySem L2 PySem.Spec PyProof.Rows
theorem toKey_eq {p : PyData} {k : L2.Key} (h : toKey p = some k) : p = keyP k := by
  cases p <;> simp [toKey] at h <;> subst h <;> rfl
theorem toKs_eq : ∀ {xs : List PyData} {ks : List L2.Key}, toKs xs = some ks → xs = ks.map keyP
  | [], ks, h => by simp only [toKs, Option.some.injEq] at h; subst h; rfl
  | p :: xs, ks, h => by
    simp only [toKs, Option.bind_eq_some_iff, Option.map_eq_some_iff] at h
    obtain ⟨k, hk, ks', hks, rfl⟩ := h
    rw [toKey_eq hk, toKs_eq hks]
    rfl
theorem toKeys_eq {p : PyData} {k : List L2.Key} (h : toKeys p = some k) : p = keyT k := by
  cases p <;> simp only [toKeys] at h <;> first | cases h | skip
  rw [toKs_eq h]
  rfl
section
variable {A : AS} {H : Hp}
theorem RP.key {v : V} {k : L2.Key} (r : RP A H v (keyP k)) : v = kV k := by
  cases k with
  | inl i => cases r; rfl
  | inr s => cases r; rfl
theorem RPs.keys : ∀ {ks : List L2.Key} {vs : List V}, RPs A H vs (ks.map keyP) → vs = ks.map kV
  | [], _, .nil => rfl
  | k :: ks, _, .cons r t => by
    rw [r.key, RPs.keys t]
    rfl
theorem RP.keyT {v : V} {k : List L2.Key} (r : RP A H v (keyT k)) : ∃ b, v = .ref b ∧ H b = some (.tup (k.map kV)) := by
  cases r with
  | tup h rs =>
    rw [rs.keys] at h
    exact ⟨_, rfl, h⟩
end
section
variable {κ : Type} [DecidableEq κ] {K : PySem.W.Frag} {ρ : List Addr} {A : AS} {H : Hp}
theorem kvg_get {k : κ} : ∀ {kvs : List (κ × V)} {kds : List (κ × D)}, KVg κ K ρ A H kvs kds → (∀ d, kget kds k = some d → ∃ v, valV kvs k = some v ∧ RD K ρ A H v d) ∧ (kget kds k = none → valV kvs k = none)
  | _, _, .nil => ⟨fun d h => by simp [kget] at h, fun _ => rfl⟩
  | _, _, .cons (k := k') (v := v') (d := d') (kvs := kvs) (kds := kds) r t => by
    obtain ⟨h1, h2⟩ := kvg_get (k := k) t
    by_cases e : k' = k
    · subst e
      have e1 : kget ((k', d') :: kds) k' = some d' := by simp [kget, List.find?_cons]
      rw [e1]
      exact ⟨fun d h => by cases h; exact ⟨v', valV_pos rfl, r⟩, fun h => by cases h⟩
    · have e1 : kget ((k', d') :: kds) k = kget kds k := by simp [kget, List.find?_cons, e]
      have e2 : valV ((k', v') :: kvs) k = valV kvs k := valV_neg e
      rw [e1, e2]
      exact ⟨h1, h2⟩
theorem kvg_some {k : κ} {kvs : List (κ × V)} {kds : List (κ × D)} (r : KVg κ K ρ A H kvs kds) : (valV kvs k).isSome = (kget kds k).isSome := by
  obtain ⟨h1, h2⟩ := kvg_get (k := k) r
  cases e : kget kds k with
  | none => rw [h2 e]; rfl
  | some d =>
    obtain ⟨v, q, _⟩ := h1 d e
    rw [q]; rfl
theorem kvg_length {kvs : List (κ × V)} {kds : List (κ × D)} (h : KVg κ K ρ A H kvs kds) : kvs.length = kds.length := by
  induction h with
  | nil => rfl
  | cons _ _ ih => simp [ih]
theorem kvg_keys {kvs : List (κ × V)} {kds : List (κ × D)} (h : KVg κ K ρ A H kvs kds) : kvs.map (·.1) = kds.map (·.1) := by
  induction h with
  | nil => rfl
  | cons _ _ ih => simp [ih]
theorem kvg_put {v : V} {d : D} {k : κ} (r : RD K ρ A H v d) {kvs : List (κ × V)} {kds : List (κ × D)} (h : KVg κ K ρ A H kvs kds) : KVg κ K ρ A H (putK kvs k v) (kput kds k d) := by
  have ap : ∀ {kvs : List (κ × V)} {kds : List (κ × D)}, KVg κ K ρ A H kvs kds → KVg κ K ρ A H (kvs ++ [(k, v)]) (kds ++ [(k, d)]) := by
    intro kvs kds h
    induction h with
    | nil => exact .cons r .nil
    | cons r' _ ih => exact .cons r' ih
  have mp : ∀ {kvs : List (κ × V)} {kds : List (κ × D)}, KVg κ K ρ A H kvs kds → KVg κ K ρ A H (kvs.map fun kv => if kv.1 = k then (kv.1, v) else kv) (kds.map fun kv => if kv.1 = k then (kv.1, d) else kv) := by
    intro kvs kds h
    induction h with
    | nil => exact .nil
    | cons r' _ ih =>
      rename_i k' _ _ _ _ _
      rw [List.map_cons, List.map_cons]
      by_cases e : k' = k
      · subst e
        rw [if_pos rfl, if_pos rfl]; exact .cons r ih
      · rw [if_neg (show ¬ k' = k from e), if_neg (show ¬ k' = k from e)]; exact .cons r' ih
  unfold putK kput
  rw [valV_any, kvg_some h]
  by_cases e : (kget kds k).isSome = true
  · rw [if_pos e, if_pos e]; exact mp h
  · rw [if_neg e, if_neg e]; exact ap h
end
/-- reading a dict -/
theorem dAt_get {K : PySem.W.Frag} {ρ : List Addr} {A : AS} {H : Hp} {st : Sto} {v w : V} {x y : D} {r : Option D} (S : SR K ρ A st H) (rv : RD K ρ A H v x) (rw' : RD K ρ A H w y) (h : dAt st x y = some r) :
    ∃ a o, v = .ref a ∧ DGet H a w o ∧ o.isSome = r.isSome ∧ ∀ d, r = some d → ∃ u, o = some u ∧ RD K ρ A H u d := by
  unfold dAt objOf at h
  split at h
  · rename_i n
    cases hs : st[n]? with
    | none => rw [hs] at h; cases h
    | some ob =>
      rw [hs] at h
      simp only [Option.bind_some] at h
      obtain ⟨a, u, rfl, _, _, hh, ro⟩ := ref_at S rv hs
      unfold dGet at h
      split at h
      · simp only [Option.map_eq_some_iff] at h
        obtain ⟨k, hk, rfl⟩ := h
        have ep := toKey_eq hk
        subst ep
        cases rw' with
        | v rp =>
          cases rp.key
          cases ro with
          | dk rk => exact ⟨a, _, rfl, .inl ⟨_, k, .inl hh, rfl, rfl⟩, kvg_some rk, fun d hd => (kvg_get rk).1 d hd⟩
          | dkl rk => exact ⟨a, _, rfl, .inl ⟨_, k, .inr ⟨_, hh⟩, rfl, rfl⟩, kvg_some rk, fun d hd => (kvg_get rk).1 d hd⟩
      · simp only [Option.map_eq_some_iff] at h
        obtain ⟨k, hk, rfl⟩ := h
        have ep := toKeys_eq hk
        subst ep
        cases rw' with
        | v rp =>
          obtain ⟨b, rfl, hb⟩ := rp.keyT
          cases ro with
          | dt rk => exact ⟨a, _, rfl, .inr ⟨_, k, b, .inl hh, rfl, hb, rfl⟩, kvg_some rk, fun d hd => (kvg_get rk).1 d hd⟩
          | dtl rk => exact ⟨a, _, rfl, .inr ⟨_, k, b, .inr ⟨_, hh⟩, rfl, hb, rfl⟩, kvg_some rk, fun d hd => (kvg_get rk).1 d hd⟩
      · cases h
  · cases h
/-- writing one -/
theorem dPut_put {K : PySem.W.Frag} {ρ : List Addr} {A : AS} {H : Hp} {st : Sto} {n : Nat} {v w z : V} {y d : D} {ob ob' : O} (S : SR K ρ A st H) (rv : RD K ρ A H v (.ref n)) (rw' : RD K ρ A H w y) (rz : RD K ρ A H z d) (hs : st[n]? = some ob) (h : dPut ob y d = some ob') :
    ∃ a u, v = .ref a ∧ ρ[n]? = some a ∧ DPut H a w z (upd H a u) ∧ (∀ t, H a = some t → ¬ Still t) ∧ (∀ H', Kp A H H' → RO K ρ A H' u ob') := by
  obtain ⟨a, u, rfl, h1, _, hh, ro⟩ := ref_at S rv hs
  unfold dPut at h
  split at h
  · split at h
    · rename_i hl
      simp only [Option.map_eq_some_iff] at h
      obtain ⟨k, hk, rfl⟩ := h
      have ep := toKey_eq hk
      subst ep
      cases rw' with
      | v rp =>
        cases rp.key
        cases ro with
        | dk rk =>
          refine ⟨a, _, rfl, h1, .inl ⟨_, k, hh, rfl, by rw [kvg_length rk]; exact hl, rfl⟩, fun t ht => by rw [hh] at ht; cases ht; exact id, fun H' k' => .dk ?_⟩
          exact (kvg_put rz rk).mono3 (List.prefix_refl _) (fun _ h => h) k'
    · cases h
  · split at h
    · rename_i hl
      simp only [Option.map_eq_some_iff] at h
      obtain ⟨k, hk, rfl⟩ := h
      have ep := toKeys_eq hk
      subst ep
      cases rw' with
      | v rp =>
        obtain ⟨b, rfl, hb⟩ := rp.keyT
        cases ro with
        | dt rk =>
          refine ⟨a, _, rfl, h1, .inr ⟨_, k, b, hh, rfl, hb, by rw [kvg_length rk]; exact hl, rfl⟩, fun t ht => by rw [hh] at ht; cases ht; exact id, fun H' k' => .dt ?_⟩
          exact (kvg_put rz rk).mono3 (List.prefix_refl _) (fun _ h => h) k'
    · cases h
  · cases h
end Vi
set_option Elab.async false
set_option linter.all false
set_option maxRecDepth 100000
set_option maxHeartbeats 4000000
set_option autoImplicit false
/-! Vf: comparisons, operators, truth, subscripts. -/
namespace Vi
open PySem L2 PySem.Spec PyProof.Rows
section
variable {C : Cfg} {X : Cx} {c : CC}
/-! ### comparisons -/
def rInT (K : PySem.W.Frag) (neg : Bool) : R2 := fun x y H Q => ∃ d ds, Dp K H x d ∧ Dp K H y (.tuple ds) ∧ SeqAt.shaped d = true ∧ SeqAt.shaped (.tuple ds) = true ∧ Q (.bl (if neg then !ds.any fun z => PyData.eqv z d else ds.any fun z => PyData.eqv z d)) H
theorem op_inT (hu : X.A.units + 65 < cLine) : OpR X (compareOp .In) (rInT X.K false) := by
  intro pins s σ H x y v u Q I rx ry h
  obtain ⟨d, ds, hd, he, sd, se, q⟩ := h
  obtain ⟨as, r1⟩ := Dp.reads I d x v hd rx
  obtain ⟨bs, r2⟩ := Dp.reads I (.tuple ds) y u he ry
  exact SeqAt.in_tuple_reads r2 r1 (SeqAt.canLay_of_shaped se) (SeqAt.canLay_of_shaped sd) (room_in_shaped sd hu) ⟨.bl _, H, I, rfl, q⟩
theorem op_notInT (hu : X.A.units + 65 < cLine) : OpR X (compareOp .NotIn) (rInT X.K true) := by
  intro pins s σ H x y v u Q I rx ry h
  obtain ⟨d, ds, hd, he, sd, se, q⟩ := h
  obtain ⟨as, r1⟩ := Dp.reads I d x v hd rx
  obtain ⟨bs, r2⟩ := Dp.reads I (.tuple ds) y u he ry
  exact SeqAt.notIn_tuple_reads r2 r1 (SeqAt.canLay_of_shaped se) (SeqAt.canLay_of_shaped sd) (room_in_shaped sd hu) ⟨.bl _, H, I, rfl, q⟩
theorem seq_dp {K : PySem.W.Frag} {ρ : List Addr} {A : AS} {H : Hp} {st : Sto} {v : V} {d : D} {b : Bool} {ds : List D} {ps : List PyData} (S : SR K ρ A st H) (r : RD K ρ A H v d) (h : seqOf st d = some (b, ds)) (hp : plains ds = some ps) :
    Dp K H v (if b then .tuple ps else .list ps) := by
  obtain ⟨a, vs, rfl, hh, rs⟩ := seq_at S r h
  cases b with
  | true => exact .tup (TupF.sqT hh) (rs.plains hp).dp
  | false => exact .lst (SqL.of hh) (rs.plains hp).dp
theorem cmp_rule0 (O : Okx c C X) {op op' : CmpOp} (hop : cmB op op' = true) : ∃ r : R2, OpR X (compareOp op) r ∧ ∀ (ρ : List Addr) (A : AS) (H : Hp) (st : Sto) (x y : D) (k : Bool) (v w : V) (Q : VK), SR X.K ρ A st H → RD X.K ρ A H v x → RD X.K ρ A H w y → cmpop0 st op' x y = .ok k → Q (.bl k) H → r v w H Q := by
  have hu := O.un
  have intsR : ∀ {p : Int → Int → Bool} {op' : CmpOp}, (∀ i j k, cmpI op' i j = some k → k = p i j) → (∀ st x y k, cmpop0 st op' x y = .ok k → (match toInt x, toInt y with
      | some i, some j => R.of (cmpI op' i j)
      | _, _ => .no) = .ok k) → ∀ (ρ : List Addr) (A : AS) (H : Hp) (st : Sto) (x y : D) (k : Bool) (v w : V) (Q : VK), SR X.K ρ A st H → RD X.K ρ A H v x → RD X.K ρ A H w y → cmpop0 st op' x y = .ok k → Q (.bl k) H → rI0 (fun i j => .bl (p i j)) v w H Q := by
    intro p op' hp hc ρ A H st x y k v w Q S rx ry h q
    have h' := hc st x y k h
    cases hx : toInt x with
    | none => rw [hx] at h'; cases h'
    | some i =>
      cases hy : toInt y with
      | none => rw [hx, hy] at h'; cases h'
      | some j =>
        rw [hx, hy] at h'
        have e := hp i j k (R.of_eq h')
        cases toInt_eq hx
        cases toInt_eq hy
        subst e
        exact ⟨i, j, rx.int_eq, ry.int_eq, q⟩
  have data : ∀ {op' : CmpOp} {g : Bool → Bool}, (∀ st x y, cmpop0 st op' x y = match toP st x, toP st y with
    | some p, some q => if eqOk p q then .ok (g (PyData.eqv p q)) else .no
    | _, _ => .no) → ∀ (ρ : List Addr) (A : AS) (H : Hp) (st : Sto) (x y : D) (k : Bool) (v w : V) (Q : VK), SR X.K ρ A st H → RD X.K ρ A H v x → RD X.K ρ A H w y → cmpop0 st op' x y = .ok k → Q (.bl k) H →
      ∃ d e, Dp X.K H v d ∧ Dp X.K H w e ∧ SeqAt.shaped d = true ∧ SeqAt.shaped e = true ∧ Q (.bl (g (PyData.eqv d e))) H := by
    intro op' g hc ρ A H st x y k v w Q S rx ry h q
    rw [hc] at h
    cases hx : toP st x with
    | none => rw [hx] at h; cases h
    | some p =>
      cases hy : toP st y with
      | none => rw [hx, hy] at h; cases h
      | some p' =>
        rw [hx, hy] at h
        simp only at h
        split at h
        · rename_i ok
          obtain ⟨o1, o2⟩ := and2 ok
          cases h
          exact ⟨p, p', toP_dp S rx hx, toP_dp S ry hy, o1, o2, q⟩
        · cases h
  have ins : ∀ {op' : CmpOp} {g : Bool → Bool}, (∀ st x y, cmpop0 st op' x y = match toP st x, seqOf st y with
    | some p, some (_, ds) => match plains ds with
      | some qs => if SeqAt.shaped p && SeqAt.shaped (.list qs) && SeqAt.shaped (.tuple qs) then .ok (g (qs.any fun z => PyData.eqv z p)) else .no
      | none => .no
    | _, _ => .no) → ∀ (ρ : List Addr) (A : AS) (H : Hp) (st : Sto) (x y : D) (k : Bool) (v w : V) (Q : VK), SR X.K ρ A st H → RD X.K ρ A H v x → RD X.K ρ A H w y → cmpop0 st op' x y = .ok k → Q (.bl k) H →
      ∃ d ds, Dp X.K H v d ∧ (Dp X.K H w (.tuple ds) ∨ Dp X.K H w (.list ds)) ∧ SeqAt.shaped d = true ∧ SeqAt.shaped (.tuple ds) = true ∧ SeqAt.shaped (.list ds) = true ∧ Q (.bl (g (ds.any fun z => PyData.eqv z d))) H := by
    intro op' g hc ρ A H st x y k v w Q S rx ry h q
    rw [hc] at h
    cases hx : toP st x with
    | none => rw [hx] at h; cases h
    | some p =>
      cases hy : seqOf st y with
      | none => rw [hx, hy] at h; cases h
      | some bd =>
        obtain ⟨b, ds⟩ := bd
        rw [hx, hy] at h
        simp only at h
        cases hp : plains ds with
        | none => rw [hp] at h; cases h
        | some qs =>
          rw [hp] at h
          simp only at h
          split at h
          · rename_i ok
            obtain ⟨ok, o3⟩ := and2 ok
            obtain ⟨o1, o2⟩ := and2 ok
            cases h
            have z := seq_dp S ry hy hp
            refine ⟨p, qs, toP_dp S rx hx, ?_, o1, o3, o2, q⟩
            cases b with
            | true => exact .inl z
            | false => exact .inr z
          · cases h
  cases op <;> cases op' <;> first | (exfalso; simp [cmB] at hop; done) | skip
  · exact ⟨_, op_eqD (by omega), data (g := id) (fun _ _ _ => rfl)⟩
  · exact ⟨_, op_neD (by omega), data (g := fun b => !b) (fun _ _ _ => rfl)⟩
  · exact ⟨_, op_lt, intsR (fun i j k h => by simp only [cmpI, Option.some.injEq] at h; exact h.symm) fun _ _ _ _ h => h⟩
  · exact ⟨_, op_le, intsR (fun i j k h => by simp only [cmpI, Option.some.injEq] at h; exact h.symm) fun _ _ _ _ h => h⟩
  · exact ⟨_, op_gt, intsR (fun i j k h => by simp only [cmpI, Option.some.injEq] at h; exact h.symm) fun _ _ _ _ h => h⟩
  · exact ⟨_, op_ge, intsR (fun i j k h => by simp only [cmpI, Option.some.injEq] at h; exact h.symm) fun _ _ _ _ h => h⟩
  · refine ⟨_, (op_inT (by omega)).or (op_inD (by omega)), fun ρ A H st x y k v w Q S rx ry h q => ?_⟩
    obtain ⟨d, ds, h1, h2, h3, h4, h5, h6⟩ := ins (g := id) (fun _ _ _ => rfl) ρ A H st x y k v w Q S rx ry h q
    rcases h2 with h2 | h2
    · exact .inl ⟨d, ds, h1, h2, h3, h4, h6⟩
    · exact .inr ⟨d, ds, h1, h2, h3, h5, h6⟩
  · refine ⟨_, (op_notInT (by omega)).or (op_notInD (by omega)), fun ρ A H st x y k v w Q S rx ry h q => ?_⟩
    obtain ⟨d, ds, h1, h2, h3, h4, h5, h6⟩ := ins (g := fun b => !b) (fun _ _ _ => rfl) ρ A H st x y k v w Q S rx ry h q
    rcases h2 with h2 | h2
    · exact .inl ⟨d, ds, h1, h2, h3, h4, h6⟩
    · exact .inr ⟨d, ds, h1, h2, h3, h5, h6⟩
def rDIn : R2 := fun x y H Q => ∃ a o, y = .ref a ∧ DGet H a x o ∧ Q (.bl o.isSome) H
def rDNotIn : R2 := fun x y H Q => ∃ a o, y = .ref a ∧ DGet H a x o ∧ Q (.bl (!o.isSome)) H
theorem op_dIn (hu : X.A.units + 1 < cLine) : OpR X (compareOp .In) rDIn := by
  intro pins s σ H x y v u Q I rx ry h
  obtain ⟨a, o, rfl, g, q⟩ := h
  cases ry
  exact d_in hu I g rx fun s' I' => ⟨.bl _, H, I', rfl, q⟩
theorem op_dNotIn (hu : X.A.units + 1 < cLine) : OpR X (compareOp .NotIn) rDNotIn := by
  intro pins s σ H x y v u Q I rx ry h
  obtain ⟨a, o, rfl, g, q⟩ := h
  cases ry
  exact d_notIn hu I g rx fun s' I' => ⟨.bl _, H, I', rfl, q⟩
theorem sPair_eq {x y : D} {s t : Str} (h : sPair x y = some (s, t)) : x = .v (.str s) ∧ y = .v (.str t) := by
  unfold sPair at h
  split at h
  · cases h; exact ⟨rfl, rfl⟩
  · cases h
theorem cmp_rule (O : Okx c C X) {op op' : CmpOp} (hop : cmB op op' = true) : ∃ r : R2, OpR X (compareOp op) r ∧ ∀ (ρ : List Addr) (A : AS) (H : Hp) (st : Sto) (x y : D) (k : Bool) (v w : V) (Q : VK), SR X.K ρ A st H → RD X.K ρ A H v x → RD X.K ρ A H w y → cmpop st op' x y = .ok k → Q (.bl k) H → r v w H Q := by
  obtain ⟨r, h1, h2⟩ := cmp_rule0 O hop
  by_cases he : op' = .Eq
  · subst he
    have e : op = .Eq := by cases op <;> first | rfl | (exfalso; simp [cmB] at hop; done)
    subst e
    refine ⟨_, op_eq.or h1, fun ρ A H st x y k v w Q S rx ry h q => ?_⟩
    cases hs : sPair x y with
    | none =>
      simp only [cmpop, hs] at h
      exact .inr (h2 ρ A H st x y k v w Q S rx ry h q)
    | some p =>
      obtain ⟨s, t⟩ := p
      simp only [cmpop, hs] at h
      cases h
      obtain ⟨rfl, rfl⟩ := sPair_eq hs
      cases rx.str_eq
      cases ry.str_eq
      refine .inl ⟨rfl, ?_⟩
      simpa using q
  by_cases hn : op' = .NotEq
  · subst hn
    have e : op = .NotEq := by cases op <;> first | rfl | (exfalso; simp [cmB] at hop; done)
    subst e
    refine ⟨_, op_ne.or h1, fun ρ A H st x y k v w Q S rx ry h q => ?_⟩
    cases hs : sPair x y with
    | none =>
      simp only [cmpop, hs] at h
      exact .inr (h2 ρ A H st x y k v w Q S rx ry h q)
    | some p =>
      obtain ⟨s, t⟩ := p
      simp only [cmpop, hs] at h
      cases h
      obtain ⟨rfl, rfl⟩ := sPair_eq hs
      cases rx.str_eq
      cases ry.str_eq
      refine .inl ⟨rfl, ?_⟩
      simpa using q
  by_cases hI : op' = .In
  · subst hI
    have e : op = .In := by cases op <;> first | rfl | (exfalso; simp [cmB] at hop; done)
    subst e
    refine ⟨_, (op_dIn (by have := O.un; omega)).or h1, fun ρ A H st x y k v w Q S rx ry h q => ?_⟩
    cases hs : sPair x y with
    | none =>
      simp only [cmpop, hs] at h
      cases hd : dAt st y x with
      | none =>
        rw [hd] at h
        exact .inr (h2 ρ A H st x y k v w Q S rx ry h q)
      | some r0 =>
        rw [hd] at h
        cases h
        obtain ⟨a, o, rfl, g, e1, _⟩ := dAt_get S ry rx hd
        exact .inl ⟨a, o, rfl, g, by rw [e1]; exact q⟩
    | some p =>
      obtain ⟨s, t⟩ := p
      simp only [cmpop, hs] at h
      cases h
  by_cases hN : op' = .NotIn
  · subst hN
    have e : op = .NotIn := by cases op <;> first | rfl | (exfalso; simp [cmB] at hop; done)
    subst e
    refine ⟨_, (op_dNotIn (by have := O.un; omega)).or h1, fun ρ A H st x y k v w Q S rx ry h q => ?_⟩
    cases hs : sPair x y with
    | none =>
      simp only [cmpop, hs] at h
      cases hd : dAt st y x with
      | none =>
        rw [hd] at h
        exact .inr (h2 ρ A H st x y k v w Q S rx ry h q)
      | some r0 =>
        rw [hd] at h
        cases h
        obtain ⟨a, o, rfl, g, e1, _⟩ := dAt_get S ry rx hd
        exact .inl ⟨a, o, rfl, g, by rw [e1]; exact q⟩
    | some p =>
      obtain ⟨s, t⟩ := p
      simp only [cmpop, hs] at h
      cases h
  refine ⟨r, h1, fun ρ A H st x y k v w Q S rx ry h q => ?_⟩
  cases hs : sPair x y with
  | none =>
    unfold cmpop at h
    rw [hs] at h
    cases op' <;> first | exact absurd rfl he | exact absurd rfl hn | exact absurd rfl hI | exact absurd rfl hN | exact h2 ρ A H st x y k v w Q S rx ry h q
  | some p =>
    obtain ⟨s, t⟩ := p
    unfold cmpop at h
    rw [hs] at h
    cases op' <;> first | exact absurd rfl he | exact absurd rfl hn | cases h
theorem e_cmp (O : Okx c C X) {op op' : CmpOp} {e f : Expr} {a b : E} {pos : Pos} {fr : Bool} (hop : cmB op op' = true) (hn : notSet f = true) (h1 : PE X e (tX false X.K C a)) (h2 : PE X f (tX false X.K C b)) : PE X (.Compare e [op] [f] pos) (tX fr X.K C (.cmp op' a b)) := by
  obtain ⟨r, ho, hr⟩ := cmp_rule O hop
  refine ⟨fun pins s σ H Q I q => ?_⟩
  obtain ⟨ρ, A, env, st, d, st', er, sr, ev, post⟩ := q
  simp only [evE] at ev
  obtain ⟨⟨x, st1⟩, e1, ev⟩ := R.bind_eq ev
  obtain ⟨⟨y, st2⟩, e2, ev⟩ := R.bind_eq ev
  obtain ⟨k, e3, ev⟩ := R.bind_eq ev
  simp only [R.ok.injEq, Prod.mk.injEq] at ev
  obtain ⟨rfl, rfl⟩ := ev
  exact (pe_cmpR ho h1 h2 (behind_of hn)).run pins s σ H Q I (two_tX er sr e1 e2 fun v w H2 ρ2 A2 s2 S2 rv rw' => hr ρ2 A2 H2 st2 x y k v w Q S2 rv rw' e3 (post _ _ ρ2 A2 s2 S2 .bl))
theorem t_cmp (O : Okx c C X) {op op' : CmpOp} {e f : Expr} {a b : E} {pos : Pos} (hop : cmB op op' = true) (hn : notSet f = true) (h1 : PE X e (tX false X.K C a)) (h2 : PE X f (tX false X.K C b)) : PT X (.Compare e [op] [f] pos) (tXT X.K C (.cmp op' a b)) := by
  obtain ⟨r, ho, hr⟩ := cmp_rule O hop
  refine ⟨fun pins s σ H Q I q => ?_⟩
  obtain ⟨ρ, A, env, st, d, st', er, sr, ev, post⟩ := q
  simp only [evT, evE] at ev
  obtain ⟨⟨x, st1⟩, e1, ev⟩ := R.bind_eq ev
  obtain ⟨⟨x', st1'⟩, e0, e1⟩ := R.bind_eq e1
  obtain ⟨⟨y, st2⟩, e2, e1⟩ := R.bind_eq e1
  obtain ⟨k, e3, e1⟩ := R.bind_eq e1
  simp only [R.ok.injEq, Prod.mk.injEq] at e1
  obtain ⟨rfl, rfl⟩ := e1
  simp only [truthOf, R.of_some, R.bind_ok, R.ok.injEq, Prod.mk.injEq] at ev
  obtain ⟨rfl, rfl⟩ := ev
  exact (pt_cmpR ho h1 h2 (behind_of hn)).run pins s σ H Q I (two_tX er sr e0 e2 fun v w H2 ρ2 A2 s2 S2 rv rw' => hr ρ2 A2 H2 st2 x' y k v w _ S2 rv rw' e3 ⟨k, rfl, post _ ρ2 A2 s2 S2⟩)
theorem last_of {op op' : CmpOp} {f g : Expr} (h1 : notSet f = true) (h2 : notSet g = true) : lastMarks [op, op'] [f, g] = false := by
  show behindInMarks op' g = false
  exact behind_of h2
theorem e_chain (O : Okx c C X) {op op' oq oq' : CmpOp} {e f g : Expr} {a b d : E} {pos : Pos} {fr : Bool} (hop : cmB op op' = true) (hoq : cmB oq oq' = true) (hn : notSet f = true) (hn2 : notSet g = true) (h1 : PE X e (tX false X.K C a)) (h2 : PE X f (tX false X.K C b)) (h3 : PE X g (tX false X.K C d)) :
    PE X (.Compare e [op, oq] [f, g] pos) (tX fr X.K C (.chain op' oq' a b d)) := by
  obtain ⟨r, ho, hr⟩ := cmp_rule O hop
  obtain ⟨r2, ho2, hr2⟩ := cmp_rule O hoq
  refine ⟨fun pins s σ H Q I q => ?_⟩
  obtain ⟨ρ, A, env, st, d', st', er, sr, ev, post⟩ := q
  simp only [evE] at ev
  obtain ⟨⟨x, st1⟩, e1, ev⟩ := R.bind_eq ev
  obtain ⟨⟨y, st2⟩, e2, ev⟩ := R.bind_eq ev
  obtain ⟨k, e3, ev⟩ := R.bind_eq ev
  refine (pe_chain ho ho2 h1 h2 h3 (last_of hn hn2)).run pins s σ H Q I (two_tX er sr e1 e2 fun v w H2 ρ2 A2 s2 S2 rv rw' => hr ρ2 A2 H2 st2 x y k v w _ S2 rv rw' e3 ⟨k, rfl, ?_⟩)
  cases k with
  | false =>
    simp only [Bool.false_eq_true, if_false, R.ok.injEq, Prod.mk.injEq] at ev ⊢
    obtain ⟨rfl, rfl⟩ := ev
    exact post _ _ ρ2 A2 s2 S2 .bl
  | true =>
    simp only [if_true] at ev ⊢
    obtain ⟨⟨z, st3⟩, e4, ev⟩ := R.bind_eq ev
    obtain ⟨k2, e5, ev⟩ := R.bind_eq ev
    simp only [R.ok.injEq, Prod.mk.injEq] at ev
    obtain ⟨rfl, rfl⟩ := ev
    refine one_tX (er.mono s2) S2 e4 fun u H3 ρ3 A3 s3 S3 ru => ?_
    exact hr2 ρ3 A3 H3 st3 y z k2 w u Q S3 (rw'.mono s3) ru e5 (post _ _ ρ3 A3 (s2.trans s3) S3 .bl)
theorem t_chain (O : Okx c C X) {op op' oq oq' : CmpOp} {e f g : Expr} {a b d : E} {pos : Pos} (hop : cmB op op' = true) (hoq : cmB oq oq' = true) (hn : notSet f = true) (hn2 : notSet g = true) (h1 : PE X e (tX false X.K C a)) (h2 : PE X f (tX false X.K C b)) (h3 : PE X g (tX false X.K C d)) :
    PT X (.Compare e [op, oq] [f, g] pos) (tXT X.K C (.chain op' oq' a b d)) := by
  obtain ⟨r, ho, hr⟩ := cmp_rule O hop
  obtain ⟨r2, ho2, hr2⟩ := cmp_rule O hoq
  refine ⟨fun pins s σ H Q I q => ?_⟩
  obtain ⟨ρ, A, env, st, d', st', er, sr, ev, post⟩ := q
  simp only [evT, evE] at ev
  obtain ⟨⟨x0, st0⟩, e0, ev⟩ := R.bind_eq ev
  obtain ⟨⟨x, st1⟩, e1, e0⟩ := R.bind_eq e0
  obtain ⟨⟨y, st2⟩, e2, e0⟩ := R.bind_eq e0
  obtain ⟨k, e3, e0⟩ := R.bind_eq e0
  refine (pt_chain ho ho2 h1 h2 h3 (last_of hn hn2)).run pins s σ H Q I (two_tX er sr e1 e2 fun v w H2 ρ2 A2 s2 S2 rv rw' => hr ρ2 A2 H2 st2 x y k v w _ S2 rv rw' e3 ⟨k, rfl, ?_⟩)
  cases k with
  | false =>
    simp only [Bool.false_eq_true, if_false, R.ok.injEq, Prod.mk.injEq] at e0 ⊢
    obtain ⟨rfl, rfl⟩ := e0
    simp only [truthOf, R.of_some, R.bind_ok, R.ok.injEq, Prod.mk.injEq] at ev
    obtain ⟨rfl, rfl⟩ := ev
    exact ⟨false, rfl, post _ ρ2 A2 s2 S2⟩
  | true =>
    simp only [if_true] at e0 ⊢
    obtain ⟨⟨z, st3⟩, e4, e0⟩ := R.bind_eq e0
    obtain ⟨k2, e5, e0⟩ := R.bind_eq e0
    simp only [R.ok.injEq, Prod.mk.injEq] at e0
    obtain ⟨rfl, rfl⟩ := e0
    simp only [truthOf, R.of_some, R.bind_ok, R.ok.injEq, Prod.mk.injEq] at ev
    obtain ⟨rfl, rfl⟩ := ev
    refine one_tX (er.mono s2) S2 e4 fun u H3 ρ3 A3 s3 S3 ru => ?_
    exact hr2 ρ3 A3 H3 st3 y z k2 w u _ S3 (rw'.mono s3) ru e5 ⟨k2, rfl, post _ ρ3 A3 (s2.trans s3) S3⟩
/-! ### truth -/
theorem t_any {e : Expr} {a : E} (h : PE X e (tX false X.K C a)) (he : ∀ whole, isTrue e X.env whole = (do let v ← whole; standAt e.pos; holding [v] (truthy v))) : PT X e (tXT X.K C a) := by
  refine ⟨fun pins s σ H Q I q => ?_⟩
  obtain ⟨ρ, A, env, st, b, st', er, sr, ev, post⟩ := q
  simp only [evT] at ev
  obtain ⟨⟨x, st1⟩, e1, ev⟩ := R.bind_eq ev
  obtain ⟨k, e2, ev⟩ := R.bind_eq ev
  simp only [R.ok.injEq, Prod.mk.injEq] at ev
  obtain ⟨rfl, rfl⟩ := ev
  exact (pt_truth h he).run pins s σ H Q I (one_tX er sr e1 fun v H1 ρ1 A1 s1 S1 r1 => ⟨k, truth_at S1 r1 (R.of_eq e2), post _ ρ1 A1 s1 S1⟩)
theorem t_not {e : Expr} {a : E} {pos : Pos} (h : PT X e (tXT X.K C a)) : PT X (.UnaryOp .Not e pos) (tXT X.K C (.not a)) := by
  refine ⟨fun pins s σ H Q I q => ?_⟩
  obtain ⟨ρ, A, env, st, b, st', er, sr, ev, post⟩ := q
  simp only [evT, evE] at ev
  obtain ⟨⟨x, st1⟩, e1, ev⟩ := R.bind_eq ev
  obtain ⟨⟨y, st2⟩, e2, e1⟩ := R.bind_eq e1
  obtain ⟨k, e3, e1⟩ := R.bind_eq e1
  simp only [R.ok.injEq, Prod.mk.injEq] at e1
  obtain ⟨rfl, rfl⟩ := e1
  simp only [truthOf, R.of_some, R.bind_ok, R.ok.injEq, Prod.mk.injEq] at ev
  obtain ⟨rfl, rfl⟩ := ev
  exact (pt_not h).run pins s σ H Q I ⟨ρ, A, env, st, k, st2, er, sr, by simp only [evT, e2, R.bind_ok, e3], post⟩
/-! ### and, or: as values, as tests -/
def tXAnd (K : PySem.W.Frag) (C : Cfg) (es : List E) : TE := fun σ H Q => ∃ (ρ : List Addr) (A : AS) (env : En) (st : Sto) (d : D) (st' : Sto), ER K ρ A H σ env ∧ SR K ρ A st H ∧ evAnd C es env st = .ok (d, st') ∧
  ∀ v H' ρ' A', Stp ρ A H ρ' A' H' → SR K ρ' A' st' H' → RD K ρ' A' H' v d → Q v H'
def tXOr (K : PySem.W.Frag) (C : Cfg) (es : List E) : TE := fun σ H Q => ∃ (ρ : List Addr) (A : AS) (env : En) (st : Sto) (d : D) (st' : Sto), ER K ρ A H σ env ∧ SR K ρ A st H ∧ evOr C es env st = .ok (d, st') ∧
  ∀ v H' ρ' A', Stp ρ A H ρ' A' H' → SR K ρ' A' st' H' → RD K ρ' A' H' v d → Q v H'
def tTAnd (K : PySem.W.Frag) (C : Cfg) (es : List E) : TT := fun σ H Q => ∃ (ρ : List Addr) (A : AS) (env : En) (st : Sto) (d : D) (b : Bool) (st' : Sto), ER K ρ A H σ env ∧ SR K ρ A st H ∧ evAnd C es env st = .ok (d, st') ∧ truthOf st' d = some b ∧
  ∀ H' ρ' A', Stp ρ A H ρ' A' H' → SR K ρ' A' st' H' → Q b H'
def tTOr (K : PySem.W.Frag) (C : Cfg) (es : List E) : TT := fun σ H Q => ∃ (ρ : List Addr) (A : AS) (env : En) (st : Sto) (d : D) (b : Bool) (st' : Sto), ER K ρ A H σ env ∧ SR K ρ A st H ∧ evOr C es env st = .ok (d, st') ∧ truthOf st' d = some b ∧
  ∀ H' ρ' A', Stp ρ A H ρ' A' H' → SR K ρ' A' st' H' → Q b H'
variable {e f : Expr} {es : List Expr} {a b : E} {as : List E} {pos : Pos}
theorem and_one (h : PE X e (tX false X.K C a)) : PE X (.BoolOp .And [e] pos) (tXAnd X.K C [a]) := by
  refine ⟨fun pins s σ H Q I q => ?_⟩
  obtain ⟨ρ, A, env, st, d, st', er, sr, ev, post⟩ := q
  simp only [evAnd] at ev
  exact (pe_one h).run pins s σ H Q I (one_tX er sr ev fun v H1 ρ1 A1 s1 S1 r1 => post v H1 ρ1 A1 s1 S1 r1)
theorem or_one (h : PE X e (tX false X.K C a)) : PE X (.BoolOp .Or [e] pos) (tXOr X.K C [a]) := by
  refine ⟨fun pins s σ H Q I q => ?_⟩
  obtain ⟨ρ, A, env, st, d, st', er, sr, ev, post⟩ := q
  simp only [evOr] at ev
  exact (pe_one h).run pins s σ H Q I (one_tX er sr ev fun v H1 ρ1 A1 s1 S1 r1 => post v H1 ρ1 A1 s1 S1 r1)
theorem and_cons (h : PE X e (tX false X.K C a)) (h2 : PE X (.BoolOp .And (f :: es) pos) (tXAnd X.K C (b :: as))) : PE X (.BoolOp .And (e :: f :: es) pos) (tXAnd X.K C (a :: b :: as)) := by
  refine ⟨fun pins s σ H Q I q => ?_⟩
  obtain ⟨ρ, A, env, st, d, st', er, sr, ev, post⟩ := q
  rw [evAnd] at ev
  obtain ⟨⟨x, st1⟩, e1, ev⟩ := R.bind_eq ev
  obtain ⟨k, e2, ev⟩ := R.bind_eq ev
  refine (pe_andT h h2).run pins s σ H Q I (one_tX er sr e1 fun v H1 ρ1 A1 s1 S1 r1 => ⟨k, truth_at S1 r1 (R.of_eq e2), ?_⟩)
  cases k with
  | true =>
    simp only [if_true] at ev ⊢
    exact ⟨ρ1, A1, env, st1, d, st', er.mono s1, S1, ev, fun v H2 ρ2 A2 s2 S2 r2 => post v H2 ρ2 A2 (s1.trans s2) S2 r2⟩
  | false =>
    simp only [Bool.false_eq_true, if_false, R.ok.injEq, Prod.mk.injEq] at ev ⊢
    obtain ⟨rfl, rfl⟩ := ev
    exact post v H1 ρ1 A1 s1 S1 r1
theorem or_cons (h : PE X e (tX false X.K C a)) (h2 : PE X (.BoolOp .Or (f :: es) pos) (tXOr X.K C (b :: as))) : PE X (.BoolOp .Or (e :: f :: es) pos) (tXOr X.K C (a :: b :: as)) := by
  refine ⟨fun pins s σ H Q I q => ?_⟩
  obtain ⟨ρ, A, env, st, d, st', er, sr, ev, post⟩ := q
  rw [evOr] at ev
  obtain ⟨⟨x, st1⟩, e1, ev⟩ := R.bind_eq ev
  obtain ⟨k, e2, ev⟩ := R.bind_eq ev
  refine (pe_orT h h2).run pins s σ H Q I (one_tX er sr e1 fun v H1 ρ1 A1 s1 S1 r1 => ⟨k, truth_at S1 r1 (R.of_eq e2), ?_⟩)
  cases k with
  | true =>
    simp only [if_true, R.ok.injEq, Prod.mk.injEq] at ev ⊢
    obtain ⟨rfl, rfl⟩ := ev
    exact post v H1 ρ1 A1 s1 S1 r1
  | false =>
    simp only [Bool.false_eq_true, if_false] at ev ⊢
    exact ⟨ρ1, A1, env, st1, d, st', er.mono s1, S1, ev, fun v H2 ρ2 A2 s2 S2 r2 => post v H2 ρ2 A2 (s1.trans s2) S2 r2⟩
theorem tand_one (h : PT X e (tXT X.K C a)) : PW X (.BoolOp .And [e] pos) (tTAnd X.K C [a]) := by
  refine ⟨fun whole pins s σ H Q I q => ?_⟩
  obtain ⟨ρ, A, env, st, d, b, st', er, sr, ev, et, post⟩ := q
  simp only [evAnd] at ev
  exact (pw_and1 h).run whole pins s σ H Q I ⟨ρ, A, env, st, b, st', er, sr, by simp only [evT, ev, R.bind_ok, et, R.of_some], post⟩
theorem tor_one (h : PT X e (tXT X.K C a)) : PW X (.BoolOp .Or [e] pos) (tTOr X.K C [a]) := by
  refine ⟨fun whole pins s σ H Q I q => ?_⟩
  obtain ⟨ρ, A, env, st, d, b, st', er, sr, ev, et, post⟩ := q
  simp only [evOr] at ev
  exact (pw_or1 h).run whole pins s σ H Q I ⟨ρ, A, env, st, b, st', er, sr, by simp only [evT, ev, R.bind_ok, et, R.of_some], post⟩
theorem tand_cons (h : PT X e (tXT X.K C a)) (h2 : PW X (.BoolOp .And (f :: es) pos) (tTAnd X.K C (b :: as))) : PW X (.BoolOp .And (e :: f :: es) pos) (tTAnd X.K C (a :: b :: as)) := by
  refine ⟨fun whole pins s σ H Q I q => ?_⟩
  obtain ⟨ρ, A, env, st, d, bb, st', er, sr, ev, et, post⟩ := q
  rw [evAnd] at ev
  obtain ⟨⟨x, st1⟩, e1, ev⟩ := R.bind_eq ev
  obtain ⟨k, e2, ev⟩ := R.bind_eq ev
  refine (pw_and h h2).run whole pins s σ H Q I ⟨ρ, A, env, st, k, st1, er, sr, by simp only [evT, e1, R.bind_ok, e2], fun H1 ρ1 A1 s1 S1 => ?_⟩
  cases k with
  | true =>
    simp only [if_true] at ev ⊢
    exact ⟨ρ1, A1, env, st1, d, bb, st', er.mono s1, S1, ev, et, fun H2 ρ2 A2 s2 S2 => post H2 ρ2 A2 (s1.trans s2) S2⟩
  | false =>
    simp only [Bool.false_eq_true, if_false, R.ok.injEq, Prod.mk.injEq] at ev ⊢
    obtain ⟨rfl, rfl⟩ := ev
    rw [R.of_eq e2] at et
    cases et
    exact post H1 ρ1 A1 s1 S1
theorem tor_cons (h : PT X e (tXT X.K C a)) (h2 : PW X (.BoolOp .Or (f :: es) pos) (tTOr X.K C (b :: as))) : PW X (.BoolOp .Or (e :: f :: es) pos) (tTOr X.K C (a :: b :: as)) := by
  refine ⟨fun whole pins s σ H Q I q => ?_⟩
  obtain ⟨ρ, A, env, st, d, bb, st', er, sr, ev, et, post⟩ := q
  rw [evOr] at ev
  obtain ⟨⟨x, st1⟩, e1, ev⟩ := R.bind_eq ev
  obtain ⟨k, e2, ev⟩ := R.bind_eq ev
  refine (pw_or h h2).run whole pins s σ H Q I ⟨ρ, A, env, st, k, st1, er, sr, by simp only [evT, e1, R.bind_ok, e2], fun H1 ρ1 A1 s1 S1 => ?_⟩
  cases k with
  | true =>
    simp only [if_true, R.ok.injEq, Prod.mk.injEq] at ev ⊢
    obtain ⟨rfl, rfl⟩ := ev
    rw [R.of_eq e2] at et
    cases et
    exact post H1 ρ1 A1 s1 S1
  | false =>
    simp only [Bool.false_eq_true, if_false] at ev ⊢
    exact ⟨ρ1, A1, env, st1, d, bb, st', er.mono s1, S1, ev, et, fun H2 ρ2 A2 s2 S2 => post H2 ρ2 A2 (s1.trans s2) S2⟩
/-! ### a if t else b -/
theorem e_ite {t : Expr} {t' : E} (ht : PT X t (tXT X.K C t')) (h1 : PE X e (tX false X.K C a)) (h2 : PE X f (tX false X.K C b)) : PE X (.IfExp t e f pos) (tX false X.K C (.ite t' a b)) := by
  refine ⟨fun pins s σ H Q I q => ?_⟩
  obtain ⟨ρ, A, env, st, d, st', er, sr, ev, post⟩ := q
  simp only [evE] at ev
  obtain ⟨⟨x, st1⟩, e1, ev⟩ := R.bind_eq ev
  obtain ⟨k, e2, ev⟩ := R.bind_eq ev
  refine (pe_ifExp ht h1 h2).run pins s σ H Q I ⟨ρ, A, env, st, k, st1, er, sr, by simp only [evT, e1, R.bind_ok, e2], fun H1 ρ1 A1 s1 S1 => ?_⟩
  cases k with
  | true =>
    simp only [if_true] at ev ⊢
    exact one_tX (er.mono s1) S1 ev fun v H2 ρ2 A2 s2 S2 r2 => post v H2 ρ2 A2 (s1.trans s2) S2 r2
  | false =>
    simp only [Bool.false_eq_true, if_false] at ev ⊢
    exact one_tX (er.mono s1) S1 ev fun v H2 ρ2 A2 s2 S2 r2 => post v H2 ρ2 A2 (s1.trans s2) S2 r2
theorem t_ite {t : Expr} {t' : E} (ht : PT X t (tXT X.K C t')) (h1 : PT X e (tXT X.K C a)) (h2 : PT X f (tXT X.K C b)) : PT X (.IfExp t e f pos) (tXT X.K C (.ite t' a b)) := by
  refine ⟨fun pins s σ H Q I q => ?_⟩
  obtain ⟨ρ, A, env, st, bb, st', er, sr, ev, post⟩ := q
  simp only [evT, evE] at ev
  obtain ⟨⟨y, st2⟩, e0, ev⟩ := R.bind_eq ev
  obtain ⟨⟨x, st1⟩, e1, e0⟩ := R.bind_eq e0
  obtain ⟨k, e2, e0⟩ := R.bind_eq e0
  refine isTrue_IfExp (thn (ht.run pins s σ H (fun c H1 => c = k ∧ ∃ ρ1 A1, Stp ρ A H ρ1 A1 H1 ∧ SR X.K ρ1 A1 st1 H1) I ⟨ρ, A, env, st, k, st1, er, sr, by simp only [evT, e1, R.bind_ok, e2], fun H1 ρ1 A1 s1 S1 => ⟨rfl, ρ1, A1, s1, S1⟩⟩) ?_)
  rintro c' s1' ⟨H1, I1, rfl, ρ1, A1, s1, S1⟩
  cases c' with
  | true =>
    simp only [if_true] at e0 ⊢
    exact h1.run pins s1' σ H1 Q I1 ⟨ρ1, A1, env, st1, bb, st', er.mono s1, S1, by simp only [evT, e0, R.bind_ok, ev], fun H2 ρ2 A2 s2 S2 => post H2 ρ2 A2 (s1.trans s2) S2⟩
  | false =>
    simp only [Bool.false_eq_true, if_false] at e0 ⊢
    exact h2.run pins s1' σ H1 Q I1 ⟨ρ1, A1, env, st1, bb, st', er.mono s1, S1, by simp only [evT, e0, R.bind_ok, ev], fun H2 ρ2 A2 s2 S2 => post H2 ρ2 A2 (s1.trans s2) S2⟩
end
end Vi
set_option Elab.async false
set_option linter.all false
set_option maxRecDepth 100000
set_option maxHeartbeats 4000000
set_option autoImplicit false
/-! Vg: operators, subscripts. -/
namespace Vi
open PySem L2 PySem.Spec PyProof.Rows
section
variable {C : Cfg} {X : Cx} {c : CC}
theorem PD.back {fr : Bool} {K : PySem.W.Frag} {ρ ρ2 ρ' : List Addr} {A A2 A' : AS} {H H2 H' : Hp} {st : Sto} {v : V} {d : D} (s : Stp ρ A H ρ2 A2 H2) (S2 : SR K ρ2 A2 st H2) (p : PD fr K H2 ρ' A' H' v d) : PD fr K H ρ' A' H' v d := by
  unfold PD at p ⊢
  split
  · rename_i hf
    rw [if_pos hf] at p
    unfold FD at p ⊢
    split
    · rename_i xs
      obtain ⟨a, vs, h1, h2, h3⟩ := p
      exact ⟨a, vs, h1, s.free (fun z => S2.notmem h2 (s.pre.subset z)) h2, h3⟩
    · rename_i hd
      split at p
      · exact absurd rfl (hd _)
      · exact p
  · rename_i hf
    rw [if_neg hf] at p
    exact p
theorem RPs.nil_iff {A : AS} {H : Hp} {vs : List V} {ps : List PyData} (r : RPs A H vs ps) : vs = [] ↔ ps = [] := by
  cases r with
  | nil => simp
  | cons _ _ => simp
theorem RPs.rep {A : AS} {H : Hp} {vs : List V} {ps : List PyData} (h : RPs A H vs ps) : ∀ k : Nat, RPs A H (List.replicate k vs).flatten (List.replicate k ps).flatten
  | 0 => .nil
  | k + 1 => by rw [List.replicate_succ, List.replicate_succ, List.flatten_cons, List.flatten_cons]; exact h.append (RPs.rep h k)
def BinEnd (K : PySem.W.Frag) (ρ : List Addr) (A : AS) (H : Hp) (st : Sto) (d : D) (Q : VK) : Prop := ∀ v' H' ρ' A', Stp ρ A H ρ' A' H' → SR K ρ' A' st H' → PD true K H ρ' A' H' v' d → Q v' H'
def BinR (K : PySem.W.Frag) (op : Operator) (r : R2) : Prop := ∀ (ρ : List Addr) (A : AS) (H : Hp) (st : Sto) (x y d : D) (v w : V) (Q : VK), SR K ρ A st H → RD K ρ A H v x → RD K ρ A H w y → binop st op x y = .ok d → BinEnd K ρ A H st d Q → r v w H Q
theorem BinEnd.here {K : PySem.W.Frag} {ρ : List Addr} {A : AS} {H : Hp} {st : Sto} {d : D} {Q : VK} {v : V} (b : BinEnd K ρ A H st d Q) (S : SR K ρ A st H) (r : RD K ρ A H v d) (h : ∀ xs, d ≠ .v (.list xs)) : Q v H := b v H ρ A .refl S (.of r h)
theorem binop_seq {st : Sto} {x y d : D} (h : (match seqOf st x, seqOf st y with
      | some (false, ds), some (false, es) => if small (ds.length + es.length) then mkLst (ds ++ es) else .no
      | _, _ => .no) = .ok d) : ∃ ds es, seqOf st x = some (false, ds) ∧ seqOf st y = some (false, es) ∧ ds.length + es.length ≤ sizeLine ∧ mkLst (ds ++ es) = .ok d := by
  split at h
  · rename_i ds es e1 e2
    split at h
    · rename_i hz; exact ⟨ds, es, e1, e2, small_eq hz, h⟩
    · cases h
  · cases h
theorem bin_add : ∃ r : R2, OpR X (binaryOp .Add) r ∧ BinR X.K .Add r := by
  refine ⟨_, op_add.or (op_add_str.or (op_catF.or op_cat)), fun ρ A H st x y d v w Q S rx ry h b => ?_⟩
  have lists : (match seqOf st x, seqOf st y with
      | some (false, ds), some (false, es) => if small (ds.length + es.length) then mkLst (ds ++ es) else .no
      | _, _ => .no) = .ok d → rCat v w H Q := fun h => by
    obtain ⟨ds, es, e1, e2, hz, hm⟩ := binop_seq h
    obtain ⟨a, vs, rfl, hh, rs⟩ := seq_at S rx e1
    obtain ⟨a2, vs2, rfl, hh2, rs2⟩ := seq_at S ry e2
    exact ⟨a, a2, vs, vs2, rfl, rfl, hh, hh2, by rw [rs.length, rs2.length]; exact hz, fun p hp => end_list (fr := true) .refl S S (rs.append rs2) hm hp b⟩
  unfold binop at h
  split at h
  · simp only [binI, R.ok.injEq] at h
    subst h
    exact .inl ⟨_, _, rx.int_eq, ry.int_eq, b.here S (.v (.int _)) (fun _ z => nomatch z)⟩
  · simp only at h
    split at h
    · rename_i hz
      cases h
      exact .inr (.inl ⟨_, _, rx.str_eq, ry.str_eq, small_eq hz, b.here S (.v (.str _)) (fun _ z => nomatch z)⟩)
    · cases h
  · simp only at h
    split at h
    · rename_i hz
      cases h
      obtain ⟨a, vs, rfl, h1, h2, h3⟩ := rx.tup_eq
      obtain ⟨a2, vs2, rfl, k1, k2, k3⟩ := ry.tup_eq
      refine .inr (.inr (.inl ⟨a, a2, vs, vs2, rfl, rfl, h2.sqT, k2.sqT, by rw [h3.length, k3.length]; exact small_eq hz, fun e => ?_, fun e e2 => ?_, fun e e2 => ?_⟩))
      · have := h3.nil_iff.mp e
        subst this
        exact b.here S ry (fun _ z => nomatch z)
      · have := k3.nil_iff.mp e2
        subst this
        rw [List.append_nil] at b
        exact b.here S rx (fun _ z => nomatch z)
      · exact end_tup .refl S (h3.append k3) b
    · cases h
  · cases h
  · cases h
  · exact .inr (.inr (.inr (lists h)))
theorem bin_sub : ∃ r : R2, OpR X (binaryOp .Sub) r ∧ BinR X.K .Sub r := by
  refine ⟨_, op_sub, fun ρ A H st x y d v w Q S rx ry h b => ?_⟩
  unfold binop at h
  split at h
  · simp only [binI, R.ok.injEq] at h
    subst h
    exact ⟨_, _, rx.int_eq, ry.int_eq, b.here S (.v (.int _)) (fun _ z => nomatch z)⟩
  all_goals cases h
theorem mulOk_eq {i j : Int} (h : mulOk i j = true) : CMul i j := by
  unfold mulOk at h
  rcases Bool.or_eq_true_iff.mp h with h | h
  · obtain ⟨h1, h2⟩ := and2 h; exact .inl ⟨of_decide_eq_true h1, of_decide_eq_true h2⟩
  · obtain ⟨h1, h2⟩ := and2 h; exact .inr ⟨of_decide_eq_true h1, of_decide_eq_true h2⟩
theorem bin_mul : ∃ r : R2, OpR X (binaryOp .Mult) r ∧ BinR X.K .Mult r := by
  refine ⟨_, op_mul.or (op_repF.or op_rep), fun ρ A H st x y d v w Q S rx ry h b => ?_⟩
  unfold binop at h
  split at h
  · simp only [binI] at h
    split at h
    · rename_i hz
      cases h
      exact .inl ⟨_, _, rx.int_eq, ry.int_eq, mulOk_eq hz, b.here S (.v (.int _)) (fun _ z => nomatch z)⟩
    · cases h
  · cases h
  · cases h
  · rename_i xs k
    simp only at h
    split at h
    · rename_i hz
      obtain ⟨hz, z3⟩ := and2 hz
      obtain ⟨z1, z2⟩ := and2 hz
      have z1 := of_decide_eq_true z1
      have z2 := of_decide_eq_true z2
      have z3 := of_decide_eq_true z3
      cases h
      obtain ⟨a, vs, rfl, h1, h2, h3⟩ := rx.tup_eq
      have hl := h3.length
      refine .inr (.inl ⟨a, k, vs, rfl, ry.int_eq, h2.sqT, z1, z2, by omega, fun hk => ?_, fun hk => end_tup .refl S (h3.rep _) b⟩)
      have e : (List.replicate k.toNat xs).flatten = xs := by
        rcases hk with hk | hk
        · rw [hk] at hl
          have : xs = [] := List.eq_nil_of_length_eq_zero (by simpa using hl.symm)
          rw [this]
          simp
        · rw [hk]
          show (List.replicate 1 xs).flatten = xs
          simp
      rw [e] at b
      exact b.here S rx (fun _ z => nomatch z)
    · cases h
  · rename_i k _ _ 
    simp only at h
    split at h
    · rename_i ds e1
      split at h
      · rename_i hz
        obtain ⟨hz, z3⟩ := and2 hz
        obtain ⟨z1, z2⟩ := and2 hz
        have z1 := of_decide_eq_true z1
        have z2 := of_decide_eq_true z2
        obtain ⟨a, vs, rfl, hh, rs⟩ := seq_at S rx e1
        exact .inr (.inr ⟨a, _, vs, rfl, ry.int_eq, hh, by omega, by omega, by rw [rs.length]; exact small_eq z3, fun p hp => end_list (fr := true) .refl S S (rs.rep _) h hp b⟩)
      · cases h
    · cases h
  · cases h
theorem bin_int {op : Operator} {Cd : Int → Int → Prop} {g : Int → Int → Int} (ho : OpR X (binaryOp op) (rI Cd fun i j => .int (g i j))) (hb : ∀ i j d, binI op i j = .ok d → Cd i j ∧ d = .v (.int (g i j)))
    (hn : ∀ st x y d, binop st op x y = .ok d → ∃ i j, x = .v (.int i) ∧ y = .v (.int j) ∧ binI op i j = .ok d) : ∃ r : R2, OpR X (binaryOp op) r ∧ BinR X.K op r := by
  refine ⟨_, ho, fun ρ A H st x y d v w Q S rx ry h b => ?_⟩
  obtain ⟨i, j, rfl, rfl, h⟩ := hn st x y d h
  obtain ⟨h1, rfl⟩ := hb i j d h
  exact ⟨i, j, rx.int_eq, ry.int_eq, h1, b.here S (.v (.int _)) (fun _ z => nomatch z)⟩
theorem bin_only {op : Operator} (h1 : op ≠ .Add) (h2 : op ≠ .Mult) (st : Sto) (x y d : D) (h : binop st op x y = .ok d) : ∃ i j, x = .v (.int i) ∧ y = .v (.int j) ∧ binI op i j = .ok d := by
  unfold binop at h
  split at h
  · exact ⟨_, _, rfl, rfl, h⟩
  all_goals (cases op <;> first | exact absurd rfl h1 | exact absurd rfl h2 | (simp only at h; cases h))
theorem bin_rule {op op' : Operator} (hop : opB op op' = true) : ∃ r : R2, OpR X (binaryOp op) r ∧ BinR X.K op' r := by
  cases op <;> cases op' <;> first | (exfalso; simp [opB] at hop; done) | skip
  · exact bin_add
  · exact bin_sub
  · exact bin_mul
  · refine bin_int op_modN (fun i j d h => ?_) (bin_only (by decide) (by decide))
    simp only [binI] at h
    split at h
    · rename_i hz; cases h; exact ⟨of_decide_eq_true hz, rfl⟩
    · cases h
  · refine bin_int op_pow (fun i j d h => ?_) (bin_only (by decide) (by decide))
    simp only [binI] at h
    split at h
    · rename_i hz
      obtain ⟨hz, z3⟩ := and2 hz
      obtain ⟨z1, z2⟩ := and2 hz
      cases h; exact ⟨⟨of_decide_eq_true z1, of_decide_eq_true z2, of_decide_eq_true z3⟩, rfl⟩
    · cases h
  · refine bin_int op_shl (fun i j d h => ?_) (bin_only (by decide) (by decide))
    simp only [binI] at h
    split at h
    · rename_i hz
      obtain ⟨hz, z3⟩ := and2 hz
      obtain ⟨z1, z2⟩ := and2 hz
      cases h; exact ⟨⟨of_decide_eq_true z1, of_decide_eq_true z2, of_decide_eq_true z3⟩, rfl⟩
    · cases h
  · refine bin_int op_shr (fun i j d h => ?_) (bin_only (by decide) (by decide))
    simp only [binI] at h
    split at h
    · rename_i hz; cases h; exact ⟨of_decide_eq_true hz, rfl⟩
    · cases h
  · refine ⟨_, op_and, fun ρ A H st x y d v w Q S rx ry h b => ?_⟩
    obtain ⟨i, j, rfl, rfl, h⟩ := bin_only (by decide) (by decide) st x y d h
    cases h
    exact ⟨i, j, rx.int_eq, ry.int_eq, b.here S (.v (.int _)) (fun _ z => nomatch z)⟩
  · refine bin_int op_fdivN (fun i j d h => ?_) (bin_only (by decide) (by decide))
    simp only [binI] at h
    split at h
    · rename_i hz
      obtain ⟨z1, z2⟩ := and2 hz
      cases h; exact ⟨⟨of_decide_eq_true z1, of_decide_eq_true z2⟩, rfl⟩
    · cases h
theorem e_bin {op op' : Operator} {e f : Expr} {a b : E} {pos : Pos} (hop : opB op op' = true) (h1 : PE X e (tX false X.K C a)) (h2 : PE X f (tX false X.K C b)) : PE X (.BinOp e op f pos) (tX true X.K C (.bin op' a b)) := by
  obtain ⟨r, ho, hr⟩ := bin_rule (X := X) hop
  refine ⟨fun pins s σ H Q I q => ?_⟩
  obtain ⟨ρ, A, env, st, d, st', er, sr, ev, post⟩ := q
  simp only [evE] at ev
  obtain ⟨⟨x, st1⟩, e1, ev⟩ := R.bind_eq ev
  obtain ⟨⟨y, st2⟩, e2, ev⟩ := R.bind_eq ev
  obtain ⟨k, e3, ev⟩ := R.bind_eq ev
  simp only [R.ok.injEq, Prod.mk.injEq] at ev
  obtain ⟨rfl, rfl⟩ := ev
  exact (pe_op ho h1 h2).run pins s σ H Q I (two_tX er sr e1 e2 fun v w H2 ρ2 A2 s2 S2 rv rw' => hr ρ2 A2 H2 st2 x y k v w Q S2 rv rw' e3 fun v' H' ρ' A' s' S' p => post v' H' ρ' A' (s2.trans s') S' (p.back s2 S2))
/-! ### subscripts -/
theorem plain_ix {f : Expr} (h : notSlice f = true) : PlainIx f := by
  intro o i
  cases f <;> first | rfl | (simp [notSlice] at h)
theorem nosl {f : Expr} (h : notSlice f = true) : NoSl f := by
  intro o i
  cases f <;> first | rfl | (simp [notSlice] at h)
theorem kvs_get {K : PySem.W.Frag} {ρ : List Addr} {A : AS} {H : Hp} : ∀ {kvs : List (Key × V)} {kds : List (Str × D)} {k : Str}, KVs K ρ A H kvs kds → (∀ d, kds.lookup k = some d → ∃ v, valV kvs (kK k) = some v ∧ RD K ρ A H v d) ∧ (kds.lookup k = none → valV kvs (kK k) = none)
  | _, _, k, .nil => ⟨fun d h => by simp at h, fun _ => rfl⟩
  | _, _, k, .cons (k := k') (v := v') (d := d') r t => by
    obtain ⟨h1, h2⟩ := kvs_get (k := k) t
    by_cases e : k' = k
    · subst e
      refine ⟨fun d h => ?_, fun h => ?_⟩
      · rw [List.lookup_cons, beq_self_eq_true] at h
        cases h
        exact ⟨v', valV_pos rfl, r⟩
      · rw [List.lookup_cons, beq_self_eq_true] at h
        cases h
    · have hb : (k == k') = false := beq_eq_false_iff_ne.mpr fun z => e z.symm
      have hk : ¬ (kK k', v').1 = kK k := fun z => e (Sum.inr.inj z)
      refine ⟨fun d h => ?_, fun h => ?_⟩
      · rw [List.lookup_cons, hb] at h
        obtain ⟨v, q1, q2⟩ := h1 d h
        exact ⟨v, by rw [valV_neg hk]; exact q1, q2⟩
      · rw [List.lookup_cons, hb] at h
        rw [valV_neg hk]; exact h2 h
theorem atI_rel {K : PySem.W.Frag} {ρ : List Addr} {A : AS} {H : Hp} {vs : List V} {ds : List D} {k : Int} {d : D} (r : RDs K ρ A H vs ds) (h : atI ds k = some d) : ∃ v, atI vs k = some v ∧ RD K ρ A H v d := by
  unfold atI at h ⊢
  rw [r.length]
  cases e : ixN ds.length k with
  | none => rw [e] at h; cases h
  | some j =>
    rw [e] at h
    exact r.get h
theorem e_idx (O : Okx c C X) {e f : Expr} {a b : E} {pos : Pos} (hn : notSlice f = true) (h1 : PE X e (tX false X.K C a)) (h2 : PE X f (tX false X.K C b)) : PE X (.Subscript e f pos) (tX false X.K C (.idx a b)) := by
  refine ⟨fun pins s σ H Q I q => ?_⟩
  obtain ⟨ρ, A, env, st, d, st', er, sr, ev, post⟩ := q
  simp only [evE] at ev
  obtain ⟨⟨x, st1⟩, e1, ev⟩ := R.bind_eq ev
  obtain ⟨⟨y, st2⟩, e2, ev⟩ := R.bind_eq ev
  obtain ⟨k, e3, ev⟩ := R.bind_eq ev
  simp only [R.ok.injEq, Prod.mk.injEq] at ev
  obtain ⟨rfl, rfl⟩ := ev
  dsimp only at e3
  unfold index at e3
  cases hd : dAt st2 x y with
  | some r0 =>
    rw [hd] at e3
    have e4 := R.of_eq e3
    refine (pe_dget (by have := O.un; omega) h1 h2 (nosl hn)).run pins s σ H Q I (two_tX er sr e1 e2 fun v w H2 ρ2 A2 s2 S2 rv rw' => ?_)
    obtain ⟨a0, o, rfl, g, _, k2⟩ := dAt_get S2 rv rw' hd
    obtain ⟨u, rfl, ru⟩ := k2 _ e4
    exact ⟨a0, u, rfl, g, post u H2 ρ2 A2 s2 S2 ru⟩
  | none =>
  rw [hd] at e3
  dsimp only at e3
  unfold index0 at e3
  split at e3
  · rename_i k
    split at e3
    · rename_i b0 ds hs
      refine (pe_ix (ix_list.or ix_tup) h1 h2 (plain_ix hn)).run pins s σ H Q I (two_tX er sr e1 e2 fun v w H2 ρ2 A2 s2 S2 rv rw' => ?_)
      obtain ⟨a0, vs, rfl, hh, rs⟩ := seq_at S2 rv hs
      obtain ⟨u, hu, ru⟩ := atI_rel rs (R.of_eq e3)
      cases b0 with
      | true => exact .inr ⟨a0, vs, k, u, rfl, rw'.int_eq, TupF.sqT hh, hu, post u H2 ρ2 A2 s2 S2 ru⟩
      | false => exact .inl ⟨a0, vs, k, u, rfl, rw'.int_eq, SqL.of hh, hu, post u H2 ρ2 A2 s2 S2 ru⟩
    · cases e3
  · rename_i z
    split at e3
    · rename_i n
      split at e3
      · rename_i kvs hs
        refine (pe_dget (by have := O.un; omega) h1 h2 (nosl hn)).run pins s σ H Q I (two_tX er sr e1 e2 fun v w H2 ρ2 A2 s2 S2 rv rw' => ?_)
        obtain ⟨a0, u, rfl, _, _, hh, ro⟩ := ref_at S2 rv hs
        cases ro with
        | dct rk =>
          obtain ⟨w0, q1, q2⟩ := (kvs_get rk).1 _ (R.of_eq e3)
          cases rw'.str_eq
          refine ⟨a0, w0, rfl, ?_, post w0 H2 ρ2 A2 s2 S2 q2⟩
          have := DGet.k (k := kK z) hh
          rw [q1] at this
          exact this
      · cases e3
    · cases e3
  · cases e3
/-! ### slices -/
def tXO (K : PySem.W.Frag) (C : Cfg) (e : Option E) : TO := fun σ H Q => ∃ (ρ : List Addr) (A : AS) (env : En) (st : Sto) (o : Option Int) (st' : Sto), ER K ρ A H σ env ∧ SR K ρ A st H ∧ evO C e env st = .ok (o, st') ∧
  ∀ H' ρ' A', Stp ρ A H ρ' A' H' → SR K ρ' A' st' H' → Q o H'
theorem o_none : PO X none (tXO X.K C none) := by
  refine ⟨fun pins s σ H Q I q => ?_⟩
  obtain ⟨ρ, A, env, st, d, st', er, sr, ev, post⟩ := q
  simp only [evO, R.ok.injEq, Prod.mk.injEq] at ev
  obtain ⟨rfl, rfl⟩ := ev
  exact po_none.run pins s σ H Q I (post H ρ A .refl sr)
theorem o_some {e : Expr} {a : E} (h : PE X e (tX false X.K C a)) : PO X (some e) (tXO X.K C (some a)) := by
  refine ⟨fun pins s σ H Q I q => ?_⟩
  obtain ⟨ρ, A, env, st, d, st', er, sr, ev, post⟩ := q
  simp only [evO] at ev
  obtain ⟨⟨x, st1⟩, e1, ev⟩ := R.bind_eq ev
  obtain ⟨i, e2, ev⟩ := R.bind_eq ev
  simp only [R.ok.injEq, Prod.mk.injEq] at ev
  obtain ⟨rfl, rfl⟩ := ev
  cases toInt_eq (R.of_eq e2)
  exact (po_some h).run pins s σ H Q I (one_tX er sr e1 fun v H1 ρ1 A1 s1 S1 r1 => ⟨i, r1.int_eq, post H1 ρ1 A1 s1 S1⟩)
theorem cut_rp {A : AS} {H : Hp} {vs : List V} {ps : List PyData} (r : RPs A H vs ps) (lo hi : Option Int) : RPs A H (cutV vs lo hi) (cut ps lo hi) := by
  have td : ∀ {vs : List V} {ps : List PyData} (n : Nat), RPs A H vs ps → RPs A H (vs.drop n) (ps.drop n) ∧ RPs A H (vs.take n) (ps.take n) := by
    intro vs
    induction vs with
    | nil => intro ps n r; cases r; simp; exact .nil
    | cons v vs ih =>
      intro ps n r
      cases r with
      | cons r t =>
        cases n with
        | zero => exact ⟨.cons r t, .nil⟩
        | succ n => exact ⟨(ih n t).1, .cons r (ih n t).2⟩
  unfold cutV cut
  rw [r.length]
  exact (td _ (td _ r).1).2
theorem cut_rd {K : PySem.W.Frag} {ρ : List Addr} {A : AS} {H : Hp} {vs : List V} {ds : List D} (r : RDs K ρ A H vs ds) (lo hi : Option Int) : RDs K ρ A H (cutV vs lo hi) (cut ds lo hi) := by
  unfold cutV cut
  rw [r.length]
  exact (r.drop _).take _
theorem cut_all {α : Type} {xs : List α} {lo hi : Option Int} (h : HT.sIx xs.length 0 lo = 0 ∧ HT.sIx xs.length xs.length hi = xs.length) : cut xs lo hi = xs := by
  unfold cut
  rw [h.1, h.2]
  simp
theorem e_slice {e : Expr} {a : E} {l h : Option Expr} {lo hi : Option E} {p pos : Pos} (h1 : PE X e (tX false X.K C a)) (h2 : PO X l (tXO X.K C lo)) (h3 : PO X h (tXO X.K C hi)) : PE X (.Subscript e (.Slice l h none p) pos) (tX true X.K C (.slice a lo hi)) := by
  refine ⟨fun pins s σ H Q I q => ?_⟩
  obtain ⟨ρ, A, env, st, d, st', er, sr, ev, post⟩ := q
  simp only [evE] at ev
  obtain ⟨⟨x, st1⟩, e1, ev⟩ := R.bind_eq ev
  obtain ⟨⟨l', st2⟩, e2, ev⟩ := R.bind_eq ev
  obtain ⟨⟨h', st3⟩, e3, ev⟩ := R.bind_eq ev
  obtain ⟨k, e4, ev⟩ := R.bind_eq ev
  simp only [R.ok.injEq, Prod.mk.injEq] at ev
  obtain ⟨rfl, rfl⟩ := ev
  refine (pe_slice (sl_list.or sl_tupF) h1 h2 h3).run pins s σ H Q I (one_tX er sr e1 fun v H1 ρ1 A1 s1 S1 r1 => ⟨ρ1, A1, env, st1, l', st2, er.mono s1, S1, e2, fun H2 ρ2 A2 s2 S2 => ⟨ρ2, A2, env, st2, h', st3, (er.mono s1).mono s2, S2, e3, fun H3 ρ3 A3 s3 S3 => ?_⟩⟩)
  have r3 := (r1.mono s2).mono s3
  have s03 := (s1.trans s2).trans s3
  dsimp only at e4
  unfold sliced at e4
  split at e4
  · cases e4
    obtain ⟨a0, vs, rfl, k1, k2, k3⟩ := r3.tup_eq
    refine .inr ⟨a0, vs, rfl, k2.sqT, fun hw => ?_, fun _ => ?_⟩
    · rw [k3.length] at hw
      rw [cut_all hw] at post
      exact post _ H3 ρ3 A3 s03 S3 (.of r3 fun _ z => nomatch z)
    · exact end_tup s03 S3 (cut_rp k3 l' h') post
  · split at e4
    · rename_i ds hs
      obtain ⟨a0, vs, rfl, hh, rs⟩ := seq_at S3 r3 hs
      exact .inl ⟨a0, vs, rfl, SqL.of hh, fun q hq => end_list (fr := true) s03 sr S3 (cut_rd rs l' h') e4 hq post⟩
    · cases e4
theorem e_rev {e : Expr} {a : E} {k : Nat} {p1 p2 p3 pos : Pos} (h1 : PE X e (tX false X.K C a)) : PE X (.Subscript e (.Slice none none (some (.UnaryOp .USub (.Constant (.int 1) k p1) p2)) p3) pos) (tX true X.K C (.rev a)) := by
  refine ⟨fun pins s σ H Q I q => ?_⟩
  obtain ⟨ρ, A, env, st, d, st', er, sr, ev, post⟩ := q
  simp only [evE] at ev
  obtain ⟨⟨x, st1⟩, e1, ev⟩ := R.bind_eq ev
  obtain ⟨k, e4, ev⟩ := R.bind_eq ev
  simp only [R.ok.injEq, Prod.mk.injEq] at ev
  obtain ⟨rfl, rfl⟩ := ev
  dsimp only at e4
  unfold reversed at e4
  split at e4
  · rename_i ds hs
    refine (pe_revL h1).run pins s σ H Q I (one_tX er sr e1 fun v H1 ρ1 A1 s1 S1 r1 => ?_)
    obtain ⟨a0, vs, rfl, hh, rs⟩ := seq_at S1 r1 hs
    exact ⟨a0, vs, rfl, SqL.of hh, fun q hq => end_list (fr := true) s1 sr S1 rs.reverse e4 hq post⟩
  · cases e4
end
end Vi
set_option Elab.async false
set_option linter.all false
set_option maxRecDepth 100000
set_option maxHeartbeats 4000000
set_option autoImplicit false
/-! Vh: calls. -/
namespace Vi
open PySem L2 PySem.Spec PyProof.Rows
section
variable {C : Cfg} {X : Cx} {c : CC}
/-! ### a def is called -/
theorem run_G {k : Nat} {f : Addr} {fd : FuncData} {ps : List Str} {sp : List V → Hp → VK → Prop} {pins : List (Addr × Obj)} {σ : L2.St} {H : Hp} {s : Shared} {Q : VK} {us : List Value} {vs : List V}
    (F : FnG X.prog X.w X.K X.mg X.base k f fd ps sp) (hr : Room k X.A) (hu : X.A.guards = some []) (hb : Binds X.K fd ps []) (I : Inv X pins σ H s) (r : Vals vs us) (h : sp vs H Q) : wpAny (model X.prog X.w) X.A (call (.ref f) us) (EP X pins σ Q) X.xe s := by
  have hl : (us ++ ([] : List Value)).length = ps.length := by rw [List.append_nil, ← r.length]; exact F.len _ _ _ h
  have hb' := hb s us I.kIn hl
  rw [List.append_nil] at hb'
  refine wpAny_call (codeAny_mono (F.run X.A X.stack s H ⟨us, []⟩ us vs Q hr hu I.env0 hb' r h) fun r s' hq => ?_)
  cases r with
  | error e => exact False.elim hq
  | ok fl =>
    cases fl with
    | ret u => exact I.after hq
    | next => exact False.elim hq
    | brk => exact False.elim hq
    | cont => exact False.elim hq
theorem e_call {x : Str} {f : Nat} {es : List Expr} {as : List E} {p pos : Pos} (O : Okx c C X) (hf : c.fns[f]? = some x) (hg : glB c x = true) (hd : (x == dbg) = false) (hn : es.all notStar = true) (he : es = [] → as = []) (h : PA X es (tXs X.K C as)) : PE X (.Call (.Name x p) es [] pos) (tX false X.K C (.call f as)) := by
  refine ⟨fun pins s σ H Q I q => ?_⟩
  obtain ⟨ρ, A, env, st, d, st', er, sr, ev, post⟩ := q
  obtain ⟨k, fa, fd, ps, hm, hk, hr, hb, F⟩ := O.call f x hf
  simp only [evE] at ev
  obtain ⟨⟨ds, st1⟩, e1, ev⟩ := R.bind_eq ev
  have go : ∀ {vs : List V} {H1 : Hp} {ρ1 : List Addr} {A1 : AS}, Stp ρ A H ρ1 A1 H1 → SR X.K ρ1 A1 st1 H1 → RDs X.K ρ1 A1 H1 vs ds → spC X.K C f vs H1 Q := fun s1 S1 r1 =>
    ⟨_, _, ds, st1, d, st', S1, r1, ev, fun v H2 ρ2 A2 s2 S2 r2 => post v H2 ρ2 A2 (s1.trans s2) S2 r2⟩
  refine wpAny_Call_Name_kw (ld_glob I (gl_of O hg) hm ?_ hd)
  cases es with
  | nil =>
    have := he rfl
    subst this
    simp only [evEs, R.ok.injEq, Prod.mk.injEq] at e1
    obtain ⟨rfl, rfl⟩ := e1
    exact PySem.W.callWith_K0 I.kIn hk (run_G (us := []) F hr O.gu hb I .nil (go .refl sr .nil))
  | cons e es =>
    rw [List.all_cons] at hn
    obtain ⟨h1, h2⟩ := and2 hn
    refine PySem.W.callWith_K (h₀ := X.base) I.ok.mod.kin hk (thn (h.run pos pins s σ H (fun vs H1 => spC X.K C f vs H1 Q) I ⟨ρ, A, env, st, ds, st1, er, sr, e1, fun vs H1 ρ1 A1 s1 S1 r1 => go s1 S1 r1⟩) fun us s1 hus => ?_) (star_cons h1) (back_star h2)
    obtain ⟨vs, H1, I1, r, q⟩ := hus
    exact ⟨I1.kIn, run_G F hr O.gu hb I1 r q⟩
/-! ### built-ins by values -/
theorem call_repr {hu : X.A.units + 200 < cLine} {hg : X.A.guards = some []} : CallR X (.builtin "repr") (fun xs H Q => ∃ x p, xs = [x] ∧ Dp X.K H x p ∧ reprOk p = true ∧ Q (.str p.shown) H) := by
  intro pins s σ H xs us Q I r h
  obtain ⟨x, p, rfl, hd, ok, q⟩ := h
  obtain ⟨u, rfl, rx⟩ := vals1 r
  obtain ⟨ok, o4⟩ := and2 ok
  obtain ⟨ok, o3⟩ := and2 ok
  obtain ⟨o1, o2⟩ := and2 ok
  have o2 := small_eq o2
  have o3 := of_decide_eq_true o3
  have o4 := bang o4
  obtain ⟨as, rd⟩ := Dp.reads I p x u hd rx
  have done : ∀ (tk : Nat) (t : Tok), EP X pins σ Q (.str p.shown t) { s with toks := tk } := fun tk t => ⟨.str _, H, I.tok tk, ⟨_, rfl⟩, q⟩
  cases hd with
  | non => cases (show u = Value.none from rx); exact PySem.P.repr_of_none (done _ _)
  | bl b => cases (show u = Value.bool b from rx); exact PySem.P.repr_of_bool (done _ _)
  | int i =>
    obtain ⟨t, rfl⟩ := (show ∃ t, u = Value.int i t from rx)
    refine PySem.P.repr_of_int ?_ (done _ _)
    simpa [PyData.showable] using o1
  | str z =>
    obtain ⟨t, rfl⟩ := (show ∃ t, u = Value.str z t from rx)
    exact PySem.P.repr_of_str (done _ _) o2
  | lst h1 h2 =>
    cases (show u = Value.ref _ from rx)
    exact repr_of_reads' rd o1 (fun z => by rw [o4] at z; cases z) hg (by omega) (fun _ _ z => z) (fun h' u tk kk => ⟨.str _, H, I.kept kk, ⟨_, rfl⟩, q⟩) o2
  | tup h1 h2 =>
    cases (show u = Value.ref _ from rx)
    exact repr_of_reads' rd o1 (fun z => by rw [o4] at z; cases z) hg (by omega) (fun _ _ z => z) (fun h' u tk kk => ⟨.str _, H, I.kept kk, ⟨_, rfl⟩, q⟩) o2
def BltR (K : PySem.W.Frag) (b : Bl) (r : List V → Hp → VK → Prop) : Prop := ∀ (ρ : List Addr) (A : AS) (H : Hp) (st : Sto) (ds : List D) (d : D) (vs : List V) (Q : VK), SR K ρ A st H → RDs K ρ A H vs ds → blt st b ds = .ok d → BinEnd K ρ A H st d Q → r vs H Q
theorem RDs.one {K : PySem.W.Frag} {ρ : List Addr} {A : AS} {H : Hp} {vs : List V} {d : D} (r : RDs K ρ A H vs [d]) : ∃ v, vs = [v] ∧ RD K ρ A H v d := by
  cases r with | cons r t => cases t; exact ⟨_, rfl, r⟩
theorem RDs.two {K : PySem.W.Frag} {ρ : List Addr} {A : AS} {H : Hp} {vs : List V} {d e : D} (r : RDs K ρ A H vs [d, e]) : ∃ v w, vs = [v, w] ∧ RD K ρ A H v d ∧ RD K ρ A H w e := by
  cases r with | cons r t => cases t with | cons r2 t => cases t; exact ⟨_, _, rfl, r, r2⟩
theorem seq_true {st : Sto} {d : D} {ds : List D} (h : seqOf st d = some (true, ds)) : ∃ xs, d = .v (.tuple xs) ∧ ds = xs.map .v := by
  unfold seqOf at h
  split at h
  · cases h; exact ⟨_, rfl, rfl⟩
  · cases h
  · split at h <;> cases h
  · cases h
def bltTy : Bl → Option (Sum String String)
  | .tuple => some (.inl "tuple")
  | .list => some (.inl "list")
  | .int => some (.inl "int")
  | .len => some (.inr "len")
  | .abs => some (.inr "abs")
  | .max2 => some (.inr "max")
  | .min2 => some (.inr "min")
  | .repr => some (.inr "repr")
  | .sum => some (.inr "sum")
  | .all => some (.inr "all")
  | .min1 => some (.inr "min")
  | .max1 => some (.inr "max")
def rLenK : List V → Hp → VK → Prop := fun xs H Q => ∃ (a : Addr) (kvs : List (L2.Key × V)), xs = [.ref a] ∧ H a = some (.dK kvs) ∧ Q (.int ((kvs.length : Nat) : Int)) H
theorem call_len_dK : CallR X (.builtin "len") rLenK := by
  intro pins s σ H xs us Q I r h
  obtain ⟨a, kvs, rfl, hh, q⟩ := h
  obtain ⟨u, rfl, ru⟩ := vals1 r
  cases ru
  exact d_len I (.inl hh) fun t s' I' => ⟨.int (kvs.length : Nat), H, I', ⟨_, rfl⟩, q⟩
/-- the keys of an open dict -/
theorem keys_at {K : PySem.W.Frag} {ρ : List Addr} {A : AS} {H : Hp} {st : Sto} {v : V} {x : D} {ps : List PyData} (S : SR K ρ A st H) (rv : RD K ρ A H v x) (h : keysOf st x = some ps) :
    ∃ a, v = .ref a ∧ ((∃ kvs : List (L2.Key × V), H a = some (.dK kvs) ∧ ps = kvs.map fun kv => keyP kv.1) ∨ ∃ kvs : List (List L2.Key × V), H a = some (.dT kvs) ∧ ps = kvs.map fun kv => keyT kv.1) := by
  unfold keysOf objOf at h
  split at h
  · rename_i n
    cases hs : st[n]? with
    | none => rw [hs] at h; cases h
    | some ob =>
      rw [hs] at h
      simp only [Option.bind_some] at h
      obtain ⟨a, u, rfl, _, _, hh, ro⟩ := ref_at S rv hs
      unfold dKeys at h
      split at h
      · cases h
        cases ro with
        | dk rk =>
          refine ⟨a, rfl, .inl ⟨_, hh, ?_⟩⟩
          have := congrArg (List.map keyP) (kvg_keys rk)
          rw [List.map_map, List.map_map] at this
          exact this.symm
      · cases h
        cases ro with
        | dt rk =>
          refine ⟨a, rfl, .inr ⟨_, hh, ?_⟩⟩
          have := congrArg (List.map keyT) (kvg_keys rk)
          rw [List.map_map, List.map_map] at this
          exact this.symm
      · cases h
  · cases h
theorem RPs.ints {A : AS} {H : Hp} : ∀ {vs : List V} {ps : List PyData} {ns : List Int}, RPs A H vs ps → intsOf ps = some ns → vs = ns.map V.int
  | _, _, ns, .nil, h => by simp only [intsOf, Option.some.injEq] at h; subst h; rfl
  | _, _, ns, .cons (p := p) r t, h => by
    cases p with
    | int i =>
      simp only [intsOf, Option.map_eq_some_iff] at h
      obtain ⟨ns', h, rfl⟩ := h
      cases r
      rw [RPs.ints t h]
      rfl
    | _ => simp [intsOf] at h
theorem RPs.bools {A : AS} {H : Hp} : ∀ {vs : List V} {ps : List PyData} {ns : List Bool}, RPs A H vs ps → boolsOf ps = some ns → vs = ns.map V.bl
  | _, _, ns, .nil, h => by simp only [boolsOf, Option.some.injEq] at h; subst h; rfl
  | _, _, ns, .cons (p := p) r t, h => by
    cases p with
    | bool i =>
      simp only [boolsOf, Option.map_eq_some_iff] at h
      obtain ⟨ns', h, rfl⟩ := h
      cases r
      rw [RPs.bools t h]
      rfl
    | _ => simp [boolsOf] at h
theorem nsOf_at {K : PySem.W.Frag} {ρ : List Addr} {A : AS} {H : Hp} {st : Sto} {v : V} {x : D} {ns : List Int} (S : SR K ρ A st H) (rv : RD K ρ A H v x) (h : nsOf st x = some ns) : ∃ a, v = .ref a ∧ H a = some (.lst (ns.map V.int)) := by
  unfold nsOf at h
  split at h
  · rename_i es hs
    cases hp : plains es with
    | none => rw [hp] at h; cases h
    | some ps =>
      rw [hp] at h
      simp only [Option.bind_some] at h
      obtain ⟨a, ws, rfl, hh, rw'⟩ := seq_at S rv hs
      have e2 := RPs.ints (rw'.plains hp) h
      rw [e2] at hh
      exact ⟨a, rfl, hh⟩
  · cases h
theorem least_mem {ns : List Int} {i : Int} (h : leastOf ns = some i) : i ∈ ns ∧ 0 < ns.length ∧ ∀ y ∈ ns, i ≤ y := by
  cases ns with
  | nil => cases h
  | cons n r =>
    simp only [leastOf, Option.some.injEq] at h
    subst h
    have gen : ∀ (r : List Int) (n : Int), (r.foldl min n ∈ n :: r) ∧ (r.foldl min n ≤ n) ∧ ∀ y ∈ r, r.foldl min n ≤ y := by
      intro r
      induction r with
      | nil => intro n; simp
      | cons a r ih =>
        intro n
        obtain ⟨h1, h2, h3⟩ := ih (min n a)
        rw [List.foldl_cons]
        refine ⟨?_, by omega, fun y hy => ?_⟩
        · rcases List.mem_cons.mp h1 with h | h
          · rw [h]
            by_cases q : n ≤ a
            · simp [Int.min_eq_left q]
            · simp [Int.min_eq_right (by omega : a ≤ n)]
          · exact List.mem_cons_of_mem _ (List.mem_cons_of_mem _ h)
        · rcases List.mem_cons.mp hy with rfl | hy
          · omega
          · exact h3 y hy
    obtain ⟨h1, h2, h3⟩ := gen r n
    refine ⟨h1, by simp, fun y hy => ?_⟩
    rcases List.mem_cons.mp hy with rfl | hy
    · exact h2
    · exact h3 y hy
theorem most_mem {ns : List Int} {i : Int} (h : mostOf ns = some i) : i ∈ ns ∧ 0 < ns.length ∧ ∀ y ∈ ns, y ≤ i := by
  cases ns with
  | nil => cases h
  | cons n r =>
    simp only [mostOf, Option.some.injEq] at h
    subst h
    have gen : ∀ (r : List Int) (n : Int), (r.foldl max n ∈ n :: r) ∧ (n ≤ r.foldl max n) ∧ ∀ y ∈ r, y ≤ r.foldl max n := by
      intro r
      induction r with
      | nil => intro n; simp
      | cons a r ih =>
        intro n
        obtain ⟨h1, h2, h3⟩ := ih (max n a)
        rw [List.foldl_cons]
        refine ⟨?_, by omega, fun y hy => ?_⟩
        · rcases List.mem_cons.mp h1 with h | h
          · rw [h]
            by_cases q : a ≤ n
            · simp [Int.max_eq_left q]
            · simp [Int.max_eq_right (by omega : n ≤ a)]
          · exact List.mem_cons_of_mem _ (List.mem_cons_of_mem _ h)
        · rcases List.mem_cons.mp hy with rfl | hy
          · omega
          · exact h3 y hy
    obtain ⟨h1, h2, h3⟩ := gen r n
    refine ⟨h1, by simp, fun y hy => ?_⟩
    rcases List.mem_cons.mp hy with rfl | hy
    · exact h2
    · exact h3 y hy
def rSumT (K : PySem.W.Frag) : List V → Hp → VK → Prop := fun vs H Q => ∃ (a : Addr) (ns : List Int), vs = [V.ref a] ∧ SqT K H a (ns.map V.int) ∧ Q (.int ns.sum) H
theorem cr_sumT (hc : X.calm = true) : CallR X (.builtin "sum") (rSumT X.K) := by
  intro pins s σ H vs us Q I r h
  obtain ⟨a, ns, rfl, hs, q⟩ := h
  obtain ⟨its, rv, hl, _⟩ := I.tuple hs
  rw [Vals.ref1 r]
  have hi := rv.ints
  obtain ⟨xs, e⟩ := hi.allInts.items
  have hn : numsOf (intItems xs).toList = ns := by rw [← e]; exact hi.numsOf
  rw [nums_intItems] at hn
  rw [e] at hl
  refine PySem.W.ktm_sumG (I.ok.hd hc) hl fun h' tk t' hk => ?_
  rw [preSum_eq, List.take_of_length_le (by simp), hn]
  exact ⟨.int _, H, I.kept hk, ⟨_, rfl⟩, q⟩
theorem blt_rule (O : Okx c C X) (b : Bl) : ∃ r, CallR X (match b with
    | .tuple => .type "tuple" | .list => .type "list" | .int => .type "int" | .len => .builtin "len" | .abs => .builtin "abs" | .max2 => .builtin "max" | .min2 => .builtin "min" | .repr => .builtin "repr" | .sum => .builtin "sum" | .all => .builtin "all" | .min1 => .builtin "min" | .max1 => .builtin "max") r ∧ BltR X.K b r := by
  have one : ∀ {ds : List D} {d : D} {st : Sto} {b : Bl}, blt st b ds = .ok d → (b = .tuple ∨ b = .list ∨ b = .len ∨ b = .repr ∨ b = .sum ∨ b = .all ∨ b = .min1 ∨ b = .max1) → ∃ x, ds = [x] := fun {ds d st b} h hb => by
    match ds, h with
    | [x], _ => exact ⟨x, rfl⟩
    | [], h => rcases hb with rfl | rfl | rfl | rfl | rfl | rfl | rfl | rfl <;> simp [blt] at h
    | x :: y :: r, h => rcases hb with rfl | rfl | rfl | rfl | rfl | rfl | rfl | rfl <;> simp [blt] at h
  cases b with
  | all =>
    refine ⟨_, cr_all O.calm, fun ρ A H st ds d vs Q S rs h be => ?_⟩
    obtain ⟨x, rfl⟩ := one h (.inr (.inr (.inr (.inr (.inr (.inl rfl))))))
    obtain ⟨v, rfl, rv⟩ := rs.one
    simp only [blt] at h
    split at h
    · rename_i es hs
      split at h
      · rename_i ps hp
        obtain ⟨ns, e1, h⟩ := R.bind_eq h
        cases h
        obtain ⟨a, ws, rfl, hh, rw'⟩ := seq_at S rv hs
        have e2 := RPs.bools (rw'.plains hp) (R.of_eq e1)
        rw [e2] at hh
        exact ⟨a, ns, rfl, SqL.of hh, be.here S (.v (.bl _)) fun _ z => nomatch z⟩
      · cases h
    · cases h
  | min1 =>
    refine ⟨_, cr_min O.calm, fun ρ A H st ds d vs Q S rs h be => ?_⟩
    obtain ⟨x, rfl⟩ := one h (.inr (.inr (.inr (.inr (.inr (.inr (.inl rfl)))))))
    obtain ⟨v, rfl, rv⟩ := rs.one
    simp only [blt] at h
    obtain ⟨i, e1, h⟩ := R.bind_eq h
    cases h
    obtain ⟨ns, e2, e3⟩ := Option.bind_eq_some_iff.mp (R.of_eq e1)
    obtain ⟨a, rfl, hh⟩ := nsOf_at S rv e2
    obtain ⟨k1, k2, k3⟩ := least_mem e3
    refine ⟨a, ns, rfl, SqL.of hh, k2, fun m hm hle => ?_⟩
    have e : m = i := by have := k3 m hm; have := hle i k1; omega
    subst e
    exact be.here S (.v (.int _)) fun _ z => nomatch z
  | max1 =>
    refine ⟨_, cr_max O.calm, fun ρ A H st ds d vs Q S rs h be => ?_⟩
    obtain ⟨x, rfl⟩ := one h (.inr (.inr (.inr (.inr (.inr (.inr (.inr rfl)))))))
    obtain ⟨v, rfl, rv⟩ := rs.one
    simp only [blt] at h
    obtain ⟨i, e1, h⟩ := R.bind_eq h
    cases h
    obtain ⟨ns, e2, e3⟩ := Option.bind_eq_some_iff.mp (R.of_eq e1)
    obtain ⟨a, rfl, hh⟩ := nsOf_at S rv e2
    obtain ⟨k1, k2, k3⟩ := most_mem e3
    refine ⟨a, ns, rfl, SqL.of hh, k2, fun m hm hle => ?_⟩
    have e : m = i := by have := k3 m hm; have := hle i k1; omega
    subst e
    exact be.here S (.v (.int _)) fun _ z => nomatch z
  | sum =>
    refine ⟨_, (cr_sum O.calm).or (cr_sumT O.calm), fun ρ A H st ds d vs Q S rs h be => ?_⟩
    obtain ⟨x, rfl⟩ := one h (.inr (.inr (.inr (.inr (.inl rfl)))))
    obtain ⟨v, rfl, rv⟩ := rs.one
    simp only [blt] at h
    split at h
    · rename_i b0 es hs
      split at h
      · rename_i ps hp
        obtain ⟨ns, e1, h⟩ := R.bind_eq h
        cases h
        obtain ⟨a, ws, rfl, hh, rw'⟩ := seq_at S rv hs
        have e2 := RPs.ints (rw'.plains hp) (R.of_eq e1)
        rw [e2] at hh
        cases b0 with
        | true => exact .inr ⟨a, ns, rfl, TupF.sqT hh, be.here S (.v (.int _)) fun _ z => nomatch z⟩
        | false => exact .inl ⟨a, ns, rfl, SqL.of hh, be.here S (.v (.int _)) fun _ z => nomatch z⟩
      · cases h
    · cases h
  | tuple =>
    refine ⟨_, call_tupleF, fun ρ A H st ds d vs Q S rs h be => ?_⟩
    obtain ⟨x, rfl⟩ := one h (.inl rfl)
    obtain ⟨v, rfl, rv⟩ := rs.one
    simp only [blt] at h
    split at h
    · rename_i b0 es hs
      obtain ⟨ps, rfl, hp, hz⟩ := mkTup_eq h
      obtain ⟨a, ws, rfl, hh, rw'⟩ := seq_at S rv hs
      cases b0 with
      | true =>
        obtain ⟨xs, rfl, rfl⟩ := seq_true hs
        rw [plains_map] at hp
        cases hp
        exact ⟨a, ws, rfl, .inr ⟨TupF.sqT hh, be.here S rv fun _ z => nomatch z⟩⟩
      | false => exact ⟨a, ws, rfl, .inl ⟨SqL.of hh, end_tup .refl S (rw'.plains hp) be⟩⟩
    · cases h
  | list =>
    refine ⟨_, call_list_of, fun ρ A H st ds d vs Q S rs h be => ?_⟩
    obtain ⟨x, rfl⟩ := one h (.inr (.inl rfl))
    obtain ⟨v, rfl, rv⟩ := rs.one
    simp only [blt] at h
    split at h
    · rename_i b0 es hs
      obtain ⟨a, ws, rfl, hh, rw'⟩ := seq_at S rv hs
      refine ⟨a, ws, rfl, ?_, fun l hl => end_list (fr := true) .refl S S rw' h hl be⟩
      cases b0 with
      | true => exact .inr (TupF.sqT hh)
      | false => exact .inl (SqL.of hh)
    · cases h
  | int =>
    refine ⟨_, call_int1, fun ρ A H st ds d vs Q S rs h be => ?_⟩
    unfold blt at h
    split at h
    all_goals (first | (exfalso; cases h; done) | skip)
    all_goals (first | contradiction | skip)
    · cases h
      obtain ⟨v, rfl, rv⟩ := rs.one
      cases rv.int_eq
      exact .inl ⟨_, rfl, be.here S (.v (.int _)) fun _ z => nomatch z⟩
    · cases h
      obtain ⟨v, rfl, rv⟩ := rs.one
      cases rv.bl_eq
      exact .inr ⟨_, rfl, be.here S (.v (.int _)) fun _ z => nomatch z⟩
  | len =>
    refine ⟨_, (call_len_seq.or call_len_str).or (call_len_dK.or call_len_dT), fun ρ A H st ds d vs Q S rs h be => ?_⟩
    obtain ⟨x, rfl⟩ := one h (.inr (.inr (.inl rfl)))
    obtain ⟨v, rfl, rv⟩ := rs.one
    simp only [blt, lenOf] at h
    split at h
    · split at h
      · rename_i hz
        cases h
        exact .inl (.inr ⟨_, by rw [rv.str_eq], small_eq hz, be.here S (.v (.int _)) fun _ z => nomatch z⟩)
      · cases h
    · split at h
      · rename_i b0 es hs
        cases h
        obtain ⟨a, ws, rfl, hh, rw'⟩ := seq_at S rv hs
        rw [← rw'.length] at be
        refine .inl (.inl ⟨a, ws, rfl, ?_, be.here S (.v (.int _)) fun _ z => nomatch z⟩)
        cases b0 with
        | true => exact .inr (TupF.sqT hh)
        | false => exact .inl (SqL.of hh)
      · split at h
        · rename_i ps hk
          cases h
          obtain ⟨a, rfl, hh⟩ := keys_at S rv hk
          rcases hh with ⟨kvs, hh, rfl⟩ | ⟨kvs, hh, rfl⟩
          · rw [List.length_map] at be
            exact .inr (.inl ⟨a, kvs, rfl, hh, be.here S (.v (.int _)) fun _ z => nomatch z⟩)
          · rw [List.length_map] at be
            exact .inr (.inr ⟨a, kvs, rfl, hh, be.here S (.v (.int _)) fun _ z => nomatch z⟩)
        · cases h
  | abs =>
    refine ⟨_, call_abs, fun ρ A H st ds d vs Q S rs h be => ?_⟩
    unfold blt at h
    split at h
    all_goals (first | (exfalso; cases h; done) | skip)
    all_goals (first | contradiction | skip)
    cases h
    obtain ⟨v, rfl, rv⟩ := rs.one
    cases rv.int_eq
    exact ⟨_, rfl, be.here S (.v (.int _)) fun _ z => nomatch z⟩
  | max2 =>
    refine ⟨_, call_max2 O.calm, fun ρ A H st ds d vs Q S rs h be => ?_⟩
    unfold blt at h
    split at h
    all_goals (first | (exfalso; cases h; done) | skip)
    all_goals (first | contradiction | skip)
    cases h
    obtain ⟨v, w, rfl, rv, rw'⟩ := rs.two
    cases rv.int_eq
    cases rw'.int_eq
    exact ⟨_, _, rfl, be.here S (.v (.int _)) fun _ z => nomatch z⟩
  | min2 =>
    refine ⟨_, call_min2 O.calm, fun ρ A H st ds d vs Q S rs h be => ?_⟩
    unfold blt at h
    split at h
    all_goals (first | (exfalso; cases h; done) | skip)
    all_goals (first | contradiction | skip)
    cases h
    obtain ⟨v, w, rfl, rv, rw'⟩ := rs.two
    cases rv.int_eq
    cases rw'.int_eq
    exact ⟨_, _, rfl, be.here S (.v (.int _)) fun _ z => nomatch z⟩
  | repr =>
    refine ⟨_, call_repr (hu := O.un) (hg := O.gu), fun ρ A H st ds d vs Q S rs h be => ?_⟩
    obtain ⟨x, rfl⟩ := one h (.inr (.inr (.inr (.inl rfl))))
    obtain ⟨v, rfl, rv⟩ := rs.one
    simp only [blt] at h
    split at h
    · rename_i p hp
      split at h
      · rename_i ok
        cases h
        exact ⟨v, p, rfl, toP_dp S rv hp, ok, be.here S (.v (.str _)) fun _ z => nomatch z⟩
      · cases h
    · cases h
theorem e_blt (O : Okx c C X) {b : Bl} {x : Str} {es : List Expr} {as : List E} {p pos : Pos} (hx : x = blName b) (hg : glB c x = true) (hn : es.all notStar = true) (he : es = [] → as = []) (h : PA X es (tXs X.K C as)) : PE X (.Call (.Name x p) es [] pos) (tX true X.K C (.blt b as)) := by
  obtain ⟨r, hr, hb⟩ := blt_rule O b
  cases es with
  | nil =>
    have := he rfl
    subst this
    refine ⟨fun pins s σ H Q I q => ?_⟩
    obtain ⟨ρ, A, env, st, d, st', er, sr, ev, post⟩ := q
    simp only [evE, evEs, R.bind_ok] at ev
    cases b <;> simp [blt] at ev
  | cons e es =>
    rw [List.all_cons] at hn
    obtain ⟨h1, h2⟩ := and2 hn
    have key : ∀ {t : TE}, (t = tCB r (tXs X.K C as)) → PE X (.Call (.Name x p) (e :: es) [] pos) t → PE X (.Call (.Name x p) (e :: es) [] pos) (tX true X.K C (.blt b as)) := fun ht hp => by
      subst ht
      refine ⟨fun pins s σ H Q I q => ?_⟩
      obtain ⟨ρ, A, env, st, d, st', er, sr, ev, post⟩ := q
      simp only [evE] at ev
      obtain ⟨⟨ds, st1⟩, e1, ev⟩ := R.bind_eq ev
      obtain ⟨d', e2, ev⟩ := R.bind_eq ev
      simp only [R.ok.injEq, Prod.mk.injEq] at ev
      obtain ⟨rfl, rfl⟩ := ev
      exact hp.run pins s σ H Q I ⟨ρ, A, env, st, ds, st1, er, sr, e1, fun vs H1 ρ1 A1 s1 S1 r1 => hb ρ1 A1 H1 st1 ds d' vs Q S1 r1 e2 fun v' H' ρ' A' s' S' p' => post v' H' ρ' A' (s1.trans s') S' (p'.back s1 S1)⟩
    subst hx
    have hG := gl_of O hg
    cases b with
    | tuple => exact key rfl (pe_callTy hr hG (O.bl _ (by decide)) (by decide +kernel) h (by decide) (by decide) (star_cons h1) (back_star h2))
    | list => exact key rfl (pe_callTy hr hG (O.bl _ (by decide)) (by decide +kernel) h (by decide) (by decide) (star_cons h1) (back_star h2))
    | int => exact key rfl (pe_callTy hr hG (O.bl _ (by decide)) (by decide +kernel) h (by decide) (by decide) (star_cons h1) (back_star h2))
    | len => exact key rfl (pe_callB hr hG (O.bl _ (by decide)) (by decide +kernel) h (by decide) (by decide) (star_cons h1) (back_star h2))
    | abs => exact key rfl (pe_callB hr hG (O.bl _ (by decide)) (by decide +kernel) h (by decide) (by decide) (star_cons h1) (back_star h2))
    | max2 => exact key rfl (pe_callB hr hG (O.bl _ (by decide)) (by decide +kernel) h (by decide) (by decide) (star_cons h1) (back_star h2))
    | min2 => exact key rfl (pe_callB hr hG (O.bl _ (by decide)) (by decide +kernel) h (by decide) (by decide) (star_cons h1) (back_star h2))
    | all => exact key rfl (pe_callB hr hG (O.bl _ (by decide)) (by decide +kernel) h (by decide) (by decide) (star_cons h1) (back_star h2))
    | min1 => exact key rfl (pe_callB hr hG (O.bl _ (by decide)) (by decide +kernel) h (by decide) (by decide) (star_cons h1) (back_star h2))
    | max1 => exact key rfl (pe_callB hr hG (O.bl _ (by decide)) (by decide +kernel) h (by decide) (by decide) (star_cons h1) (back_star h2))
    | sum => exact key rfl (pe_callB hr hG (O.bl _ (by decide)) (by decide +kernel) h (by decide) (by decide) (star_cons h1) (back_star h2))
    | repr => exact key rfl (pe_callB hr hG (O.bl _ (by decide)) (by decide +kernel) h (by decide) (by decide) (star_cons h1) (back_star h2))
end
end Vi
set_option Elab.async false
set_option linter.all false
set_option maxRecDepth 100000
set_option maxHeartbeats 4000000
set_option autoImplicit false
/-! Vj: isinstance, list(range), sorted, methods, what comes to the store. -/
namespace Vi
open PySem L2 PySem.Spec PyProof.Rows
section
variable {C : Cfg} {X : Cx} {c : CC}
/-! ### isinstance -/
theorem ty_boot (t : Ty) : bootBuiltins (tyName t) = some (.type (tyStr t)) := by cases t <;> decide +kernel
theorem isTy_kit {st : Sto} {t : Ty} {x : String} (h : x = "NoneType" ∨ x = "bool" ∨ x = "int" ∨ x = "str" ∨ x = "tuple" ∨ x = "list" ∨ x = "dict") : kitB x (tyStr t) = some (x == tyStr t || (x == "bool" && tyStr t == "int")) := by
  rcases h with rfl | rfl | rfl | rfl | rfl | rfl | rfl <;> cases t <;> decide +kernel
theorem tyOf_at {ρ : List Addr} {A : AS} {H : Hp} {st : Sto} {v : V} {d : D} {x : String} (S : SR X.K ρ A st H) (r : RD X.K ρ A H v d) (h : tyOf st d = some x) :
    TyX X.K H v (.type x) ∧ (x = "NoneType" ∨ x = "bool" ∨ x = "int" ∨ x = "str" ∨ x = "tuple" ∨ x = "list" ∨ x = "dict") := by
  cases d with
  | v p =>
    cases p with
    | none => cases r.non_eq; cases h; exact ⟨.base .non, by simp⟩
    | bool _ => cases r.bl_eq; cases h; exact ⟨.base (.bl _), by simp⟩
    | int _ => cases r.int_eq; cases h; exact ⟨.base (.int _), by simp⟩
    | str _ => cases r.str_eq; cases h; exact ⟨.base (.str _), by simp⟩
    | list _ =>
      obtain ⟨a, vs, rfl, _, h2, _⟩ := r.lst_eq
      cases h; exact ⟨.base (.lst h2), by simp⟩
    | tuple _ =>
      obtain ⟨a, vs, rfl, _, h2, _⟩ := r.tup_eq
      have h2 : H a = some (.tup vs) := h2
      cases h; exact ⟨.base (.tup h2), by simp⟩
    | dict _ => simp [tyOf] at h
  | ref n =>
    simp only [tyOf] at h
    cases e : st[n]? with
    | none => rw [e] at h; cases h
    | some o =>
      rw [e] at h
      obtain ⟨a, u, rfl, _, _, hh, ro⟩ := ref_at S r e
      cases ro with
      | lst _ => cases h; exact ⟨.base (.lst hh), by simp⟩
      | dct _ => cases h; exact ⟨.base (.dK hh), by simp⟩
      | dk _ => cases h
      | dkl _ => cases h
      | dt _ => cases h
      | dtl _ => cases h
  | scr _ => simp [tyOf] at h
theorem e_isa (O : Okx c C X) {x y : Str} {t : Ty} {e : Expr} {a : E} {p p2 pos : Pos} {fr : Bool} (hx : x = ("isinstance" : Str)) (hy : y = tyName t) (g1 : glB c x = true) (g2 : glB c y = true) (hn : notStar e = true) (h : PE X e (tX false X.K C a)) :
    PE X (.Call (.Name x p) [e, .Name y p2] [] pos) (tX fr X.K C (.isa t a)) := by
  subst hx hy
  have hty : tyName t ∈ bltNames := by cases t <;> decide
  have hne : tyName t ≠ "__name__" := by cases t <;> decide
  have hdb : (tyName t == ("__debug__" : Str)) = false := by cases t <;> decide
  have pb : PE X (.Name (tyName t) p2) (tC (.ty (tyStr t))) := pe_bltn (gl_of O g2) (O.bl _ hty) (ty_boot t) rfl hne hdb
  have pa : PA X [e, .Name (tyName t) p2] (tCons (tX false X.K C a) (tCons (tC (.ty (tyStr t))) tNil)) := pa_cons h (pa_cons pb pa_nil (star_cons (by rfl))) (star_cons hn)
  refine ⟨fun pins s σ H Q I q => ?_⟩
  obtain ⟨ρ, A, env, st, d, st', er, sr, ev, post⟩ := q
  simp only [evE] at ev
  obtain ⟨⟨x, st1⟩, e1, ev⟩ := R.bind_eq ev
  obtain ⟨b, e2, ev⟩ := R.bind_eq ev
  simp only [R.ok.injEq, Prod.mk.injEq] at ev
  obtain ⟨rfl, rfl⟩ := ev
  refine (pe_callB call_isi (gl_of O g1) (O.bl _ (by decide)) (by decide +kernel) pa (by decide) (by decide) (star_cons hn) (back_star (by rfl))).run pins s σ H Q I (one_tX er sr e1 fun v H1 ρ1 A1 s1 S1 r1 => ?_)
  have e2 := R.of_eq e2
  unfold isTy at e2
  obtain ⟨ty, e3, rfl⟩ := Option.map_eq_some_iff.mp e2
  obtain ⟨k1, k2⟩ := tyOf_at S1 r1 e3
  exact ⟨v, .ty (tyStr t), .type ty, .type (tyStr t), _, rfl, by first | exact rfl | exact .ty _ | constructor, k1, kit_ty (isTy_kit (st := st1) k2), post _ _ ρ1 A1 s1 S1 .bl⟩
/-! ### list(range(..)) -/
theorem rng_two {st : Sto} {ds xs : List D} (h : rngOf ds = .ok xs) : (∃ j, ds = [.v (.int j)] ∧ rngOk j = true ∧ xs = rngI 0 j) ∨ ∃ i j, ds = [.v (.int i), .v (.int j)] ∧ rngOk i = true ∧ rngOk j = true ∧ xs = rngI i j := by
  unfold rngOf at h
  split at h
  · split at h
    · rename_i hz; cases h; exact .inl ⟨_, rfl, hz, rfl⟩
    · cases h
  · split at h
    · rename_i hz
      obtain ⟨z1, z2⟩ := and2 hz
      cases h; exact .inr ⟨_, _, rfl, z1, z2, rfl⟩
    · cases h
  · cases h
theorem rngOk_eq {i : Int} (h : rngOk i = true) : -(2 ^ 62) ≤ i ∧ i < 2 ^ 62 := by
  obtain ⟨z1, z2⟩ := and2 h
  exact ⟨of_decide_eq_true z1, of_decide_eq_true z2⟩
theorem rng_rds {K : PySem.W.Frag} {ρ : List Addr} {A : AS} {H : Hp} (lo hi : Int) : RDs K ρ A H (rgV lo hi) (rngI lo hi) := by
  unfold rgV rngI
  generalize List.range (hi - lo).toNat = l
  induction l with
  | nil => exact .nil
  | cons i l ih => exact .cons (.v (.int _)) ih
theorem rngI_length (lo hi : Int) : (rngI lo hi).length = (hi - lo).toNat := by unfold rngI; simp
theorem e_lrng1 (O : Okx c C X) {x y : Str} {e : Expr} {a : E} {p p2 pos pos2 : Pos} (hx : x = ("list" : Str)) (hy : y = ("range" : Str)) (g1 : glB c x = true) (g2 : glB c y = true) (hn : notStar e = true) (h : PE X e (tX false X.K C a)) :
    PE X (.Call (.Name x p) [.Call (.Name y p2) [e] [] pos2] [] pos) (tX true X.K C (.lrng [a])) := by
  subst hx hy
  refine ⟨fun pins s σ H Q I q => ?_⟩
  obtain ⟨ρ, A, env, st, d, st', er, sr, ev, post⟩ := q
  simp only [evE, evEs] at ev
  obtain ⟨⟨ds, st1⟩, e1, ev⟩ := R.bind_eq ev
  obtain ⟨xs, e2, ev⟩ := R.bind_eq ev
  obtain ⟨d', e3, ev⟩ := R.bind_eq ev
  simp only [R.ok.injEq, Prod.mk.injEq] at ev
  obtain ⟨rfl, rfl⟩ := ev
  obtain ⟨⟨z, st2⟩, e4, e1⟩ := R.bind_eq e1
  simp only [R.bind_ok, R.ok.injEq, Prod.mk.injEq] at e1
  obtain ⟨rfl, rfl⟩ := e1
  rcases rng_two (st := st) e2 with ⟨j, hj, ok, rfl⟩ | ⟨i, j, hj, _⟩
  · have : z = .v (.int j) := by injection hj
    subst this
    obtain ⟨k1, k2⟩ := rngOk_eq ok
    obtain ⟨_, _, _, hz⟩ := mkLst_eq e3
    rw [rngI_length] at hz
    refine (pe_listRg O.calm (gl_of O g1) (O.bl _ (by decide)) (prg_1 (gl_of O g2) (O.bl _ (by decide)) h (star_cons hn)) (star_cons (by rfl))).run pins s σ H Q I (one_tX er sr e4 fun v H1 ρ1 A1 s1 S1 r1 => ?_)
    refine ⟨j, r1.int_eq, ⟨by omega, by omega, k1, k2, ?_⟩, fun q hq => end_list (fr := true) s1 sr S1 (rng_rds 0 j) e3 hq post⟩
    rw [sizeLine_eq] at hz; omega
  · cases hj
theorem e_lrng2 (O : Okx c C X) {x y : Str} {e f : Expr} {a b : E} {p p2 pos pos2 : Pos} (hx : x = ("list" : Str)) (hy : y = ("range" : Str)) (g1 : glB c x = true) (g2 : glB c y = true) (hn : notStar e = true) (hn2 : notStar f = true) (h : PE X e (tX false X.K C a)) (h2 : PE X f (tX false X.K C b)) :
    PE X (.Call (.Name x p) [.Call (.Name y p2) [e, f] [] pos2] [] pos) (tX true X.K C (.lrng [a, b])) := by
  subst hx hy
  refine ⟨fun pins s σ H Q I q => ?_⟩
  obtain ⟨ρ, A, env, st, d, st', er, sr, ev, post⟩ := q
  simp only [evE, evEs] at ev
  obtain ⟨⟨ds, st1⟩, e1, ev⟩ := R.bind_eq ev
  obtain ⟨xs, e2, ev⟩ := R.bind_eq ev
  obtain ⟨d', e3, ev⟩ := R.bind_eq ev
  simp only [R.ok.injEq, Prod.mk.injEq] at ev
  obtain ⟨rfl, rfl⟩ := ev
  obtain ⟨⟨z, st2⟩, e4, e1⟩ := R.bind_eq e1
  obtain ⟨⟨zs, st3⟩, e5, e1⟩ := R.bind_eq e1
  obtain ⟨⟨z2, st4⟩, e6, e5⟩ := R.bind_eq e5
  simp only [R.bind_ok, R.ok.injEq, Prod.mk.injEq] at e5
  obtain ⟨rfl, rfl⟩ := e5
  simp only [R.ok.injEq, Prod.mk.injEq] at e1
  obtain ⟨rfl, rfl⟩ := e1
  rcases rng_two (st := st) e2 with ⟨j, hj, _⟩ | ⟨i, j, hj, ok, ok2, rfl⟩
  · cases hj
  · have e7 : z = .v (.int i) ∧ z2 = .v (.int j) := by injection hj with h1 h2; injection h2 with h2 _; exact ⟨h1, h2⟩
    obtain ⟨rfl, rfl⟩ := e7
    obtain ⟨k1, k2⟩ := rngOk_eq ok
    obtain ⟨l1, l2⟩ := rngOk_eq ok2
    obtain ⟨_, _, _, hz⟩ := mkLst_eq e3
    rw [rngI_length] at hz
    refine (pe_listRg O.calm (gl_of O g1) (O.bl _ (by decide)) (prg_2 (gl_of O g2) (O.bl _ (by decide)) h h2 (star_cons hn) (star_cons hn2) (back_star (by simp [hn2]))) (star_cons (by rfl))).run pins s σ H Q I (two_tX er sr e4 e6 fun v w H1 ρ1 A1 s1 S1 r1 r2 => ?_)
    refine ⟨i, j, r1.int_eq, r2.int_eq, ⟨k1, k2, l1, l2, ?_⟩, fun q hq => end_list (fr := true) s1 sr S1 (rng_rds i j) e3 hq post⟩
    rw [sizeLine_eq] at hz; omega
theorem e_trng1 (O : Okx c C X) {x y : Str} {e : Expr} {a : E} {p p2 pos pos2 : Pos} {fr : Bool} (hx : x = ("tuple" : Str)) (hy : y = ("range" : Str)) (g1 : glB c x = true) (g2 : glB c y = true) (hn : notStar e = true) (h : PE X e (tX false X.K C a)) :
    PE X (.Call (.Name x p) [.Call (.Name y p2) [e] [] pos2] [] pos) (tX fr X.K C (.trng [a])) := by
  subst hx hy
  refine ⟨fun pins s σ H Q I q => ?_⟩
  obtain ⟨ρ, A, env, st, d, st', er, sr, ev, post⟩ := q
  simp only [evE, evEs] at ev
  obtain ⟨⟨ds, st1⟩, e1, ev⟩ := R.bind_eq ev
  obtain ⟨xs, e2, ev⟩ := R.bind_eq ev
  obtain ⟨d', e3, ev⟩ := R.bind_eq ev
  simp only [R.ok.injEq, Prod.mk.injEq] at ev
  obtain ⟨rfl, rfl⟩ := ev
  obtain ⟨⟨z, st2⟩, e4, e1⟩ := R.bind_eq e1
  simp only [R.bind_ok, R.ok.injEq, Prod.mk.injEq] at e1
  obtain ⟨rfl, rfl⟩ := e1
  rcases rng_two (st := st) e2 with ⟨j, hj, ok, rfl⟩ | ⟨i, j, hj, _⟩
  · have : z = .v (.int j) := by injection hj
    subst this
    obtain ⟨k1, k2⟩ := rngOk_eq ok
    obtain ⟨ps, rfl, hps, hz⟩ := mkTup_eq e3
    rw [rngI_length] at hz
    refine (pe_tupRg O.calm (gl_of O g1) (O.bl _ (by decide)) (prg_1 (gl_of O g2) (O.bl _ (by decide)) h (star_cons hn)) (star_cons (by rfl))).run pins s σ H Q I (one_tX er sr e4 fun v H1 ρ1 A1 s1 S1 r1 => ?_)
    refine ⟨j, r1.int_eq, ⟨by omega, by omega, k1, k2, ?_⟩, end_tup s1 S1 ((rng_rds (K := X.K) (ρ := ρ1) 0 j).plains hps) post⟩
    rw [sizeLine_eq] at hz; omega
  · cases hj
theorem e_trng2 (O : Okx c C X) {x y : Str} {e f : Expr} {a b : E} {p p2 pos pos2 : Pos} {fr : Bool} (hx : x = ("tuple" : Str)) (hy : y = ("range" : Str)) (g1 : glB c x = true) (g2 : glB c y = true) (hn : notStar e = true) (hn2 : notStar f = true) (h : PE X e (tX false X.K C a)) (h2 : PE X f (tX false X.K C b)) :
    PE X (.Call (.Name x p) [.Call (.Name y p2) [e, f] [] pos2] [] pos) (tX fr X.K C (.trng [a, b])) := by
  subst hx hy
  refine ⟨fun pins s σ H Q I q => ?_⟩
  obtain ⟨ρ, A, env, st, d, st', er, sr, ev, post⟩ := q
  simp only [evE, evEs] at ev
  obtain ⟨⟨ds, st1⟩, e1, ev⟩ := R.bind_eq ev
  obtain ⟨xs, e2, ev⟩ := R.bind_eq ev
  obtain ⟨d', e3, ev⟩ := R.bind_eq ev
  simp only [R.ok.injEq, Prod.mk.injEq] at ev
  obtain ⟨rfl, rfl⟩ := ev
  obtain ⟨⟨z, st2⟩, e4, e1⟩ := R.bind_eq e1
  obtain ⟨⟨zs, st3⟩, e5, e1⟩ := R.bind_eq e1
  obtain ⟨⟨z2, st4⟩, e6, e5⟩ := R.bind_eq e5
  simp only [R.bind_ok, R.ok.injEq, Prod.mk.injEq] at e5
  obtain ⟨rfl, rfl⟩ := e5
  simp only [R.ok.injEq, Prod.mk.injEq] at e1
  obtain ⟨rfl, rfl⟩ := e1
  rcases rng_two (st := st) e2 with ⟨j, hj, _⟩ | ⟨i, j, hj, ok, ok2, rfl⟩
  · cases hj
  · have e7 : z = .v (.int i) ∧ z2 = .v (.int j) := by injection hj with h1 h2; injection h2 with h2 _; exact ⟨h1, h2⟩
    obtain ⟨rfl, rfl⟩ := e7
    obtain ⟨k1, k2⟩ := rngOk_eq ok
    obtain ⟨l1, l2⟩ := rngOk_eq ok2
    obtain ⟨ps, rfl, hps, hz⟩ := mkTup_eq e3
    rw [rngI_length] at hz
    refine (pe_tupRg O.calm (gl_of O g1) (O.bl _ (by decide)) (prg_2 (gl_of O g2) (O.bl _ (by decide)) h h2 (star_cons hn) (star_cons hn2) (back_star (by simp [hn2]))) (star_cons (by rfl))).run pins s σ H Q I (two_tX er sr e4 e6 fun v w H1 ρ1 A1 s1 S1 r1 r2 => ?_)
    refine ⟨i, j, r1.int_eq, r2.int_eq, ⟨k1, k2, l1, l2, ?_⟩, end_tup s1 S1 ((rng_rds (K := X.K) (ρ := ρ1) i j).plains hps) post⟩
    rw [sizeLine_eq] at hz; omega
end
end Vi
set_option Elab.async false
set_option linter.all false
set_option maxRecDepth 100000
set_option maxHeartbeats 4000000
set_option autoImplicit false
/-! Vkc: sorting tuples, empty ones among them. -/
namespace PySem.SeqAt
variable {A : Around} {s : Shared} {prog : Program} {w : World} {E : Value → Shared → Prop} {Q : Value → Shared → Prop}
theorem vi_call_tuple_lt {l b : Addr} {xs ys : Array Value} {e r : Nat → Bool} (hl : s.heap.IsTuple l xs) (hb : s.heap.IsTuple b ys) (he : ∀ j (h1 : j < xs.size) (h2 : j < ys.size), EqAt A.in1 s xs[j] ys[j] (e j))
    (hr : ∀ j (h1 : j < xs.size) (h2 : j < ys.size), e j = false → RcLt A.in1 s xs[j] ys[j] (r j)) (h : Q (.bool (firstLt e r (decide (xs.size < ys.size)) (List.range (min xs.size ys.size)))) s) : wpAny (model prog w) A (call (.builtin "tuple.__lt__") [.ref l, .ref b]) Q E s := by
  obtain ⟨⟨c1, d1, t1, s1⟩, o1, k1, n1, g1⟩ := id hl
  obtain ⟨⟨c2, d2, t2, s2⟩, o2, k2, n2, g2⟩ := id hb
  simp only at k1 g1 k2 g2
  subst k1 g1 k2 g2
  refine call_meets F.slot_tuple_lt ⟨_, o1, rfl⟩ F.entry_tuple_lt (F.args_tuple_lt_2 _ _) (tuple_ltAt l b xs ys n1 n2 d1 d2 s1 s2 e r) ?_
  exact ⟨o1, o2, he, hr, h⟩
end PySem.SeqAt
namespace PySem.W
open PySem PySem.SeqAt PyProof.Rows
variable {prog : Program} {w : World} {A : Around} {E : Value → Shared → Prop} {s : Shared}
theorem vi_oneLt {f : Bool} {da db : PyData} {a b : Value} {as bs : List Addr} {Q : Bool → Shared → Prop} (ra : Reads s.heap a da as) (rb : Reads s.heap b db bs) (h : alike da db = true) (ht : ∃ xs, da = .tuple xs)
    (hu : A.units + min da.depth db.depth < cLine) (hq : Q (dataLt da db) s) : wpAny (model prog w) A (oneLt' f a b) Q E s := by
  obtain ⟨xs, rfl⟩ := ht
  cases f with
  | false => exact oneLt_alike (fun e => by cases e) ra rb h (fun e => by cases e) hu hq
  | true =>
    cases db with
    | tuple ys =>
      have hal : alikeAll xs ys = true := by simpa [alike] using h
      cases ra with
      | @tuple l o vs n _ as₁ h1 h2 h3 h4 =>
        cases rb with
        | @tuple l' o' vs' n' _ bs₁ k1 k2 k3 k4 =>
          have n1 : vs.size = xs.length := by simpa using ReadsAll.length _ _ _ h4
          have n2 : vs'.size = ys.length := by simpa using ReadsAll.length _ _ _ k4
          rw [dataLt_tuple, ← firstLt_toks xs ys hal, ← n1, ← n2] at hq
          rw [oneLt'_eq]
          simp only [if_true]
          refine wpAny_bind (wpAny_cRoomFor (room_here hu) (wpAny_bind (wpAny_callSpecialIfBound?_slot (T := "tuple") ⟨_, h1, h2⟩ F.slot_tuple_lt
            (vi_call_tuple_lt (e := pairEq xs ys) (r := fun j => dataLt (xs.getD j .none) (ys.getD j .none)) ⟨_, h1, h2, _, h3⟩ ⟨_, k1, k2, _, k3⟩ (fun j j1 j2 => ?_) (fun j j1 j2 hj => ?_) (wpAny_truthy_bool hq)))))
          · have q := eqAt_alikeAll xs ys A.in1 s _ _ _ _ h4 k4 hal (room_in hu) j (by simpa using j1) (by simpa using j2)
            simpa using q
          · have q := rcLt_alikeAll xs ys A.in1 s _ _ _ _ h4 k4 hal (room_in hu) j (by simpa using j1) (by simpa using j2) hj
            simpa using q
    | _ => exact absurd h (by simp [alike])
def viFull : PyData → Bool
  | .tuple (_ :: _) => true
  | _ => false
theorem vi_firsts {M : Model} : ∀ {vs : List Value} {ds : List PyData} {Q : List (Option Value) → Shared → Prop}, EachIs (fun v d => ∃ as, Reads s.heap v d as) vs ds → (∀ d ∈ ds, ∃ xs, d = .tuple xs) →
    (∀ os : List (Option Value), os.map Option.isSome = ds.map viFull → Q os s) → wpAny M A (vs.mapM firstOfTuple') Q E s
  | _, _, Q, .nil, _, h => by rw [List.mapM_nil]; exact wpAny_pure (h [] rfl)
  | _, _, Q, .cons (b := d) ⟨as, r⟩ t, ht, h => by
    obtain ⟨xs, rfl⟩ := ht d (List.mem_cons_self ..)
    have hl := looks_reads (M := M) r
    rw [List.mapM_cons]
    refine wpAny_bind ?_
    rw [kas_first_eq]
    refine wpAny_bind (hl.here ?_)
    rw [if_neg (by simp [dataType])]
    cases r with
    | @tuple a o vs n _ _ ho hc hd hr =>
      refine wpAny_bind (listItems_at ho hd (wpAny_pure ?_))
      refine wpAny_bind (vi_firsts t (fun d hd => ht d (List.mem_cons_of_mem _ hd)) fun os e => wpAny_pure (h _ ?_))
      rw [List.map_cons, List.map_cons, e]
      congr 1
      cases q : vs.toList with
      | nil =>
        rw [q] at hr
        cases hr
        have : vs[0]? = none := by rw [← Array.getElem?_toList, q]; rfl
        rw [this]
        rfl
      | cons f fr =>
        rw [q] at hr
        cases hr
        have : vs[0]? = some f := by rw [← Array.getElem?_toList, q]; rfl
        rw [this]
        rfl
/-- tuples, empty ones among them, can be sorted -/
theorem vi_sortsAt {vs : List Value} {ds : List PyData} (e : EachIs (fun v d => ∃ as, Reads s.heap v d as) vs ds) (hal : AllAlike ds) (ht : ∀ d ∈ ds, ∃ xs, d = .tuple xs) (hu : ∀ d, d ∈ ds → A.units + d.depth < cLine) : SortsAt prog w A s (dataKind s.heap ds) vs := by
  by_cases hk : Sortable ds
  · exact SortsAt.data e hal hk hu
  have room : ∀ {d d' : PyData}, d ∈ ds → A.units + min d.depth d'.depth < cLine := fun {d d'} hd => Nat.lt_of_le_of_lt (Nat.add_le_add_left (Nat.min_le_left _ _) _) (hu d hd)
  have hno : (ds.map viFull).all id = false := by
    cases g : (ds.map viFull).all id with
    | false => rfl
    | true =>
      refine absurd (.inl fun d hd => ?_) hk
      obtain ⟨xs, rfl⟩ := ht d hd
      have := List.all_eq_true.mp g _ (List.mem_map.mpr ⟨_, hd, rfl⟩)
      cases xs with
      | nil => cases this
      | cons x r => exact ⟨x, r, rfl⟩
  have lt : ∀ f : Bool, ∀ (E : Value → Shared → Prop) (x y : Value) (a b : (dataKind s.heap ds).α) {Q : Bool → Shared → Prop}, (dataKind s.heap ds).keyOf x = some a → (dataKind s.heap ds).keyOf y = some b → Q ((dataKind s.heap ds).blt a b) s → wpAny (model prog w) A (oneLt' f x y) Q E s := by
    intro f E x y a b Q ha hb hq
    obtain ⟨d, as, hd, ra, rfl⟩ := dataKind_inv ha
    obtain ⟨d', as', hd', rb, rfl⟩ := dataKind_inv hb
    exact vi_oneLt ra rb (hal d hd d' hd') (ht d hd) (room hd) hq
  refine ⟨fun v hv => ?_, ?_⟩
  · obtain ⟨d, hd, as, r⟩ := e.left v hv
    exact ⟨_, dataKind_some hal hd r⟩
  have step : ∀ {Q : SortKind → Shared → Prop} (E : Value → Shared → Prop), Q (if (ds.head?.map viFull).getD false = true then general' else oneType') s → wpAny (model prog w) A (keyKind' vs.toArray) Q E s := by
    intro Q E hq
    rw [keyKind'_eq, List.mapM_toArray, map_eq_pure_bind]
    refine wpAny_bind (wpAny_bind (vi_firsts e ht fun os eo => wpAny_pure ?_))
    have h1 : (os.toArray.all fun x => x.isSome) = false := by
      rw [List.all_toArray]
      have : (os.all fun x => x.isSome) = (os.map Option.isSome).all id := by rw [List.all_map]; rfl
      rw [this, eo, hno]
    rw [if_neg (by rw [h1]; simp)]
    have h2 : ((os.toArray[0]?).bind id).isSome = (ds.head?.map viFull).getD false := by
      cases os with
      | nil =>
        cases ds with
        | nil => rfl
        | cons d ds => cases eo
      | cons o os =>
        cases ds with
        | nil => cases eo
        | cons d ds =>
          simp only [List.map_cons, List.cons.injEq] at eo
          simp [eo.1]
    rw [h2]
    by_cases g : (ds.head?.map viFull).getD false = true
    · rw [if_pos g] at hq ⊢
      exact wpAny_pure hq
    · rw [if_neg g] at hq ⊢
      rw [oneTypeOnly'_eq, List.mapM_toArray, map_eq_pure_bind]
      refine wpAny_bind (wpAny_bind (wpAny_bind (kas_mapM (r := Value.type "tuple") _ (fun v hv Q' hq => ?_) (wpAny_pure ?_))))
      · obtain ⟨d, hd, as, r⟩ := e.left v hv
        obtain ⟨xs, rfl⟩ := ht d hd
        exact (looks_reads r).here hq
      · cases vs with
        | nil =>
          cases e
          exact absurd (.inr fun d hd => by cases hd) hk
        | cons v vs =>
          have hall : ((List.map (fun _ => Value.type "tuple") (v :: vs)).toArray.all fun x => x == Value.type "tuple") = true := by
            simp only [List.all_toArray, List.all_map, List.all_eq_true]
            intro _ _
            rfl
          have h0 : (List.map (fun _ => Value.type "tuple") (v :: vs)).toArray[0]? = some (Value.type "tuple") := by simp
          rw [h0]
          simp only [hall, if_true]
          exact wpAny_pure (wpAny_pure hq)
  refine ⟨_, ?_, fun _ E Q hq => step E hq⟩
  split
  · exact fun E x y a b Q ha hb hq => lt false E x y a b ha hb hq
  · exact fun E x y a b Q ha hb hq => lt true E x y a b ha hb hq
/-- what can be sorted -/
def viSortable (ds : List PyData) : Prop := (∀ d ∈ ds, ∃ xs, d = .tuple xs) ∨ Sortable ds
theorem vi_sortsAt2 {vs : List Value} {ds : List PyData} (e : EachIs (fun v d => ∃ as, Reads s.heap v d as) vs ds) (hal : AllAlike ds) (ht : viSortable ds) (hu : ∀ d, d ∈ ds → A.units + d.depth < cLine) : SortsAt prog w A s (dataKind s.heap ds) vs :=
  ht.elim (fun h => vi_sortsAt e hal h hu) fun h => SortsAt.data e hal h hu
variable {β : Type} {vs : List Value} {bs : List β} {enc : β → PyData} {R : Value → β → Prop}
theorem vi_sorted_rev {l : Addr} {b : Bool} {Q : Value → Shared → Prop} (hl : s.heap.IsList l vs.toArray) (e : EachIs R vs bs) (er : EachIs (fun v b => ∃ as, Reads s.heap v (enc b) as) vs bs) (hal : AllAlike (bs.map enc)) (hk : viSortable (bs.map enc)) (hL : bs.length ≤ sizeLine)
    (hu : ∀ b, b ∈ bs → A.units + 2 + (enc b).depth < cLine) (h : ∀ out, out.length = bs.length → EachIs R out (bs.mergeSort (dataLe b enc)) → Q (.ref (s.heap.objs.size + 1)) { s with heap := sortedAll s.heap vs (List.toArray out) }) :
    wpAny (model prog w) A (call (.builtin "sorted") [.ref l] [(Str.ofString "reverse", .bool b)]) Q E s := by
  have er2 : EachIs (fun v b => ∃ as, Reads (sortingHeap (copyHeap s.heap vs) (s.heap.objs.size + 1) vs) v (enc b) as) vs bs := er.mono fun _ _ ⟨as, r⟩ => ⟨as, PyProof.Rows.Reads.keeps (fun _ _ => sorting_copy_old) r⟩
  refine sorted_rev_vals hl (vi_sortsAt2 (s := { s with heap := sortingHeap (copyHeap s.heap vs) (s.heap.objs.size + 1) vs }) (each_map (R := fun v d => ∃ as, Reads (sortingHeap (copyHeap s.heap vs) (s.heap.objs.size + 1) vs) v d as) enc er2) hal hk (bound_map hu)) (by rw [e.length]; exact hL) ?_
  exact h _ (by rw [sortVals_length b rfl]; exact e.length) (sortVals_data b e er2 hal)
theorem vi_sorted {l : Addr} {Q : Value → Shared → Prop} (hl : s.heap.IsList l vs.toArray) (e : EachIs R vs bs) (er : EachIs (fun v b => ∃ as, Reads s.heap v (enc b) as) vs bs) (hal : AllAlike (bs.map enc)) (hk : viSortable (bs.map enc)) (hL : bs.length ≤ sizeLine)
    (hu : ∀ b, b ∈ bs → A.units + 2 + (enc b).depth < cLine) (h : ∀ out, out.length = bs.length → EachIs R out (bs.mergeSort (dataLe false enc)) → Q (.ref (s.heap.objs.size + 1)) { s with heap := sortedAll s.heap vs (List.toArray out) }) :
    wpAny (model prog w) A (call (.builtin "sorted") [.ref l]) Q E s := by
  have er2 : EachIs (fun v b => ∃ as, Reads (sortingHeap (copyHeap s.heap vs) (s.heap.objs.size + 1) vs) v (enc b) as) vs bs := er.mono fun _ _ ⟨as, r⟩ => ⟨as, PyProof.Rows.Reads.keeps (fun _ _ => sorting_copy_old) r⟩
  refine sorted_vals hl (vi_sortsAt2 (s := { s with heap := sortingHeap (copyHeap s.heap vs) (s.heap.objs.size + 1) vs }) (each_map (R := fun v d => ∃ as, Reads (sortingHeap (copyHeap s.heap vs) (s.heap.objs.size + 1) vs) v d as) enc er2) hal hk (bound_map hu)) (by rw [e.length]; exact hL) ?_
  exact h _ (by rw [sortVals_length false rfl]; exact e.length) (sortVals_data false e er2 hal)
end PySem.W
set_option Elab.async false
set_option linter.all false
set_option maxRecDepth 100000
set_option maxHeartbeats 4000000
set_option autoImplicit false
/-! Vkd: sorted of a dict whose keys are rows. -/
namespace Vi
open PySem L2 PySem.Spec PyProof.Rows
section
variable {C : Cfg} {X : Cx} {c : CC}
def Rv (A : AS) (H : Hp) (v : Value) (p : PyData) : Prop := ∃ x, RelV x v ∧ RP A H x p
theorem each_of {A : AS} {H : Hp} {vs : List V} {us : List Value} {ps : List PyData} (r : Vals vs us) (q : RPs A H vs ps) : PySem.W.EachIs (Rv A H) us ps := by
  induction r generalizing ps with
  | nil => cases q; exact .nil
  | cons a _ ih =>
    cases q with
    | cons p t => exact .cons ⟨_, a, p⟩ (ih t)
theorem of_each {A : AS} {H : Hp} {us : List Value} {ps : List PyData} (e : PySem.W.EachIs (Rv A H) us ps) : ∃ vs, Vals vs us ∧ RPs A H vs ps := by
  induction e with
  | nil => exact ⟨[], .nil, .nil⟩
  | cons h _ ih =>
    obtain ⟨x, h1, h2⟩ := h
    obtain ⟨vs, k1, k2⟩ := ih
    exact ⟨x :: vs, .cons h1 k1, .cons h2 k2⟩
theorem each_reads {pins : List (Addr × Obj)} {σ : L2.St} {A : AS} {H : Hp} {s : Shared} (I : Inv X pins σ H s) {us : List Value} {ps : List PyData} (e : PySem.W.EachIs (Rv A H) us ps) : PySem.W.EachIs (fun v p => ∃ as, Reads s.heap v (id p) as) us ps := by
  induction e with
  | nil => exact .nil
  | cons h _ ih =>
    obtain ⟨x, h1, h2⟩ := h
    obtain ⟨as, r⟩ := Dp.reads I _ x _ h2.dp h1
    exact .cons ⟨as, r⟩ ih
theorem sort_ok {ps : List PyData} (h : sortOk ps = true) : PySem.W.AllAlike (ps.map id) ∧ PySem.W.viSortable (ps.map id) ∧ ps.length ≤ sizeLine ∧ ∀ p ∈ ps, p.depth ≤ 60 := by
  unfold sortOk at h
  obtain ⟨h, h4⟩ := and2 h
  obtain ⟨h, h3⟩ := and2 h
  obtain ⟨h1, h2⟩ := and2 h
  rw [List.map_id]
  refine ⟨?_, ?_, small_eq h1, fun p hp => of_decide_eq_true (List.all_eq_true.mp h4 p hp)⟩
  · intro d hd d' hd'
    exact List.all_eq_true.mp (List.all_eq_true.mp h2 d hd) d' hd'
  · rcases Bool.or_eq_true_iff.mp h3 with h3 | h3
    · refine .inl fun d hd => ?_
      have := List.all_eq_true.mp h3 d hd
      split at this
      · exact ⟨_, rfl⟩
      · cases this
    · refine .inr (.inr fun d hd => ?_)
      have := List.all_eq_true.mp h3 d hd
      refine ⟨?_, ?_⟩
      · rintro rfl; cases this
      · rintro xs rfl; cases this
theorem RPs.ofKeys {A : AS} {H : Hp} : ∀ ks : List L2.Key, RPs A H (ks.map kV) (ks.map keyP)
  | [] => .nil
  | .inl i :: ks => .cons (.int i) (RPs.ofKeys ks)
  | .inr s :: ks => .cons (.str s) (RPs.ofKeys ks)
theorem isKeys_rps {A : AS} {H : Hp} {kvs : List (List L2.Key × V)} {bs : List Addr} (h : IsKeys H kvs bs) : RPs A H (bs.map V.ref) (kvs.map fun kv => keyT kv.1) := by
  unfold IsKeys at h
  induction h with
  | nil => exact .nil
  | cons hd _ ih => exact .cons (.tup hd (RPs.ofKeys _)) ih
def rSortedDT : List V → Hp → VK → Prop := fun xs H Q => ∃ (a : Addr) (kvs : List (List L2.Key × V)), xs = [.ref a] ∧ H a = some (.dT kvs) ∧ sortOk (kvs.map fun kv => keyT kv.1) = true ∧
  ∀ p ys, H p = none → (∀ A : AS, RPs A H ys ((kvs.map fun kv => keyT kv.1).mergeSort (PySem.W.dataLe false id))) → Q (.ref p) (upd H p (.lst ys))
theorem call_sortedDT (hc : X.calm = true) (hu : X.A.units + 200 < cLine) : CallR X (.builtin "sorted") rSortedDT := by
  intro pins s σ H xs us Q I r h
  obtain ⟨d, kvs, rfl, hd, ok, q⟩ := h
  obtain ⟨u, rfl, rx⟩ := vals1 r
  cases rx
  obtain ⟨z, hs, ks, pr, o, es, ep, ho, hx, hdt, he, hn⟩ := (show ObjOk X.prog X.w H s.heap d (.dT kvs) from I.hok d _ hd)
  have l1 : es.size = ks.length := size_of_entries he
  have l2 : kvs.length = ks.length := Paired.length pr
  obtain ⟨h1, h2, h3, h4⟩ := sort_ok ok
  refine Calls.call_function_entry PyProof.Rows.kind_sorted PyProof.Rows.plain_sorted PyProof.Rows.entry_sorted (PyProof.Rows.args_sorted1 _) ?_
  unfold Builtin.«sorted»
  refine wpAny_bind (m := checkCount "sorted" 1 1 _) (wpAny_pure ?_)
  refine wpAny_bind (PySem.W.kdu_collect (A := X.A.in1) (kdl_raw hs hx hdt) (I.ok.hd hc) ho (by omega) fun h' tk acc hk it => ?_)
  have ea : acc.toList = ks.map fun x => Value.ref x.2.1 := by
    have hl : acc.toList.length = ks.length := by rw [Array.length_toList, it.1]; exact l1
    apply List.ext_getElem?
    intro j
    rw [List.getElem?_map]
    cases hj : acc.toList[j]? with
    | none =>
      have h1 := List.getElem?_eq_none_iff.mp hj
      rw [List.getElem?_eq_none (by omega)]
      all_goals rfl
    | some v =>
      obtain ⟨en, hen, hv⟩ := it.2 j v (by rw [← Array.getElem?_toList]; exact hj)
      have qe := entry_at he j
      rw [hen] at qe
      cases hb : ks[j]? with
      | none =>
        rw [hb] at qe
        exact nomatch (show some en = none from qe)
      | some b =>
        rw [hb] at qe
        have e2 : en = entryOfKey (tupleKind (mixKind X.prog X.w)) b := Option.some.inj qe
        rw [hv, e2]
        all_goals rfl
  have eb : acc.toList = (ks.map fun x => x.2.1).map Value.ref := by rw [ea, List.map_map]; all_goals rfl
  have rv : Vals ((ks.map fun x => x.2.1).map V.ref) acc.toList := by rw [eb]; exact vals_refs _
  have rps : RPs (fun _ => False) H ((ks.map fun x => x.2.1).map V.ref) (kvs.map fun kv => keyT kv.1) := isKeys_rps (isKeys_of pr)
  have hal : acc.toList.length = kvs.length := by rw [eb, List.length_map, List.length_map]; omega
  have I1 : Inv X pins σ H { s with heap := h', toks := tk } := I.kept hk
  have e := each_of rv rps
  have er := each_reads I1 e
  refine wpAny_bind (wpAny_newList ?_ (by rw [hal]; exact z))
  have hoL : (h'.push (seqObj "list" acc.toList.toArray 0)).get? h'.objs.size = some (seqObj "list" acc.toList.toArray 0) := Heap.get?_push_size _ rfl
  show wpAny _ _ _ _ _ { s with heap := h'.push (seqObj "list" acc.toList.toArray 0), toks := tk }
  generalize hps : (kvs.map fun kv => keyT kv.1) = ps at *
  generalize hvs : acc.toList = vs at *
  have er2 : PySem.W.EachIs (fun v p => ∃ as, Reads (PySem.W.sortingHeap (h'.push (seqObj "list" vs.toArray 0)) h'.objs.size vs) v (id p) as) vs ps :=
    er.mono fun _ _ ⟨as, r⟩ => ⟨as, PyProof.Rows.Reads.keeps (fun b o q => PySem.W.sortingHeap_old (Nat.ne_of_lt (Heap.lt_size q)) (Heap.get?_push_of_some _ q)) r⟩
  refine wpAny_bind (wpAny_holding (wpAny_call_entry PyProof.Rows.slot_list_sort ⟨_, hoL, rfl⟩ PyProof.Rows.entry_list_sort
    (PySem.W.list_sort_vals (s := { s with heap := h'.push (seqObj "list" vs.toArray 0), toks := tk }) (κ := PySem.W.dataKind (PySem.W.sortingHeap (h'.push (seqObj "list" vs.toArray 0)) h'.objs.size vs) (ps.map id)) hoL
      (PySem.W.vi_sortsAt2 (s := { s with heap := PySem.W.sortingHeap (h'.push (seqObj "list" vs.toArray 0)) h'.objs.size vs, toks := tk }) (PySem.W.each_map (R := fun v d => ∃ as, Reads (PySem.W.sortingHeap (h'.push (seqObj "list" vs.toArray 0)) h'.objs.size vs) v d as) id er2) h1 h2 (PySem.W.bound_map fun b hb => by have := h4 b hb; show X.A.units + 2 + b.depth < cLine; omega))
      (by rw [e.length]; exact h3) ⟨.none, rfl, ?_⟩)
    (PyProof.Rows.args_list_sort _)))
  have eo := PySem.W.sortVals_data (enc := id) false e er2 h1
  obtain ⟨ys, g1, g2⟩ := of_each eo
  generalize hout : PySem.W.sortVals (PySem.W.dataKind (PySem.W.sortingHeap (h'.push (seqObj "list" vs.toArray 0)) h'.objs.size vs) (ps.map id)) false vs vs = out at *
  obtain ⟨e', he'⟩ := PyProof.Rows.sortedHeap_at (vs := vs) (out := out.toArray) hoL
  have hlen : ys.length ≤ sizeLine := by
    rw [g2.length, List.length_mergeSort]
    exact h3
  have rr : RPs (fun _ => False) H ys (ps.mergeSort (PySem.W.dataLe false id)) := g2
  refine wpAny_pure ⟨_, rfl, .ref h'.objs.size, upd H h'.objs.size (.lst ys), I1.laid (t' := tk) (fun b u q => ?_) (Nat.le_refl _)
    (show ObjOk X.prog X.w _ _ _ (.lst ys) from ⟨hlen, out, e', g1, he'⟩), rfl, q _ _ (I1.hok.fresh (Nat.le_refl _)) (fun A => rr.mono (A' := A) (fun _ z => z.elim) (Kp.refl _ _))⟩
  have hb : b < h'.objs.size := Heap.lt_size q
  rw [PyProof.Rows.sortedHeap_old (Nat.ne_of_lt hb) (by rw [size_push']; exact Nat.lt_succ_of_lt hb)]
  exact Heap.get?_push_of_some _ q
/-- a tuple -/
def rSortedTp (K : PySem.W.Frag) : List V → Hp → VK → Prop := fun xs H Q => ∃ (A : AS) (a : Addr) (vs : List V) (ps : List PyData), xs = [.ref a] ∧ SqT K H a vs ∧ RPs A H vs ps ∧ sortOk ps = true ∧
  ∀ p ys, H p = none → RPs A H ys (ps.mergeSort (PySem.W.dataLe false id)) → Q (.ref p) (upd H p (.lst ys))
theorem call_sortedTp (hu : X.A.units + 200 < cLine) : CallR X (.builtin "sorted") (rSortedTp X.K) := by
  intro pins s σ H xs us Q I r h
  obtain ⟨A, a, ws, ps, rfl, hs, rps, ok, q⟩ := h
  obtain ⟨u, rfl, rx⟩ := vals1 r
  cases rx
  obtain ⟨h1, h2, h3, h4⟩ := sort_ok ok
  obtain ⟨its, rv, ⟨o, ho, hc, n, hd⟩, hz⟩ := I.tuple hs
  refine Calls.call_function_entry PyProof.Rows.kind_sorted PyProof.Rows.plain_sorted PyProof.Rows.entry_sorted (PyProof.Rows.args_sorted1 _) ?_
  unfold Builtin.«sorted»
  refine wpAny_bind (m := checkCount "sorted" 1 1 _) (wpAny_pure ?_)
  refine wpAny_bind (wpAny_collect_seq a (.inr rfl) ho hc hd (fun h' hk => ?_) (by rw [List.size_toArray, ← rv.length]; exact hz))
  have hal : its.length ≤ sizeLine := by rw [← rv.length]; exact hz
  have I1 : Inv X pins σ H { s with heap := h' } := I.kept (t' := s.toks) hk
  have e := each_of rv rps
  have er := each_reads I1 e
  refine wpAny_bind (wpAny_newList ?_ (by first | exact hal | (rw [List.length_toArray]; exact hal) | simpa using hal))
  have hoL : (h'.push (seqObj "list" its.toArray 0)).get? h'.objs.size = some (seqObj "list" its.toArray 0) := Heap.get?_push_size _ rfl
  show wpAny _ _ _ _ _ { s with heap := h'.push (seqObj "list" its.toArray 0) }
  have er2 : PySem.W.EachIs (fun v p => ∃ as, Reads (PySem.W.sortingHeap (h'.push (seqObj "list" its.toArray 0)) h'.objs.size its) v (id p) as) its ps :=
    er.mono fun _ _ ⟨as, r⟩ => ⟨as, PyProof.Rows.Reads.keeps (fun b o q => PySem.W.sortingHeap_old (Nat.ne_of_lt (Heap.lt_size q)) (Heap.get?_push_of_some _ q)) r⟩
  refine wpAny_bind (wpAny_holding (wpAny_call_entry PyProof.Rows.slot_list_sort ⟨_, hoL, rfl⟩ PyProof.Rows.entry_list_sort
    (PySem.W.list_sort_vals (s := { s with heap := h'.push (seqObj "list" its.toArray 0) }) (κ := PySem.W.dataKind (PySem.W.sortingHeap (h'.push (seqObj "list" its.toArray 0)) h'.objs.size its) (ps.map id)) hoL
      (PySem.W.vi_sortsAt2 (s := { s with heap := PySem.W.sortingHeap (h'.push (seqObj "list" its.toArray 0)) h'.objs.size its }) (PySem.W.each_map (R := fun v d => ∃ as, Reads (PySem.W.sortingHeap (h'.push (seqObj "list" its.toArray 0)) h'.objs.size its) v d as) id er2) h1 h2 (PySem.W.bound_map fun b hb => by have := h4 b hb; show X.A.units + 2 + b.depth < cLine; omega))
      (by rw [e.length]; exact h3) ⟨.none, rfl, ?_⟩)
    (PyProof.Rows.args_list_sort _)))
  have eo := PySem.W.sortVals_data (enc := id) false e er2 h1
  obtain ⟨ys, g1, g2⟩ := of_each eo
  generalize hout : PySem.W.sortVals (PySem.W.dataKind (PySem.W.sortingHeap (h'.push (seqObj "list" its.toArray 0)) h'.objs.size its) (ps.map id)) false its its = out at *
  obtain ⟨e', he'⟩ := PyProof.Rows.sortedHeap_at (vs := its) (out := out.toArray) hoL
  have hlen : ys.length ≤ sizeLine := by
    rw [g2.length, List.length_mergeSort]
    exact h3
  refine wpAny_pure ⟨_, rfl, .ref h'.objs.size, upd H h'.objs.size (.lst ys), I1.laid (t' := s.toks) (fun b u q => ?_) (Nat.le_refl _)
    (show ObjOk X.prog X.w _ _ _ (.lst ys) from ⟨hlen, out, e', g1, he'⟩), rfl, q _ _ (I1.hok.fresh (Nat.le_refl _)) g2⟩
  have hb : b < h'.objs.size := Heap.lt_size q
  rw [PyProof.Rows.sortedHeap_old (Nat.ne_of_lt hb) (by rw [size_push']; exact Nat.lt_succ_of_lt hb)]
  exact Heap.get?_push_of_some _ q
end
end Vi
set_option Elab.async false
set_option linter.all false
set_option maxRecDepth 100000
set_option maxHeartbeats 4000000
set_option autoImplicit false
/-! Vk: sorted, methods, what comes to the store. -/
namespace Vi
open PySem L2 PySem.Spec PyProof.Rows
section
variable {C : Cfg} {X : Cx} {c : CC}
/-! ### sorted -/
def rSorted (K : PySem.W.Frag) : List V → Hp → VK → Prop := fun xs H Q => ∃ (A : AS) (a : Addr) (vs : List V) (ps : List PyData), xs = [.ref a] ∧ SqL K H a vs ∧ RPs A H vs ps ∧ sortOk ps = true ∧
  ∀ p ys, H p = none → RPs A H ys (ps.mergeSort (PySem.W.dataLe false id)) → Q (.ref p) (upd H p (.lst ys))
def rSortedR (K : PySem.W.Frag) : List V → List V → Hp → VK → Prop := fun xs zs H Q => ∃ (A : AS) (a : Addr) (vs : List V) (ps : List PyData), xs = [.ref a] ∧ zs = [.bl true] ∧ SqL K H a vs ∧ RPs A H vs ps ∧ sortOk ps = true ∧
  ∀ p ys, H p = none → RPs A H ys (ps.mergeSort (PySem.W.dataLe true id)) → Q (.ref p) (upd H p (.lst ys))
theorem call_sorted (hu : X.A.units + 200 < cLine) : CallR X (.builtin "sorted") (rSorted X.K) := by
  intro pins s σ H xs us Q I r h
  obtain ⟨A, a, vs, ps, rfl, hs, hp, ok, q⟩ := h
  obtain ⟨its, rv, hl, hz⟩ := I.list hs
  obtain ⟨u, rfl, ru⟩ := vals1 r
  obtain rfl : u = Value.ref a := ru
  obtain ⟨h1, h2, h3, h4⟩ := sort_ok ok
  have e := each_of rv hp
  refine PySem.W.vi_sorted (enc := id) hl.isList e (each_reads I e) h1 h2 h3 (fun b hb => by have := h4 b hb; show X.A.units + 2 + b.depth < cLine; omega) fun out ho eo => ?_
  obtain ⟨ys, k1, k2⟩ := of_each eo
  obtain ⟨ep, he⟩ := sortedAll_at s.heap its out.toArray
  refine ⟨.ref _, upd H (s.heap.objs.size + 1) (.lst ys), I.laid (t' := s.toks) (fun _ _ => sortedAll_old) (Nat.le_succ _) ⟨?_, out, ep, k1, he⟩, rfl, q _ _ (I.hok.fresh (Nat.le_succ _)) k2⟩
  rw [k2.length, List.length_mergeSort]; exact h3
theorem call_sortedR (hu : X.A.units + 200 < cLine) : CallRK X (.builtin "sorted") [Str.ofString "reverse"] (rSortedR X.K) := by
  intro pins s σ H xs zs us ws Q I r rz h
  obtain ⟨A, a, vs, ps, rfl, rfl, hs, hp, ok, q⟩ := h
  obtain ⟨its, rv, hl, hz⟩ := I.list hs
  obtain ⟨u, rfl, ru⟩ := vals1 r
  obtain rfl : u = Value.ref a := ru
  obtain ⟨w1, rfl, e1⟩ := vals1 rz
  obtain rfl : w1 = Value.bool true := e1
  obtain ⟨h1, h2, h3, h4⟩ := sort_ok ok
  have e := each_of rv hp
  refine PySem.W.vi_sorted_rev (enc := id) hl.isList e (each_reads I e) h1 h2 h3 (fun b hb => by have := h4 b hb; show X.A.units + 2 + b.depth < cLine; omega) fun out ho eo => ?_
  obtain ⟨ys, k1, k2⟩ := of_each eo
  obtain ⟨ep, he⟩ := sortedAll_at s.heap its out.toArray
  refine ⟨.ref _, upd H (s.heap.objs.size + 1) (.lst ys), I.laid (t' := s.toks) (fun _ _ => sortedAll_old) (Nat.le_succ _) ⟨?_, out, ep, k1, he⟩, rfl, q _ _ (I.hok.fresh (Nat.le_succ _)) k2⟩
  rw [k2.length, List.length_mergeSort]; exact h3
theorem RPs.rd {K : PySem.W.Frag} {ρ : List Addr} {A : AS} {H : Hp} {vs : List V} {ps : List PyData} (r : RPs A H vs ps) : RDs K ρ A H vs (ps.map .v) := RDs.plain r
theorem sorted_eq {st : Sto} {rev : Bool} {x d : D} (h : sortedOf0 st rev x = .ok d) : (∃ ps, keysT st x = some ps ∧ rev = false ∧ sortOk ps = true ∧ d = .v (.list (ps.mergeSort (PySem.W.dataLe rev id)))) ∨ ∃ b ds ps, seqOf st x = some (b, ds) ∧ (b && rev) = false ∧ plains ds = some ps ∧ sortOk ps = true ∧ d = .v (.list (ps.mergeSort (PySem.W.dataLe rev id))) := by
  unfold sortedOf0 at h
  split at h
  · rename_i ps e
    split at h
    · rename_i ok
      obtain ⟨o1, o2⟩ := and2 ok
      cases h
      exact .inl ⟨ps, e, (by cases rev <;> first | rfl | cases o1), o2, rfl⟩
    · cases h
  refine .inr ?_
  split at h
  · rename_i b ds e
    split at h
    · rename_i ps e2
      split at h
      · rename_i ok
        obtain ⟨o1, o2⟩ := and2 ok
        cases h
        exact ⟨b, ds, ps, e, bang o1, e2, o2, rfl⟩
      · cases h
    · cases h
  · cases h
theorem mkLst_map {ps : List PyData} (h : ps.length ≤ sizeLine) : mkLst (ps.map .v) = .ok (.v (.list ps)) := by
  unfold mkLst
  rw [plains_map]
  simp only
  rw [if_pos (show small ps.length = true from decide_eq_true h)]
theorem keysT_at {K : PySem.W.Frag} {ρ : List Addr} {A : AS} {H : Hp} {st : Sto} {v : V} {x : D} {ps : List PyData} (S : SR K ρ A st H) (rv : RD K ρ A H v x) (h : keysT st x = some ps) :
    ∃ (a : Addr) (kvs : List (List L2.Key × V)), v = .ref a ∧ H a = some (.dT kvs) ∧ ps = kvs.map fun kv => keyT kv.1 := by
  unfold keysT objOf at h
  split at h
  · rename_i n
    cases hs : st[n]? with
    | none => rw [hs] at h; cases h
    | some ob =>
      rw [hs] at h
      simp only [Option.bind_some] at h
      obtain ⟨a, u, rfl, _, _, hh, ro⟩ := ref_at S rv hs
      unfold tKeys at h
      split at h
      · cases h
        cases ro with
        | dt rk =>
          refine ⟨a, _, rfl, hh, ?_⟩
          have := congrArg (List.map keyT) (kvg_keys rk)
          rw [List.map_map, List.map_map] at this
          exact this.symm
      · cases h
  · cases h
theorem intKs_of {K : PySem.W.Frag} {ρ : List Addr} {A : AS} {H : Hp} : ∀ {kvs : List (L2.Key × V)} {kds : List (L2.Key × D)} {ks : List Int}, KVg L2.Key K ρ A H kvs kds → intKs kds = some ks → kvs.map (·.1) = ks.map Sum.inl
  | _, _, ks, .nil, h => by simp only [intKs, Option.some.injEq] at h; subst h; rfl
  | _, _, ks, .cons (k := k) r t, h => by
    cases k with
    | inl i =>
      simp only [intKs, Option.map_eq_some_iff] at h
      obtain ⟨ks', h, rfl⟩ := h
      rw [List.map_cons, intKs_of t h]
      rfl
    | inr s => simp [intKs] at h
theorem keysI_at {K : PySem.W.Frag} {ρ : List Addr} {A : AS} {H : Hp} {st : Sto} {v : V} {x : D} {ks : List Int} (S : SR K ρ A st H) (rv : RD K ρ A H v x) (h : keysI st x = some ks) :
    ∃ (a : Addr) (kvs : List (L2.Key × V)), v = .ref a ∧ H a = some (.dK kvs) ∧ kvs.map (·.1) = ks.map Sum.inl := by
  unfold keysI objOf at h
  split at h
  · rename_i kds e
    split at e
    · rename_i n
      obtain ⟨a, u, rfl, _, _, hh, ro⟩ := ref_at S rv e
      cases ro with
      | dk rk => exact ⟨a, _, rfl, hh, intKs_of rk h⟩
    · cases e
  · cases h
theorem perm_sorted {ks ys : List Int} (h1 : ys.Perm ks) (h2 : ys.Pairwise (· ≤ ·)) : ys = ks.mergeSort fun a b => decide (a ≤ b) := by
  refine List.Perm.eq_of_pairwise (le := fun a b => decide (a ≤ b) = true) (fun a b _ _ h1 h2 => ?_) (h2.imp fun h => decide_eq_true h) (List.pairwise_mergeSort (fun a b c h1 h2 => ?_) (fun a b => ?_) _) (h1.trans (List.mergeSort_perm _ _).symm)
  · have := of_decide_eq_true h1; have := of_decide_eq_true h2; omega
  · have := of_decide_eq_true h1; have := of_decide_eq_true h2; exact decide_eq_true (by omega)
  · rw [Bool.or_eq_true, decide_eq_true_eq, decide_eq_true_eq]; omega
theorem rps_ints {A : AS} {H : Hp} : ∀ ns : List Int, RPs A H (ns.map V.int) (ns.map .int)
  | [] => .nil
  | n :: r => .cons (.int n) (rps_ints r)
theorem e_sorted (O : Okx c C X) {x : Str} {e : Expr} {a : E} {p pos : Pos} (hx : x = ("sorted" : Str)) (g1 : glB c x = true) (hn : notStar e = true) (h : PE X e (tX false X.K C a)) :
    PE X (.Call (.Name x p) [e] [] pos) (tX true X.K C (.sorted false a)) := by
  subst hx
  refine ⟨fun pins s σ H Q I q => ?_⟩
  obtain ⟨ρ, A, env, st, d, st', er, sr, ev, post⟩ := q
  simp only [evE] at ev
  obtain ⟨⟨x, st1⟩, e1, ev⟩ := R.bind_eq ev
  obtain ⟨b, e2, ev⟩ := R.bind_eq ev
  simp only [R.ok.injEq, Prod.mk.injEq] at ev
  obtain ⟨rfl, rfl⟩ := ev
  unfold sortedOf at e2
  split at e2
  · rename_i ks hks
    split at e2
    · rename_i hz
      cases e2
      obtain ⟨_, hz⟩ := and2 hz
      have hz := of_decide_eq_true hz
      refine (pe_callB (call_sortedDI O.calm) (gl_of O g1) (O.bl _ (by decide)) (by decide +kernel) (pa_cons h pa_nil (star_cons hn)) (by decide) (by decide) (star_cons hn) (back_star (by rfl))).run pins s σ H Q I (one_tX er sr e1 fun v H1 ρ1 A1 s1 S1 r1 => ?_)
      obtain ⟨a0, kvs, rfl, hh, hk⟩ := keysI_at S1 r1 hks
      refine ⟨a0, kvs, ks, rfl, .inl hh, hk, hz, fun ys q h1 h2 hq => ?_⟩
      rw [perm_sorted h1 h2]
      exact end_list (fr := true) s1 sr S1 (rps_ints (A := A1) (H := H1) _).rd (mkLst_map (by rw [List.length_map, List.length_mergeSort]; exact Nat.le_trans (Nat.le_of_lt hz) (by decide))) hq post
    · cases e2
  rcases sorted_eq e2 with ⟨ps, k1, _, k3, rfl⟩ | ⟨b0, ds, ps, k1, k0, k2, k3, rfl⟩
  · refine (pe_callB (call_sortedDT O.calm O.un) (gl_of O g1) (O.bl _ (by decide)) (by decide +kernel) (pa_cons h pa_nil (star_cons hn)) (by decide) (by decide) (star_cons hn) (back_star (by rfl))).run pins s σ H Q I (one_tX er sr e1 fun v H1 ρ1 A1 s1 S1 r1 => ?_)
    obtain ⟨a0, kvs, rfl, hh, rfl⟩ := keysT_at S1 r1 k1
    exact ⟨a0, kvs, rfl, hh, k3, fun q ys hq hy => end_list (fr := true) s1 sr S1 (hy A1).rd (mkLst_map (by rw [List.length_mergeSort]; exact (sort_ok k3).2.2.1)) hq post⟩
  refine (pe_callB ((call_sorted O.un).or (call_sortedTp O.un)) (gl_of O g1) (O.bl _ (by decide)) (by decide +kernel) (pa_cons h pa_nil (star_cons hn)) (by decide) (by decide) (star_cons hn) (back_star (by rfl))).run pins s σ H Q I (one_tX er sr e1 fun v H1 ρ1 A1 s1 S1 r1 => ?_)
  obtain ⟨a0, vs, rfl, hh, rs⟩ := seq_at S1 r1 k1
  cases b0 with
  | true => exact .inr ⟨A1, a0, vs, ps, rfl, TupF.sqT hh, rs.plains k2, k3, fun q ys hq hy => end_list (fr := true) s1 sr S1 hy.rd (mkLst_map (by rw [List.length_mergeSort]; exact (sort_ok k3).2.2.1)) hq post⟩
  | false => exact .inl ⟨A1, a0, vs, ps, rfl, SqL.of hh, rs.plains k2, k3, fun q ys hq hy => end_list (fr := true) s1 sr S1 hy.rd (mkLst_map (by rw [List.length_mergeSort]; exact (sort_ok k3).2.2.1)) hq post⟩
theorem e_sortedR (O : Okx c C X) {x r : Str} {e : Expr} {a : E} {k : Nat} {p p2 p3 pos : Pos} (hx : x = ("sorted" : Str)) (hr : r = ("reverse" : Str)) (g1 : glB c x = true) (hn : notStar e = true) (h : PE X e (tX false X.K C a)) :
    PE X (.Call (.Name x p) [e] [⟨some r, .Constant (.bool true) k p2, p3⟩] pos) (tX true X.K C (.sorted true a)) := by
  subst hx hr
  refine ⟨fun pins s σ H Q I q => ?_⟩
  obtain ⟨ρ, A, env, st, d, st', er, sr, ev, post⟩ := q
  simp only [evE] at ev
  obtain ⟨⟨x, st1⟩, e1, ev⟩ := R.bind_eq ev
  obtain ⟨b, e2, ev⟩ := R.bind_eq ev
  simp only [R.ok.injEq, Prod.mk.injEq] at ev
  obtain ⟨rfl, rfl⟩ := ev
  unfold sortedOf at e2
  split at e2
  · simp at e2
  rcases sorted_eq e2 with ⟨ps, k1, e0, k3, rfl⟩ | ⟨b0, ds, ps, k1, k0, k2, k3, rfl⟩
  · cases e0
  refine (pe_callBK (call_sortedR O.un) (gl_of O g1) (O.bl _ (by decide)) (by decide +kernel) (pa_cons h pa_nil (star_cons hn)) (pk_cons pe_bl pk_nil) (by decide) (by decide) (by rw [star_cons hn]; rfl) (back_star (by simp [hn]))).run pins s σ H Q I (one_tX er sr e1 fun v H1 ρ1 A1 s1 S1 r1 => ?_)
  obtain ⟨a0, vs, rfl, hh, rs⟩ := seq_at S1 r1 k1
  obtain rfl : b0 = false := by simpa using k0
  exact ⟨A1, a0, vs, ps, rfl, rfl, SqL.of hh, rs.plains k2, k3, fun q ys hq hy => end_list (fr := true) s1 sr S1 hy.rd (mkLst_map (by rw [List.length_mergeSort]; exact (sort_ok k3).2.2.1)) hq post⟩
end
end Vi
set_option Elab.async false
set_option linter.all false
set_option maxRecDepth 100000
set_option maxHeartbeats 4000000
set_option autoImplicit false
/-! Vl: methods. -/
namespace Vi
open PySem L2 PySem.Spec PyProof.Rows
section
variable {C : Cfg} {X : Cx} {c : CC}
def TyB (b : Bool) (x : V) (H : Hp) : Prop := ∃ a vs, x = .ref a ∧ b = false ∧ SqB b H a vs
def tyN (b : Bool) : String := if b then "tuple" else "list"
theorem tyB_is {pins : List (Addr × Obj)} {σ : L2.St} {H : Hp} {s : Shared} {b : Bool} {x : V} {v : Value} (I : Inv X pins σ H s) (r : RelV x v) (t : TyB b x H) :
    s.TypeIs v (tyN b) ∧ ∀ a, v = .ref a → ∃ ob, s.heap.get? a = some ob ∧ ob.dict = none := by
  obtain ⟨a, vs, rfl, hbf, h⟩ := t
  subst hbf
  cases r
  obtain ⟨its, rv, ⟨o, n, ho, hc, hdn, hd⟩, hz⟩ := I.list (SqL.of h)
  exact ⟨⟨o, ho, hc⟩, fun a' e' => by cases e'; exact ⟨o, ho, hdn⟩⟩
def tMt (b : Bool) (r : V → List V → Hp → VK → Prop) (to : TE) (t : TA) : TE := fun σ H Q => to σ H fun x H1 => TyB b x H1 ∧ t σ H1 fun xs H2 => r x xs H2 Q
theorem base_of {o : Expr} {name : Str} {env : Env} (h : notCall o = true) : attributeBase o name env (eval o env) = eval o env := by
  cases o <;> first | rfl | (simp [notCall] at h)
theorem all_back {es : List Expr} {env : Env} {pos : Pos} (h : es.all notStar = true) : (backTo pos (starEach es env)).all (fun x => !x.1) = true := by
  induction es with
  | nil => rfl
  | cons e es ih =>
    rw [List.all_cons] at h
    obtain ⟨h1, h2⟩ := and2 h
    rw [star_cons h1]
    show (true && (backTo pos (starEach es env)).all (fun x => !x.1)) = true
    rw [ih h2]; rfl
theorem pe_mt {b : Bool} {o e : Expr} {es : List Expr} {to : TE} {t : TA} {name : Str} {apos cpos : Pos} {id : String} {r : V → List V → Hp → VK → Prop} (pa : PlainAttrs (tyN b)) (slot : Slot (tyN b) name id) (hty : typeOf (.builtin id) = pure (.type "method_descriptor")) (hm : MtR X id r)
    (ho : PE X o to) (ha : PA X (e :: es) t) (hc : notCall o = true) (hl : (apos.endLine == cpos.line) = true) (hn : (e :: es).all notStar = true) (hs : (e :: es).length < 20) : PE X (.Call (.Attribute o name apos) (e :: es) [] cpos) (tMt b r to t) := by
  refine ⟨fun pins s σ H Q I h => ?_⟩
  refine wpAny_Call_method_late (base_of hc) ?_ hl rfl (thn (ho.run pins s σ H _ I h) fun v s1 ⟨x, H1, I1, r1, ty, q1⟩ => ?_)
  · rw [all_back hn]
    show (true && true && decide ((e :: es).length + 0 + 0 < 30)) = true
    rw [decide_eq_true (by omega)]; rfl
  · obtain ⟨h1, h2⟩ := tyB_is I1 r1 ty
    refine ⟨_, id, pa, slot, hty, h1, h2, ?_⟩
    have hA := ha.run cpos pins s1 σ H1 _ I1 q1
    refine Calls.callWith_builtin (back_star hn) ?_
    rw [List.all_cons] at hn
    obtain ⟨n1, n2⟩ := and2 hn
    rw [star_cons n1] at hA ⊢
    refine Calls.evalArgs_plain ?_
    exact thn hA fun us s2 ⟨vs, H2, I2, r2, q2⟩ => hm pins s2 σ H2 x vs v us Q I2 r1 r2 q2
theorem pe_mt0 {b : Bool} {o : Expr} {to : TE} {name : Str} {apos cpos : Pos} {id : String} {r : V → List V → Hp → VK → Prop} (pa : PlainAttrs (tyN b)) (slot : Slot (tyN b) name id) (hty : typeOf (.builtin id) = pure (.type "method_descriptor")) (hm : MtR X id r)
    (ho : PE X o to) (hc : notCall o = true) (hl : (apos.endLine == cpos.line) = true) : PE X (.Call (.Attribute o name apos) [] [] cpos) (tMt b r to tNil) := by
  refine ⟨fun pins s σ H Q I h => ?_⟩
  refine wpAny_Call_method0_late (base_of hc) hl (thn (ho.run pins s σ H _ I h) fun v s1 ⟨x, H1, I1, r1, ty, q1⟩ => ?_)
  obtain ⟨h1, h2⟩ := tyB_is I1 r1 ty
  exact ⟨_, id, pa, slot, hty, h1, h2, Calls.callWith_builtin rfl (PySem.evalArgs_none (hm pins s1 σ H1 x [] v [] Q I1 r1 .nil q1))⟩
/-! ### which -/
def MtEnd (K : PySem.W.Frag) (ρ : List Addr) (A : AS) (H : Hp) (st : Sto) (d : D) (Q : VK) : Prop := ∀ v' H' ρ' A', Stp ρ A H ρ' A' H' → SR K ρ' A' st H' → RD K ρ' A' H' v' d → Q v' H'
def MtRl (K : PySem.W.Frag) (m : Mt) (r : V → List V → Hp → VK → Prop) : Prop := ∀ (ρ : List Addr) (A : AS) (H : Hp) (st st' : Sto) (x d : D) (ds : List D) (v : V) (vs : List V) (Q : VK), SR K ρ A st H → RD K ρ A H v x → RDs K ρ A H vs ds → meth st m x ds = .ok (d, st') →
  MtEnd K ρ A H st' d Q → r v vs H Q
theorem ints_of {A : AS} {H : Hp} {vs : List V} {us : List Value} {xs : List PyData} {ns : List Int} (r : Vals vs us) (q : RPs A H vs xs) (h : intsOf xs = some ns) : IntsAre us ns := by
  induction r generalizing xs ns with
  | nil =>
    cases q
    simp only [intsOf, Option.some.injEq] at h
    subst h; exact .nil
  | cons a _ ih =>
    cases q with
    | cons p t =>
      cases p with
      | int i =>
        simp only [intsOf, Option.map_eq_some_iff] at h
        obtain ⟨ns', h, rfl⟩ := h
        obtain ⟨k, rfl⟩ := a
        exact .cons _ _ (ih t h)
      | _ => simp [intsOf] at h
theorem mt_rule (m : Mt) : ∃ (id : String) (r : V → List V → Hp → VK → Prop), PlainAttrs (tyN (mtTup m)) ∧ Slot (tyN (mtTup m)) (mtName m) id ∧ typeOf (.builtin id) = pure (.type "method_descriptor") ∧ MtR X id r ∧ MtRl X.K m r := by
  cases m with
  | count =>
    refine ⟨"list.count", _, PySem.F.plainAttrs_list, PySem.F.slot_list_count, PySem.F.type_list_count, mt_lcount, fun ρ A H st st' x d ds v vs Q S rv rs h e => ?_⟩
    unfold meth at h
    split at h
    all_goals (first | (exfalso; cases h; done) | skip)
    all_goals (first | contradiction | skip)
    split at h
    · rename_i ns hns
      cases h
      obtain ⟨a, rfl, hh⟩ := nsOf_at S rv hns
      obtain ⟨w, rfl, rw'⟩ := rs.one
      cases rw'.int_eq
      exact ⟨a, ns, _, rfl, rfl, SqL.of hh, e _ _ ρ A .refl S (.v (.int _))⟩
    · cases h
  | append =>
    refine ⟨"list.append", _, PySem.F.plainAttrs_list, PySem.F.slot_list_append, PySem.F.type_list_append, mt_append, fun ρ A H st st' x d ds v vs Q S rv rs h e => ?_⟩
    unfold meth at h
    split at h
    all_goals (first | (exfalso; cases h; done) | skip)
    all_goals (first | contradiction | skip)
    split at h
    · rename_i xs hs
      split at h
      · rename_i hz
        cases h
        obtain ⟨a, u, rfl, h1, h2, h3, h4⟩ := ref_at S rv hs
        obtain ⟨w, rfl, rw'⟩ := rs.one
        cases h4 with
        | lst h4 =>
          rename_i ws
          have s' := Stp.write S (u := .lst (ws ++ [w])) h1 (ns_lst h3)
          refine ⟨a, ws, w, rfl, rfl, h3, by rw [h4.length]; exact hz, e _ _ ρ A s' (S.write h1 (ns_lst h3) (.lst ?_)) (.v .non)⟩
          exact (h4.mono s').append (.cons (rw'.mono s') .nil)
      · cases h
    · cases h
  | pop =>
    refine ⟨"list.pop", _, PySem.F.plainAttrs_list, PySem.F.slot_list_pop, PySem.F.type_list_pop, mt_pop, fun ρ A H st st' x d ds v vs Q S rv rs h e => ?_⟩
    unfold meth at h
    split at h
    all_goals (first | (exfalso; cases h; done) | skip)
    all_goals (first | contradiction | skip)
    split at h
    · rename_i xs hs
      split at h
      · rename_i y hy
        cases h
        obtain ⟨a, u, rfl, h1, h2, h3, h4⟩ := ref_at S rv hs
        cases rs
        cases h4 with
        | lst h4 =>
          rename_i ws
          have s' := Stp.write S (u := .lst ws.dropLast) h1 (ns_lst h3)
          rw [List.getLast?_eq_getElem?] at hy
          obtain ⟨w, hw, rw'⟩ := h4.get hy
          rw [← h4.length] at hw
          exact ⟨a, ws, w, rfl, rfl, h3, hw, e _ _ ρ A s' (S.write h1 (ns_lst h3) (.lst ((h4.dropLast).mono s'))) (rw'.mono s')⟩
      · cases h
    · cases h
  | popAt =>
    refine ⟨"list.pop", _, PySem.F.plainAttrs_list, PySem.F.slot_list_pop, PySem.F.type_list_pop, mt_popAt, fun ρ A H st st' x d ds v vs Q S rv rs h e => ?_⟩
    unfold meth at h
    split at h
    all_goals (first | (exfalso; cases h; done) | skip)
    all_goals (first | contradiction | skip)
    split at h
    · rename_i i _ _ xs hs
      split at h
      · rename_i hz
        split at h
        · rename_i y hy
          cases h
          obtain ⟨z1, z2⟩ := and2 hz
          have z1 := of_decide_eq_true z1
          have z2 := of_decide_eq_true z2
          obtain ⟨a, u, rfl, h1, h2, h3, h4⟩ := ref_at S rv hs
          obtain ⟨w0, rfl, rw0⟩ := rs.one
          cases rw0.int_eq
          cases h4 with
          | lst h4 =>
            rename_i ws
            have s' := Stp.write S (u := .lst (ws.eraseIdx i.toNat)) h1 (ns_lst h3)
            obtain ⟨w, hw, rw'⟩ := h4.get hy
            have hlt : i.toNat < ws.length := (List.getElem?_eq_some_iff.mp hw).1
            refine ⟨a, ws, i, i.toNat, w, rfl, rfl, h3, by omega, by omega, ?_, hw, e _ _ ρ A s' (S.write h1 (ns_lst h3) (.lst ((h4.eraseIdx _).mono s'))) (rw'.mono s')⟩
            unfold seqIndex?
            have e0 : (if i < 0 then i + (ws.length : Int) else i) = i := if_neg (by omega)
            simp only [e0]
            rw [decide_eq_true z1, decide_eq_true (show i < (ws.length : Int) by omega)]
            rfl
        · cases h
      · cases h
    · cases h
theorem e_mt {m : Mt} {o : Expr} {es : List Expr} {a : E} {as : List E} {nm : Str} {apos cpos : Pos} (hm : nm = mtName m) (hc : notCall o = true) (hl : (apos.endLine == cpos.line) = true) (hn : es.all notStar = true) (hs : es.length < 20) (he : es = [] → as = [])
    (h1 : PE X o (tX false X.K C a)) (h2 : PA X es (tXs X.K C as)) : PE X (.Call (.Attribute o nm apos) es [] cpos) (tX false X.K C (.mt m a as)) := by
  subst hm
  obtain ⟨id, r, k1, k2, k3, k4, k5⟩ := mt_rule (X := X) m
  have ty : ∀ {ρ : List Addr} {A : AS} {H : Hp} {st : Sto} {v : V} {x : D} {b : Bool} {ds : List D}, SR X.K ρ A st H → RD X.K ρ A H v x → seqOf st x = some (b, ds) → b = false → TyB b v H := fun S r h hb => by
    obtain ⟨a, vs, rfl, hh, _⟩ := seq_at S r h
    exact ⟨a, vs, rfl, hb, hh⟩
  cases es with
  | nil =>
    cases he rfl
    refine ⟨fun pins s σ H Q I q => ?_⟩
    obtain ⟨ρ, A, env, st, d, st', er, sr, ev, post⟩ := q
    simp only [evE, evEs, R.bind_ok] at ev
    obtain ⟨⟨x, st1⟩, e1, ev⟩ := R.bind_eq ev
    obtain ⟨⟨b, ds⟩, e2, ev⟩ := R.bind_eq ev
    dsimp only at ev
    split at ev
    · rename_i hb
      have hb := beqt hb
      subst hb
      refine (pe_mt0 (b := mtTup m) k1 k2 k3 k4 h1 hc hl).run pins s σ H Q I (one_tX er sr e1 fun v H1 ρ1 A1 s1 S1 r1 => ⟨ty S1 r1 (R.of_eq e2) rfl, ?_⟩)
      exact k5 ρ1 A1 H1 st1 st' x d [] v [] Q S1 r1 .nil ev fun v' H' ρ' A' s' S' r' => post v' H' ρ' A' (s1.trans s') S' r'
    · cases ev
  | cons e es =>
    refine ⟨fun pins s σ H Q I q => ?_⟩
    obtain ⟨ρ, A, env, st, d, st', er, sr, ev, post⟩ := q
    simp only [evE] at ev
    obtain ⟨⟨x, st1⟩, e1, ev⟩ := R.bind_eq ev
    obtain ⟨⟨b, ds⟩, e2, ev⟩ := R.bind_eq ev
    dsimp only at ev
    split at ev
    · rename_i hb
      have hb := beqt hb
      subst hb
      obtain ⟨⟨ds2, st2⟩, e3, ev⟩ := R.bind_eq ev
      refine (pe_mt (b := mtTup m) k1 k2 k3 k4 h1 h2 hc hl hn hs).run pins s σ H Q I (one_tX er sr e1 fun v H1 ρ1 A1 s1 S1 r1 => ⟨ty S1 r1 (R.of_eq e2) rfl, ?_⟩)
      refine ⟨ρ1, A1, env, st1, ds2, st2, er.mono s1, S1, e3, fun vs H2 ρ2 A2 s2 S2 r2 => ?_⟩
      exact k5 ρ2 A2 H2 st2 st' x d ds2 v vs Q S2 (r1.mono s2) r2 ev fun v' H' ρ' A' s' S' r' => post v' H' ρ' A' ((s1.trans s2).trans s') S' r'
    · cases ev
end
end Vi
set_option Elab.async false
set_option linter.all false
set_option maxRecDepth 100000
set_option maxHeartbeats 4000000
set_option autoImplicit false
/-! Vm: enumerate of a tuple. -/
namespace Vi
open PySem L2 PySem.Spec PyProof.Rows
theorem meets_enumerate_newT (l : Addr) (items : Array Value) (n : Nat) (dct : Option Addr) (sl : Array (Option Value)) :
    Meets (Builtin.«enumerate.__new__» ⟨[.type "enumerate", .ref l], []⟩) (fun _ R s => s.heap.get? l = some { cls := .type "tuple", dict := dct, data := .seq items n, slots := sl } ∧
      R (.ok (.ret (.ref (s.heap.push { cls := .type "tuple_iterator", data := .fields #[.ref l, .int 0 0] }).objs.size)))
        { s with heap := (s.heap.push { cls := .type "tuple_iterator", data := .fields #[.ref l, .int 0 0] }).push { cls := .type "enumerate", data := .fields #[.none, .bool false, .ref s.heap.objs.size, rawInt 0, .none, .none] } }) :=
  .of_wp fun prog w A R s h => by
    obtain ⟨hp, g, d, tk, os⟩ := s; obtain ⟨hl, h⟩ := h
    have hsub := sub_enumerate
    have hL : Heap.IsTuple (Shared.heap ⟨hp, g, d, tk, os⟩) l items := ⟨_, hl, rfl, n, rfl⟩
    wp_walk using wpAny_loadPart' hl
    refine wpAny_stack_any fun st => wpAny_pure ?_
    split
    · rename_i c _ _ _ _ _
      cases (c == Value.type "enumerate")
      · wp_walk using wpAny_loadPart' hl, wpAny_pyIter_tuple hL
        exact ⟨_, rfl, h⟩
      · wp_walk using wpAny_loadPart' hl, wpAny_pyIter_tuple hL
        exact ⟨_, rfl, h⟩
    · wp_walk using wpAny_loadPart' hl, wpAny_pyIter_tuple hL
      exact ⟨_, rfl, h⟩
section
variable {prog : Program} {w : World} {A : Around} {E : Value → Shared → Prop} {s : Shared}
theorem call_enumerate_tuple {l : Addr} {items : Array Value} {Q : Value → Shared → Prop} (hL : s.heap.IsTuple l items)
    (h : ∀ h', IsEnum h' (s.heap.objs.size + 1) s.heap.objs.size 0 .none → h'.IsTupleIter s.heap.objs.size l 0 → h'.objs.size = s.heap.objs.size + 2 →
      (∀ b o, s.heap.get? b = some o → h'.get? b = some o) → Q (.ref (s.heap.objs.size + 1)) { s with heap := h' }) :
    wpAny (model prog w) A (call (.type "enumerate") [.ref l]) Q E s := by
  obtain ⟨⟨c, dct, dt, sl⟩, hl, hc, n, hd⟩ := hL
  replace hc : c = .type "tuple" := hc
  replace hd : dt = .seq items n := hd
  subst hc hd
  refine callType_new F.called_enumerate (by decide) (F.typeCall_enumerate_1 _) (F.newCall_enumerate_1 _) (fun obj => F.args_object_init_2 obj _) F.entry_enumerate_new
    (meets_enumerate_newT l items n dct sl) ⟨hl, ?_⟩
  have hz : (s.heap.push { cls := .type "tuple_iterator", data := .fields #[.ref l, .int 0 0] }).objs.size = s.heap.objs.size + 1 := Heap.size_push ..
  show _ ∧ _
  rw [hz]
  have he : IsEnum ((s.heap.push { cls := .type "tuple_iterator", data := .fields #[.ref l, .int 0 0] }).push
      { cls := .type "enumerate", data := .fields #[.none, .bool false, .ref s.heap.objs.size, rawInt 0, .none, .none] }) (s.heap.objs.size + 1) s.heap.objs.size 0 .none := by
    have := Heap.get?_push_size (s.heap.push { cls := .type "tuple_iterator", data := .fields #[.ref l, .int 0 0] })
      (o := { cls := .type "enumerate", data := .fields #[.none, .bool false, .ref s.heap.objs.size, rawInt 0, .none, .none] }) rfl
    rw [hz] at this; exact this
  refine ⟨⟨_, he, rfl⟩, h _ he ⟨_, Heap.get?_push_of_some _ (Heap.get?_push_size _ rfl), rfl, rfl⟩ (by rw [Heap.size_push, hz]) fun b o x => Heap.get?_push_of_some _ (Heap.get?_push_of_some _ x)⟩
end
/-- the tuple at a, each item in a new pair -/
def IteT (K : PySem.W.Frag) (a : Addr) : L2.It :=
  ⟨fun i H => ∃ (xs : List V) (x : V), SqT K H a xs ∧ xs[i]? = some x, fun i H v H' => ∃ T x, v = .ref T ∧ H T = none ∧ H' = upd H T (.tup [.int (i : Nat), x]) ∧ ∀ xs, SqT K H a xs → xs[i]? = some x, fun i H => ∃ xs : List V, SqT K H a xs ∧ xs.length ≤ i⟩
theorem turn_enumT {P : Program} {w : World} {K : PySem.W.Frag} {elts : List Expr} {kk : Nat} {tpos : Pos} (a e it : Addr) (hea : e ≠ a) (hia : a ≠ it) :
    Turn P w K (.Tuple elts kk tpos) (IteT K a) [e, it] e (fun i h => (∃ old, IsEnum h e it ((i : Nat) : Int) old) ∧ h.IsTupleIter it a i ∧ e ≠ it) where
  mem := by simp
  obj := fun i h st b hb => by
    obtain ⟨⟨old, he⟩, ⟨o, ho, hc, hd⟩, _⟩ := st
    have e' : b = e ∨ b = it := by simpa using hb
    rcases e' with z | z
    · rw [z]; exact ⟨_, he, fun v q => nomatch q⟩
    · rw [z]; exact ⟨o, ho, fun v q => by rw [hd] at q; cases q⟩
  keep := fun i h h' st k => let ⟨⟨old, he⟩, hi, hne⟩ := st; ⟨⟨old, k e (by simp) _ he⟩, hi.at fun o q => k it (by simp) o q, hne⟩
  item := by
    intro X hP hw hK hc i pins s σ H E I hf st hg
    subst hP hw hK
    obtain ⟨⟨old, he⟩, hit, hne⟩ := st
    obtain ⟨xs, x, hq, hx⟩ := hg
    obtain ⟨its, rv, p, hz⟩ := I.tuple hq
    obtain ⟨u, hu, ru⟩ := rv.get hx
    have hel : e < s.heap.objs.size := Heap.lt_size he
    have hil : it < s.heap.objs.size := by obtain ⟨_, q, _⟩ := hit; exact Heap.lt_size q
    have hlt : i < its.toArray.size := by
      rw [List.size_toArray]
      exact (List.getElem?_eq_some_iff.mp hu).1
    refine wpAny_pyNext_enum_itemD (PySem.Draws.tuple (show X.A.in1.handled = none from I.ok.hd hc) it a hia its.toArray) he ⟨hit, p⟩ hlt hne (by simp [hne, hea]) fun x' h' tk hx' ho hst' hT hsz hk => ?_
    have ex : x' = u := by
      have h1 : its[i]? = some x' := by simpa using hx'
      rw [hu] at h1; cases h1; rfl
    subst ex
    obtain ⟨hit', _⟩ := hst'
    refine ⟨_, rfl, wpAny_letOwnedTupleGo_enum (s := { s with heap := h', toks := tk + 1 }) ho fun h'' he' sb => ?_⟩
    have hT2 : h''.get? s.heap.objs.size = some { cls := .type "tuple", data := .seq #[.int i tk, x'] } := (sb.2 _ (Nat.ne_of_gt hel)).trans hT
    have new : ObjOk X.prog X.w (upd H s.heap.objs.size (.tup [.int (i : Nat), x])) h'' s.heap.objs.size (.tup [.int (i : Nat), x]) :=
      ⟨by show 2 ≤ sizeLine; decide, [.int i tk, x'], .cons ⟨_, rfl⟩ (.cons ru .nil), ⟨_, hT2, rfl, _, rfl⟩⟩
    have I1 : Inv X pins σ (upd H s.heap.objs.size (.tup [.int (i : Nat), x])) { s with heap := h'', toks := tk + 1 } :=
      I.turnedNew (ch := [e, it]) (fun b ob hb q => (sb.2 b (fun z => hb (by simp [z]))).trans (hk b ob (fun z => hb (by simp [z])) (fun z => hb (by simp [z])) q)) hf (Nat.le_refl _) new
    refine ⟨.ref s.heap.objs.size, _, I1, rfl, ⟨_, x, rfl, I.hok.fresh (Nat.le_refl _), rfl, fun ys hy => by rw [I.tuple_inj hy hq]; exact hx⟩, ⟨⟨x', ?_⟩, hit'.at fun o q => (sb.2 it (Ne.symm hne)).trans q, hne⟩, fun b hb => ?_⟩
    · have e1 : ((i + 1 : Nat) : Int) = (i : Int) + 1 := by omega
      rw [e1]; exact he'
    · have hb' : b < s.heap.objs.size := by
        have e' : b = e ∨ b = it := by simpa using hb
        rcases e' with z | z
        · rw [z]; exact hel
        · rw [z]; exact hil
      rw [upd_ne (Nat.ne_of_lt hb')]
      exact (hf b hb).1
  done := by
    intro X hP hw hK hc i pins s σ H E I hf st hg
    subst hP hw hK
    obtain ⟨⟨old, he⟩, hit, hne⟩ := st
    obtain ⟨xs, hq, hx⟩ := hg
    obtain ⟨its, rv, p, hz⟩ := I.tuple hq
    obtain ⟨f0, f1, f2, f3, f4, f5⟩ := hf it (by simp)
    have hl := rv.length
    have hT : s.TypeIs (.ref e) "enumerate" := ⟨_, he, rfl⟩
    unfold pyNext
    refine wpAny_bind (wpAny_attempt (wpAny_callSpecial?_slot (name := Str.ofString "__next__") hT PySem.F.slot_enumerate_next
      (wpAny_call_entry PySem.F.slot_enumerate_next hT PySem.F.entry_enumerate_next ?_ (PySem.F.args_enumerate_next_1 _))))
    show wpAny _ _ (field (.ref e) 2 >>= _) _ _ _
    refine wpAny_bind (wpAny_field he rfl (x := .ref it) rfl ?_)
    refine wpAny_bind (wpAny_nextOf_tuple_end (show X.A.in1.handled = none from I.ok.hd hc) hit p (by simp; omega) fun h' x he' hx' => ?_)
    obtain ⟨o, ho, hc'⟩ := hx'
    refine wpAny_bind (wpAny_isInstance (T := "StopIteration") (b := true) ⟨o, ho, hc'⟩ isSubtype_stop ?_)
    exact wpAny_pure ⟨rfl, I.turned (t' := s.toks) (fun b o hb q => he' b o hb q) f0 f1 f3 f4 f5⟩
  self := fun A i s Q E st h => let ⟨⟨_, he⟩, _⟩ := st; wpAny_pyIter_enum he h
def iEnumT (K : PySem.W.Frag) (ta : TA) : TI := fun σ H R => ta σ H fun vs H1 => ∃ a xs, vs = [.ref a] ∧ SqT K H1 a xs ∧ R (IteT K a) H1
theorem pi_enumT {X : Cx} {e : Expr} {ta : TA} {p pos tpos : Pos} {elts : List Expr} {kk : Nat} (hg : Gl X "enumerate") (hm : X.mg "enumerate" = none) (ha : PA X [e] ta) (hs : starEach [e] X.env = [(false, eval e X.env)] := by rfl) :
    PI X (.Tuple elts kk tpos) (.Call (.Name "enumerate" p) [e] [] pos) (iEnumT X.K ta) := by
  refine ⟨fun pins s σ H R I h => ?_⟩
  refine Call_ (ld_blt I hg hm boot_enumerate (PyProof.Rows.callWith_type1 (thn (ha.run pos pins s σ H _ I h) fun us s1 ⟨vs, H1, I1, r1, q1⟩ => ?_) hs rfl))
  obtain ⟨a, xs, ex, hq, q⟩ := q1
  subst ex
  cases r1 with
  | cons r rr =>
    cases rr
    cases r
    obtain ⟨its, rv, p', hz⟩ := I1.tuple hq
    have hal : a < s1.heap.objs.size := by obtain ⟨_, q, _⟩ := p'; exact Heap.lt_size q
    refine call_enumerate_tuple p' fun h' he hit hsz hk => wpAny_pyIter_enum he ?_
    have I2 : Inv X pins σ H1 { s1 with heap := h' } := I1.kept (t' := s1.toks) hk
    refine ⟨s1.heap.objs.size + 1, [s1.heap.objs.size + 1, s1.heap.objs.size], _, _, H1, rfl, I2, turn_enumT a (s1.heap.objs.size + 1) s1.heap.objs.size (Nat.ne_of_gt (Nat.lt_succ_of_lt hal)) (Nat.ne_of_lt hal), ⟨⟨.none, he⟩, hit, Nat.succ_ne_self _⟩, fun b hb => ?_, q⟩
    have e' : b = s1.heap.objs.size + 1 ∨ b = s1.heap.objs.size := by simpa using hb
    have hle : s1.heap.objs.size ≤ b := by
      rcases e' with z | z
      · rw [z]; exact Nat.le_add_right _ _
      · rw [z]; exact Nat.le_refl _
    exact I1.fpOk hle (I1.hok.fresh hle)
end Vi
set_option Elab.async false
set_option linter.all false
set_option maxRecDepth 100000
set_option maxHeartbeats 4000000
set_option autoImplicit false
/-! Vn: targets. -/
namespace Vi
open PySem L2 PySem.Spec PyProof.Rows
def RDw (K : PySem.W.Frag) (ρ : List Addr) (A : AS) (H : Hp) (v : V) (d : D) : Prop := RD K ρ A H v d ∨ ∃ a vs ps, v = .ref a ∧ d = .v (.tuple ps) ∧ SqT K H a vs ∧ RPs A H vs ps
def isTupT : T → Bool
  | .tup _ => true
  | _ => false
def RDt (t : T) (K : PySem.W.Frag) (ρ : List Addr) (A : AS) (H : Hp) (v : V) (d : D) : Prop := if isTupT t then RDw K ρ A H v d else RD K ρ A H v d
theorem RDt.of {t : T} {K : PySem.W.Frag} {ρ : List Addr} {A : AS} {H : Hp} {v : V} {d : D} (r : RD K ρ A H v d) : RDt t K ρ A H v d := by
  unfold RDt
  split
  · exact .inl r
  · exact r
def Frm (is : List Nat) (σ σ' : L2.St) : Prop := σ'.length = σ.length ∧ ∀ i, i ∉ is → σ'[i]? = σ[i]?
theorem Frm.refl (is : List Nat) (σ : L2.St) : Frm is σ σ := ⟨rfl, fun _ _ => rfl⟩
theorem Frm.trans {is js : List Nat} {σ σ1 σ2 : L2.St} (a : Frm is σ σ1) (b : Frm js σ1 σ2) : Frm (is ++ js) σ σ2 :=
  ⟨b.1.trans a.1, fun i h => (b.2 i fun z => h (List.mem_append_right _ z)).trans (a.2 i fun z => h (List.mem_append_left _ z))⟩
theorem wipe_get : ∀ (vs : List Nat) (σ : L2.St) (i : Nat), (wipe σ vs)[i]? = if i ∈ vs then (σ[i]?).map (fun _ => none) else σ[i]?
  | [], σ, i => by simp [wipe]
  | v :: vs, σ, i => by
    show ((wipe σ vs).set v none)[i]? = _
    rw [List.getElem?_set]
    by_cases hv : v = i
    · subst hv
      rw [if_pos rfl]
      by_cases hl : v < (wipe σ vs).length
      · rw [if_pos hl]
        rw [wipe_length] at hl
        simp [hl]
      · rw [if_neg hl]
        rw [wipe_length] at hl
        have e : σ[v]? = none := List.getElem?_eq_none (by omega)
        simp [e]
    · rw [if_neg hv, wipe_get vs σ i]
      have : (i ∈ v :: vs) ↔ i ∈ vs := by
        rw [List.mem_cons]
        exact ⟨fun h => h.elim (fun z => absurd z.symm hv) id, .inr⟩
      by_cases hm : i ∈ vs
      · rw [if_pos hm, if_pos (this.mpr hm)]
      · rw [if_neg hm, if_neg fun z => hm (this.mp z)]
theorem Frm.wipe {is own : List Nat} {σ σ' : L2.St} (f : Frm is (L2.wipe σ own) σ') (h : ∀ i ∈ is, i ∈ own) : L2.wipe σ' own = L2.wipe σ own := by
  apply List.ext_getElem?
  intro i
  rw [wipe_get, wipe_get]
  have hl := f.1
  rw [wipe_length] at hl
  by_cases hm : i ∈ own
  · rw [if_pos hm, if_pos hm]
    by_cases hi : i < σ.length
    · rw [List.getElem?_eq_getElem hi, List.getElem?_eq_getElem (by omega)]; try rfl
    · rw [List.getElem?_eq_none (by omega), List.getElem?_eq_none (by omega)]; try rfl
  · rw [if_neg hm, if_neg hm, f.2 i fun z => hm (h i z), wipe_get, if_neg hm]
section
variable {C : Cfg} {X : Cx} {c : CC}
def gX (K : PySem.W.Frag) (C : Cfg) (t : T) : TG := fun v σ H Q => ∃ (ρ : List Addr) (A : AS) (env : En) (st : Sto) (d : D) (env' : En) (st' : Sto), ER K ρ A H σ env ∧ SR K ρ A st H ∧ RDt t K ρ A H v d ∧ asT C t d env st = .ok (env', st') ∧
  ∀ σ' H' ρ' A', Stp ρ A H ρ' A' H' → SR K ρ' A' st' H' → ER K ρ' A' H' σ' env' → Frm (tNames t) σ σ' → Q σ' H'
def gXs (K : PySem.W.Frag) (C : Cfg) (ts : List T) : TGs := fun vs σ H Q => ∃ (ρ : List Addr) (A : AS) (env : En) (st : Sto) (ds : List D) (env' : En) (st' : Sto), ER K ρ A H σ env ∧ SR K ρ A st H ∧ RDs K ρ A H vs ds ∧ asTs C ts ds env st = .ok (env', st') ∧
  ∀ σ' H' ρ' A', Stp ρ A H ρ' A' H' → SR K ρ' A' st' H' → ER K ρ' A' H' σ' env' → Frm (tsNames ts) σ σ' → Q σ' H'
theorem g_name (O : Okx c C X) {x : Str} {i : Nat} {pos : Pos} (h1 : c.N[i]? = some x) (h2 : locB c x = true) : PG X (.Name x pos) (gX X.K C (.name i)) := by
  obtain ⟨hl, hf⟩ := O.st x h2
  refine ⟨fun pins s σ H v u Q I r q => ?_⟩
  obtain ⟨ρ, A, env, st, d, env', st', er, sr, rd, ev, post⟩ := q
  simp only [asT] at ev
  split at ev
  · rename_i hi
    simp only [R.ok.injEq, Prod.mk.injEq] at ev
    obtain ⟨rfl, rfl⟩ := ev
    have rd : RD X.K ρ A H v d := rd
    refine (pg_name (by rw [O.N]; exact O.nd) (by rw [O.N]; exact h1) hl hf).run pins s σ H v u Q I r (post _ H ρ A .refl sr (er.set rd i) ⟨by simp, fun j hj => ?_⟩)
    rw [List.getElem?_set_ne]
    intro z
    exact hj (by simp [tNames, z])
  · cases ev
theorem gs_nil : PGs X [] (gXs X.K C []) := by
  refine ⟨fun pins s σ H vs us Q I r q => ?_⟩
  obtain ⟨ρ, A, env, st, ds, env', st', er, sr, rd, ev, post⟩ := q
  cases ds with
  | nil =>
    cases rd
    simp only [asTs, R.ok.injEq, Prod.mk.injEq] at ev
    obtain ⟨rfl, rfl⟩ := ev
    exact pgs_nil.run pins s σ H [] us Q I r ⟨rfl, post σ H ρ A .refl sr er (.refl _ _)⟩
  | cons _ _ => simp [asTs] at ev
theorem asg_cons {e : Expr} {es : List Expr} {env : Env} (h : notStar e = true) : assignEach (e :: es) env = (false, assign e env) :: assignEach es env := by
  cases e <;> first | rfl | (simp [notStar] at h)
theorem gs_cons {e : Expr} {es : List Expr} {t : T} {ts : List T} (h1 : PG X e (gX X.K C t)) (h2 : PGs X es (gXs X.K C ts)) (hn : notStar e = true) : PGs X (e :: es) (gXs X.K C (t :: ts)) := by
  refine ⟨fun pins s σ H vs us Q I r q => ?_⟩
  obtain ⟨ρ, A, env, st, ds, env', st', er, sr, rd, ev, post⟩ := q
  cases ds with
  | nil => simp [asTs] at ev
  | cons d ds =>
    simp only [asTs] at ev
    obtain ⟨⟨env1, st1⟩, e1, ev⟩ := R.bind_eq ev
    cases rd with
    | cons rd rs =>
      refine (pgs_cons h1 h2 (by rw [asg_cons hn]; rfl)).run pins s σ H _ us Q I r ⟨_, _, rfl, ρ, A, env, st, d, env1, st1, er, sr, .of rd, e1, fun σ1 H1 ρ1 A1 s1 S1 E1 F1 => ?_⟩
      exact ⟨ρ1, A1, env1, st1, ds, env', st', E1, S1, rs.mono s1, ev, fun σ2 H2 ρ2 A2 s2 S2 E2 F2 => post σ2 H2 ρ2 A2 (s1.trans s2) S2 E2 (F1.trans F2)⟩
theorem asg_none {es : List Expr} {env : Env} (h : es.all notStar = true) : (assignEach es env).length = es.length ∧ (assignEach es env).findIdx? (·.1) = none := by
  induction es with
  | nil => exact ⟨rfl, rfl⟩
  | cons e es ih =>
    rw [List.all_cons] at h
    obtain ⟨h1, h2⟩ := and2 h
    obtain ⟨k1, k2⟩ := ih h2
    rw [asg_cons h1]
    refine ⟨by simp [k1], ?_⟩
    rw [List.findIdx?_cons]
    simp [k2]
theorem g_tup (O : Okx c C X) {es : List Expr} {ts : List T} {k : Nat} {pos : Pos} (h : PGs X es (gXs X.K C ts)) (hl : es.length = ts.length) (hn : es.all notStar = true) : PG X (.Tuple es k pos) (gX X.K C (.tup ts)) := by
  obtain ⟨n1, n2⟩ := asg_none (env := X.env) hn
  refine ⟨fun pins s σ H v u Q I r q => ?_⟩
  obtain ⟨ρ, A, env, st, d, env', st', er, sr, rd, ev, post⟩ := q
  simp only [asT] at ev
  split at ev
  · rename_i xs
    split at ev
    · rename_i hlen
      have key : ∃ a vs, v = .ref a ∧ SqT X.K H a vs ∧ RPs A H vs xs := by
        rcases (show RDw X.K ρ A H v (.v (.tuple xs)) from rd) with rd | ⟨a, vs, ps, rfl, e, h1, h2⟩
        · obtain ⟨a, vs, rfl, h1, h2, h3⟩ := rd.tup_eq
          exact ⟨a, vs, rfl, h2.sqT, h3⟩
        · cases e
          exact ⟨a, vs, rfl, h1, h2⟩
      obtain ⟨a, vs, rfl, h1, h2⟩ := key
      refine (pg_tup O.calm h (n1.trans hl) n2).run pins s σ H _ u Q I r ⟨a, vs, rfl, h1, by rw [h2.length, hlen], ρ, A, env, st, xs.map .v, env', st', er, sr, .plain h2, ev, post⟩
    · cases ev
  · rename_i xs
    split at ev
    · rename_i hlen
      have key : ∃ a vs, v = .ref a ∧ H a = some (.lst vs) ∧ RPs A H vs xs := by
        rcases (show RDw X.K ρ A H v (.v (.list xs)) from rd) with rd | ⟨a, vs, ps, rfl, e, h1, h2⟩
        · obtain ⟨a, vs, rfl, h1, h2, h3⟩ := rd.lst_eq
          exact ⟨a, vs, rfl, h2, h3⟩
        · cases e
      obtain ⟨a, vs, rfl, h1, h2⟩ := key
      refine (pg_unl O.calm h (n1.trans hl) n2).run pins s σ H _ u Q I r ⟨a, vs, rfl, SqL.of h1, by rw [h2.length, hlen], ρ, A, env, st, xs.map .v, env', st', er, sr, .plain h2, ev, post⟩
    · cases ev
  · cases ev
/-! ### stores -/
def rSetD : V → V → V → Hp → (Hp → Prop) → Prop := fun o i v H Q => ∃ a H', o = .ref a ∧ DPut H a i v H' ∧ Q H'
theorem set_dict (hu : X.A.units + 1 < cLine) : PSet X rSetD := by
  intro pins s σ H o i v ov iv u Q I ro ri rv h
  obtain ⟨a, H', rfl, g, q⟩ := h
  cases ro
  exact d_setItem hu I g ri rv fun s' I' => ⟨H', I', q⟩
theorem PSet.or {t t' : TSet} (h : PSet X t) (h' : PSet X t') : PSet X (fun o i v H Q => t o i v H Q ∨ t' o i v H Q) := by
  intro pins s σ H o i v ov iv u Q I ro ri rv q
  rcases q with q | q
  · exact h pins s σ H o i v ov iv u Q I ro ri rv q
  · exact h' pins s σ H o i v ov iv u Q I ro ri rv q
theorem kvs_put {K : PySem.W.Frag} {ρ : List Addr} {A : AS} {H : Hp} {v : V} {d : D} {k : Str} (r : RD K ρ A H v d) : ∀ {kvs : List (Key × V)} {kds : List (Str × D)}, KVs K ρ A H kvs kds → KVs K ρ A H (putK kvs (kK k) v) (putS kds k d) := by
  have ap : ∀ {kvs : List (Key × V)} {kds : List (Str × D)}, KVs K ρ A H kvs kds → KVs K ρ A H (kvs ++ [(kK k, v)]) (kds ++ [(k, d)]) := by
    intro kvs kds h
    induction h with
    | nil => exact .cons r .nil
    | cons r' _ ih => exact .cons r' ih
  have mp : ∀ {kvs : List (Key × V)} {kds : List (Str × D)}, KVs K ρ A H kvs kds → KVs K ρ A H (kvs.map fun kv => if kv.1 = kK k then (kv.1, v) else kv) (kds.map fun kv => if kv.1 = k then (kv.1, d) else kv) := by
    intro kvs kds h
    induction h with
    | nil => exact .nil
    | cons r' _ ih =>
      rename_i k' _ _ _ _ _
      rw [List.map_cons, List.map_cons]
      by_cases e : k' = k
      · subst e
        rw [if_pos rfl, if_pos rfl]; exact .cons r ih
      · rw [if_neg (show ¬ (kK k' : Key) = kK k from fun z => e (Sum.inr.inj z)), if_neg (show ¬ k' = k from e)]; exact .cons r' ih
  intro kvs kds h
  unfold putK putS
  rw [valV_any]
  cases e : kds.lookup k with
  | none =>
    rw [(kvs_get h).2 e]
    simp only [Option.isSome_none, Bool.false_eq_true, if_false]
    exact ap h
  | some d' =>
    obtain ⟨v', q, _⟩ := (kvs_get h).1 d' e
    rw [q]
    simp only [Option.isSome_some, if_true]
    exact mp h
theorem kvs_length {K : PySem.W.Frag} {ρ : List Addr} {A : AS} {H : Hp} {kvs : List (Key × V)} {kds : List (Str × D)} (h : KVs K ρ A H kvs kds) : kvs.length = kds.length := by
  induction h with
  | nil => rfl
  | cons _ _ ih => simp [ih]
theorem store_eq0 {st st' : Sto} {x y d : D} (h : store0 st x y d = .ok st') : (∃ n k xs j, x = .ref n ∧ y = .v (.int k) ∧ st[n]? = some (.lst xs) ∧ ixN xs.length k = some j ∧ st' = st.set n (.lst (xs.set j d))) ∨
    ∃ n k kvs, x = .ref n ∧ y = .v (.str k) ∧ st[n]? = some (.dct kvs) ∧ kvs.length < 1000 ∧ st' = st.set n (.dct (putS kvs k d)) := by
  unfold store0 at h
  split at h
  · split at h
    · rename_i hs
      split at h
      · rename_i hj; cases h; exact .inl ⟨_, _, _, _, rfl, rfl, hs, hj, rfl⟩
      · cases h
    · cases h
  · split at h
    · rename_i hs
      split at h
      · rename_i hz; cases h; exact .inr ⟨_, _, _, rfl, rfl, hs, hz, rfl⟩
      · cases h
    · cases h
  · cases h
theorem store_eq {st st' : Sto} {x y d : D} (h : store st x y d = .ok st') : (∃ n ob ob', x = .ref n ∧ st[n]? = some ob ∧ dPut ob y d = some ob' ∧ st' = st.set n ob') ∨ store0 st x y d = .ok st' := by
  unfold store at h
  split at h
  · rename_i n
    cases hb : (st[n]?).bind fun ob => dPut ob y d with
    | some ob' =>
      rw [hb] at h
      rw [Option.bind_eq_some_iff] at hb
      obtain ⟨ob, h1, h2⟩ := hb
      cases h
      exact .inl ⟨n, ob, ob', rfl, h1, h2, rfl⟩
    | none =>
      rw [hb] at h
      exact .inr h
  · exact .inr h
theorem g_sub (O : Okx c C X) {o i : Expr} {a b : E} {pos : Pos} (hn : notSlice i = true) (h1 : PE X o (tX false X.K C a)) (h2 : PE X i (tX false X.K C b)) : PG X (.Subscript o i pos) (gX X.K C (.sub a b)) := by
  have hu := O.un
  refine ⟨fun pins s σ H v u Q I r q => ?_⟩
  obtain ⟨ρ, A, env, st, d, env', st', er, sr, rd, ev, post⟩ := q
  have rd : RD X.K ρ A H v d := rd
  simp only [asT] at ev
  obtain ⟨⟨x, st1⟩, e1, ev⟩ := R.bind_eq ev
  obtain ⟨⟨y, st2⟩, e2, ev⟩ := R.bind_eq ev
  obtain ⟨st3, e3, ev⟩ := R.bind_eq ev
  simp only [R.ok.injEq, Prod.mk.injEq] at ev
  obtain ⟨rfl, rfl⟩ := ev
  refine (pg_sub h1 h2 (PSet.or set_list (set_dict (by omega))) (fun _ => by cases i <;> first | rfl | (simp [notSlice] at hn))).run pins s σ H v u Q I r (two_tX er sr e1 e2 fun w z H2 ρ2 A2 s2 S2 rw' rz => ?_)
  have rd2 := rd.mono s2
  rcases store_eq e3 with ⟨n, ob, ob', ex, hs, hp, rfl⟩ | e3
  · dsimp only at ex hs hp post; subst ex
    obtain ⟨p, u, rfl, k1, k2, k3, k4⟩ := dPut_put S2 rw' rz rd2 hs hp
    have s' := Stp.write S2 (u := u) k1 k3
    exact .inr ⟨p, _, rfl, k2, post σ _ ρ2 A2 (s2.trans s') (S2.write k1 k3 (k4 _ s'.ka)) (er.mono (s2.trans s')) (.refl _ _)⟩
  rcases store_eq0 e3 with ⟨n, k, xs, j, ex, ey, hs, hj, rfl⟩ | ⟨n, k, kds, ex, ey, hs, hz, rfl⟩
  · dsimp only at ex ey hs post; subst ex ey
    obtain ⟨p, u', rfl, k1, k2, k3, k4⟩ := ref_at S2 rw' hs
    cases k4 with
    | lst k4 =>
      rename_i ws
      have s' := Stp.write S2 (u := .lst (ws.set j v)) k1 (ns_lst k3)
      refine .inl ⟨p, ws, k, j, rfl, rz.int_eq, k3, by rw [k4.length]; exact hj, post σ _ ρ2 A2 (s2.trans s') (S2.write k1 (ns_lst k3) (.lst ?_)) (er.mono (s2.trans s')) (.refl _ _)⟩
      exact (k4.mono s').set (rd2.mono s') j
  · dsimp only at ex ey hs post; subst ex ey
    obtain ⟨p, u', rfl, k1, k2, k3, k4⟩ := ref_at S2 rw' hs
    cases k4 with
    | dct k4 =>
      rename_i kvs
      have s' := Stp.write S2 (u := .dK (putK kvs (kK k) v)) k1 (ns_dK k3)
      refine .inr ⟨p, _, rfl, ?_, post σ _ ρ2 A2 (s2.trans s') (S2.write k1 (ns_dK k3) (.dct ?_)) (er.mono (s2.trans s')) (.refl _ _)⟩
      · rw [rz.str_eq]
        exact DPut.k (k := kK k) k3 (by rw [kvs_length k4, sizeLine_eq]; omega)
      · exact kvs_put (rd2.mono s') (k4.mono3 s'.pre s'.sub s'.ka)
end
end Vi
set_option Elab.async false
set_option linter.all false
set_option maxRecDepth 100000
set_option maxHeartbeats 4000000
set_option autoImplicit false
/-! Vo: what a loop walks. -/
namespace Vi
open PySem L2 PySem.Spec PyProof.Rows
def srcAt (st : Sto) : Src → Option (List D)
  | .items ds => some ds
  | .live n => match st[n]? with
    | some (.lst xs) => some xs
    | _ => none
def JIt (K : PySem.W.Frag) (J : L2.It) (t : T) (ρ0 : List Addr) (A0 : AS) (H0 : Hp) (src : Src) : Prop := ∀ (i : Nat) (ρ : List Addr) (A : AS) (H : Hp) (st : Sto) (ds : List D), Stp ρ0 A0 H0 ρ A H → SR K ρ A st H → srcAt st src = some ds →
  (∀ d, ds[i]? = some d → J.go i H ∧ ∀ x H', J.yld i H x H' → ∃ A', Stp ρ A H ρ A' H' ∧ SR K ρ A' st H' ∧ RDt t K ρ A' H' x d) ∧ (ds[i]? = none → J.stop i H)
def iX (K : PySem.W.Frag) (C : Cfg) (t : T) (it : It) : TI := fun σ H R => ∃ (ρ : List Addr) (A : AS) (env : En) (st : Sto) (src : Src) (st' : Sto), ER K ρ A H σ env ∧ SR K ρ A st H ∧ evIt C it env st = .ok (src, st') ∧
  ∀ J H' ρ' A', Stp ρ A H ρ' A' H' → SR K ρ' A' st' H' → (∃ ds, srcAt st' src = some ds) → JIt K J t ρ' A' H' src → R J H'
section
variable {C : Cfg} {X : Cx} {c : CC}
theorem jit_tup {K : PySem.W.Frag} {a : Addr} {t : T} {ρ0 : List Addr} {A0 : AS} {H0 : Hp} {src : Src} (h : ∀ ρ A H st ds, Stp ρ0 A0 H0 ρ A H → SR K ρ A st H → srcAt st src = some ds → ∃ vs, SqT K H a vs ∧ RDs K ρ A H vs ds) : JIt K (Itt K a) t ρ0 A0 H0 src := by
  intro i ρ A H st ds s S e
  obtain ⟨vs, h1, h2⟩ := h ρ A H st ds s S e
  refine ⟨fun d hd => ?_, fun hd => ⟨vs, h1, ?_⟩⟩
  · obtain ⟨v, hv, rv⟩ := h2.get hd
    refine ⟨⟨vs, v, h1, hv⟩, fun x H' y => ?_⟩
    obtain ⟨rfl, y⟩ := y
    have := y vs h1
    rw [hv] at this; cases this
    exact ⟨A, .refl, S, .of rv⟩
  · rw [h2.length]; exact List.getElem?_eq_none_iff.mp hd
theorem jit_list {K : PySem.W.Frag} {a : Addr} {t : T} {ρ0 : List Addr} {A0 : AS} {H0 : Hp} {src : Src} (h : ∀ ρ A H st ds, Stp ρ0 A0 H0 ρ A H → SR K ρ A st H → srcAt st src = some ds → ∃ vs, SqL K H a vs ∧ RDs K ρ A H vs ds) : JIt K (Itl K a) t ρ0 A0 H0 src := by
  intro i ρ A H st ds s S e
  obtain ⟨vs, h1, h2⟩ := h ρ A H st ds s S e
  refine ⟨fun d hd => ?_, fun hd => ⟨vs, h1, ?_⟩⟩
  · obtain ⟨v, hv, rv⟩ := h2.get hd
    refine ⟨⟨vs, v, h1, hv⟩, fun x H' y => ?_⟩
    obtain ⟨rfl, y⟩ := y
    have := y vs h1
    rw [hv] at this; cases this
    exact ⟨A, .refl, S, .of rv⟩
  · rw [h2.length]; exact List.getElem?_eq_none_iff.mp hd
theorem rngI_get {lo hi : Int} {i : Nat} : (rngI lo hi)[i]? = if i < (hi - lo).toNat then some (.v (.int (lo + (i : Nat)))) else none := by
  unfold rngI
  rw [List.getElem?_map]
  by_cases h : i < (hi - lo).toNat
  · rw [if_pos h, List.getElem?_range h]; rfl
  · rw [if_neg h, List.getElem?_eq_none (by simp; omega)]; rfl
theorem jit_rng {K : PySem.W.Frag} {t : T} {ρ0 : List Addr} {A0 : AS} {H0 : Hp} {lo hi : Int} : JIt K (Itr lo (hi - lo).toNat) t ρ0 A0 H0 (.items (rngI lo hi)) := by
  intro i ρ A H st ds s S e
  cases e
  rw [rngI_get]
  refine ⟨fun d hd => ?_, fun hd => ?_⟩
  · split at hd
    · rename_i hi
      cases hd
      refine ⟨hi, fun x H' y => ?_⟩
      obtain ⟨rfl, rfl⟩ := y
      exact ⟨A, .refl, S, .of (.v (.int _))⟩
    · cases hd
  · split at hd
    · cases hd
    · rename_i hi
      show (_ : Nat) ≤ i
      omega
theorem RPs.get {A : AS} {H : Hp} {vs : List V} {ps : List PyData} {i : Nat} {p : PyData} (r : RPs A H vs ps) (h : ps[i]? = some p) : ∃ v, vs[i]? = some v ∧ RP A H v p := by
  have r' : RDs (([] : PySem.W.Frag)) [] A H vs (ps.map .v) := r.rd
  obtain ⟨v, h1, h2⟩ := r'.get (i := i) (d := .v p) (by simp [h])
  cases h2 with
  | v h2 => exact ⟨v, h1, h2⟩
/-- the end of a turn that hands out a new pair -/
theorem pair_end {K : PySem.W.Frag} {ρ : List Addr} {A : AS} {H : Hp} {st : Sto} {ts : List T} {T0 : Addr} {x y : V} {p q : PyData} (S : SR K ρ A st H) (hT : H T0 = none) (r1 : RP A H x p) (r2 : RP A H y q) :
    ∃ A', Stp ρ A H ρ A' (upd H T0 (.tup [x, y])) ∧ SR K ρ A' st (upd H T0 (.tup [x, y])) ∧ RDt (.tup ts) K ρ A' (upd H T0 (.tup [x, y])) (.ref T0) (.v (.tuple [p, q])) := by
  have s : Stp ρ A H ρ A (upd H T0 (.tup [x, y])) := Stp.laid0 hT
  refine ⟨A, s, S.laid0 hT, .inr ⟨T0, [x, y], [p, q], rfl, rfl, SqT.of upd_same, .cons (r1.mono s.sub s.ka) (.cons (r2.mono s.sub s.ka) .nil)⟩⟩
theorem zipIdx_get {xs : List PyData} {i : Nat} {d : D} (h : (xs.zipIdx.map fun p => D.v (.tuple [.int (p.2 : Nat), p.1]))[i]? = some d) : ∃ p, xs[i]? = some p ∧ d = .v (.tuple [.int (i : Nat), p]) := by
  rw [List.getElem?_map, List.getElem?_zipIdx] at h
  cases e : xs[i]? with
  | none => rw [e] at h; simp at h
  | some p =>
    rw [e] at h
    simp only [Option.map_some, Nat.zero_add, Option.some.injEq] at h
    exact ⟨p, rfl, h.symm⟩
theorem jit_enumL {K : PySem.W.Frag} {a : Addr} {ts : List T} {ρ0 : List Addr} {A0 : AS} {H0 : Hp} {xs : List PyData} (h : ∀ ρ A H, Stp ρ0 A0 H0 ρ A H → ∃ vs, SqL K H a vs ∧ RPs A H vs xs) : JIt K (Ite K a) (.tup ts) ρ0 A0 H0 (.items (xs.zipIdx.map fun p => .v (.tuple [.int (p.2 : Nat), p.1]))) := by
  intro i ρ A H st ds s S e
  cases e
  obtain ⟨vs, h1, h2⟩ := h ρ A H s
  refine ⟨fun d hd => ?_, fun hd => ⟨vs, h1, ?_⟩⟩
  · obtain ⟨p, hp, rfl⟩ := zipIdx_get hd
    obtain ⟨v, hv, rv⟩ := h2.get hp
    refine ⟨⟨vs, v, h1, hv⟩, fun x H' y => ?_⟩
    obtain ⟨T0, z, rfl, hT, rfl, y⟩ := y
    have := y vs h1
    rw [hv] at this; cases this
    exact pair_end S hT (.int _) rv
  · rw [h2.length]
    have := List.getElem?_eq_none_iff.mp hd
    simpa using this
theorem jit_enumT {K : PySem.W.Frag} {a : Addr} {ts : List T} {ρ0 : List Addr} {A0 : AS} {H0 : Hp} {xs : List PyData} (h : ∀ ρ A H, Stp ρ0 A0 H0 ρ A H → ∃ vs, SqT K H a vs ∧ RPs A H vs xs) : JIt K (IteT K a) (.tup ts) ρ0 A0 H0 (.items (xs.zipIdx.map fun p => .v (.tuple [.int (p.2 : Nat), p.1]))) := by
  intro i ρ A H st ds s S e
  cases e
  obtain ⟨vs, h1, h2⟩ := h ρ A H s
  refine ⟨fun d hd => ?_, fun hd => ⟨vs, h1, ?_⟩⟩
  · obtain ⟨p, hp, rfl⟩ := zipIdx_get hd
    obtain ⟨v, hv, rv⟩ := h2.get hp
    refine ⟨⟨vs, v, h1, hv⟩, fun x H' y => ?_⟩
    obtain ⟨T0, z, rfl, hT, rfl, y⟩ := y
    have := y vs h1
    rw [hv] at this; cases this
    exact pair_end S hT (.int _) rv
  · rw [h2.length]
    have := List.getElem?_eq_none_iff.mp hd
    simpa using this
theorem zip_get {xs ys : List PyData} {i : Nat} {d : D} (h : ((xs.zip ys).map fun p => D.v (.tuple [p.1, p.2]))[i]? = some d) : ∃ p q, xs[i]? = some p ∧ ys[i]? = some q ∧ d = .v (.tuple [p, q]) := by
  rw [List.getElem?_map] at h
  cases e : (xs.zip ys)[i]? with
  | none => rw [e] at h; simp at h
  | some p =>
    rw [e] at h
    simp only [Option.map_some, Option.some.injEq] at h
    obtain ⟨h1, h2⟩ := List.getElem?_zip_eq_some.mp e
    exact ⟨p.1, p.2, h1, h2, h.symm⟩
theorem zip_none {xs ys : List PyData} {i : Nat} (h : ((xs.zip ys).map fun p => D.v (.tuple [p.1, p.2]))[i]? = none) : xs.length ≤ i ∨ ys.length ≤ i := by
  have := List.getElem?_eq_none_iff.mp h
  rw [List.length_map, List.length_zip] at this
  omega
theorem jit_zipL {K : PySem.W.Frag} {a b : Addr} {ts : List T} {ρ0 : List Addr} {A0 : AS} {H0 : Hp} {xs ys : List PyData} (h : ∀ ρ A H, Stp ρ0 A0 H0 ρ A H → (∃ vs, SqL K H a vs ∧ RPs A H vs xs) ∧ ∃ vs, SqL K H b vs ∧ RPs A H vs ys) : JIt K (Itz K a b) (.tup ts) ρ0 A0 H0 (.items ((xs.zip ys).map fun p => .v (.tuple [p.1, p.2]))) := by
  intro i ρ A H st ds s S e
  cases e
  obtain ⟨⟨vs, h1, h2⟩, ws, k1, k2⟩ := h ρ A H s
  refine ⟨fun d hd => ?_, fun hd => ⟨vs, ws, h1, k1, ?_⟩⟩
  · obtain ⟨p, q, hp, hq, rfl⟩ := zip_get hd
    obtain ⟨v, hv, rv⟩ := h2.get hp
    obtain ⟨w, hw, rw'⟩ := k2.get hq
    refine ⟨⟨vs, ws, v, w, h1, k1, hv, hw⟩, fun x H' y => ?_⟩
    obtain ⟨T0, z, z2, rfl, hT, rfl, y1, y2⟩ := y
    have := y1 vs h1
    rw [hv] at this; cases this
    have := y2 ws k1
    rw [hw] at this; cases this
    exact pair_end S hT rv rw'
  · rw [h2.length, k2.length]; exact zip_none hd
theorem jit_zipT {K : PySem.W.Frag} {a b : Addr} {ts : List T} {ρ0 : List Addr} {A0 : AS} {H0 : Hp} {xs ys : List PyData} (h : ∀ ρ A H, Stp ρ0 A0 H0 ρ A H → (∃ vs, SqT K H a vs ∧ RPs A H vs xs) ∧ ∃ vs, SqT K H b vs ∧ RPs A H vs ys) : JIt K (RZ.ItzT K a b) (.tup ts) ρ0 A0 H0 (.items ((xs.zip ys).map fun p => .v (.tuple [p.1, p.2]))) := by
  intro i ρ A H st ds s S e
  cases e
  obtain ⟨⟨vs, h1, h2⟩, ws, k1, k2⟩ := h ρ A H s
  refine ⟨fun d hd => ?_, fun hd => ⟨vs, ws, h1, k1, ?_⟩⟩
  · obtain ⟨p, q, hp, hq, rfl⟩ := zip_get hd
    obtain ⟨v, hv, rv⟩ := h2.get hp
    obtain ⟨w, hw, rw'⟩ := k2.get hq
    refine ⟨⟨vs, ws, v, w, h1, k1, hv, hw⟩, fun x H' y => ?_⟩
    obtain ⟨T0, z, z2, rfl, hT, rfl, y1, y2⟩ := y
    have := y1 vs h1
    rw [hv] at this; cases this
    have := y2 ws k1
    rw [hw] at this; cases this
    exact pair_end S hT rv rw'
  · rw [h2.length, k2.length]; exact zip_none hd
/-! ### the rules -/
theorem RP.keepT {K : PySem.W.Frag} {ρ0 ρ : List Addr} {A0 A : AS} {H0 H : Hp} {a : Addr} {vs : List V} {xs : List PyData} (s : Stp ρ0 A0 H0 ρ A H) (h1 : True) (h2 : TupF H0 a vs) (h3 : RPs A0 H0 vs xs) : ∃ vs, SqT K H a vs ∧ RPs A H vs xs := by
  exact ⟨vs, TupF.sqT (s.ka _ _ (.inr trivial) h2), h3.mono s.sub s.ka⟩
theorem RP.keepL {K : PySem.W.Frag} {ρ0 ρ : List Addr} {A0 A : AS} {H0 H : Hp} {a : Addr} {vs : List V} {xs : List PyData} (s : Stp ρ0 A0 H0 ρ A H) (h1 : A0 a) (h2 : H0 a = some (.lst vs)) (h3 : RPs A0 H0 vs xs) : ∃ vs, SqL K H a vs ∧ RPs A H vs xs :=
  ⟨vs, SqL.of (s.ka _ _ (.inl h1) h2), h3.mono s.sub s.ka⟩
theorem i_val {tg e : Expr} {t : T} {a : E} (h : PE X e (tX false X.K C a)) : PI X tg e (iX X.K C t (.val a)) := by
  refine ⟨fun pins s σ H RR I q => ?_⟩
  obtain ⟨ρ, A, env, st, src, st', er, sr, ev, post⟩ := q
  simp only [evIt] at ev
  obtain ⟨⟨x, st1⟩, e1, ev⟩ := R.bind_eq ev
  dsimp only at ev
  split at ev
  · cases ev
    refine (pi_tup h).run pins s σ H RR I (one_tX er sr e1 fun v H1 ρ1 A1 s1 S1 r1 => ?_)
    obtain ⟨a0, vs, rfl, h1, h2, h3⟩ := r1.tup_eq
    refine ⟨a0, rfl, ⟨vs, h2.sqT⟩, post _ _ ρ1 A1 s1 S1 ⟨_, rfl⟩ (jit_tup fun ρ A H st ds s S e => ?_)⟩
    cases e
    obtain ⟨ws, k1, k2⟩ := RP.keepT (K := X.K) s h1 h2 h3
    exact ⟨ws, k1, k2.rd⟩
  · cases ev
    refine (pi_list h).run pins s σ H RR I (one_tX er sr e1 fun v H1 ρ1 A1 s1 S1 r1 => ?_)
    obtain ⟨a0, vs, rfl, h1, h2, h3⟩ := r1.lst_eq
    refine ⟨a0, rfl, ⟨vs, SqL.of h2⟩, post _ _ ρ1 A1 s1 S1 ⟨_, rfl⟩ (jit_list fun ρ A H st ds s S e => ?_)⟩
    cases e
    obtain ⟨ws, k1, k2⟩ := RP.keepL (K := X.K) s h1 h2 h3
    exact ⟨ws, k1, k2.rd⟩
  · cases ev
    rename_i ns
    refine (pi_list h).run pins s σ H RR I (one_tX er sr e1 fun v H1 ρ1 A1 s1 S1 r1 => ?_)
    have intz : ∀ {ρ : List Addr} {A : AS} {H : Hp} (ns : List Int), RDs X.K ρ A H (ns.map V.int) (ns.map fun n => .v (.int n)) := fun ns => by
      induction ns with
      | nil => exact .nil
      | cons n ns ih => exact .cons (.v (.int n)) ih
    cases r1 with
    | scr r1 =>
      rcases r1 with ⟨o, h1, h2⟩ | h1
      · refine ⟨_, rfl, ⟨_, .inl (.inr ⟨o, h2⟩)⟩, post _ _ ρ1 A1 s1 S1 ⟨_, rfl⟩ (jit_list fun ρ A H st ds s S e => ?_)⟩
        cases e
        exact ⟨_, .inl (.inr ⟨o, s.ka _ _ (.inl h1) h2⟩), intz ns⟩
      · refine ⟨_, rfl, ⟨_, h1 _⟩, post _ _ ρ1 A1 s1 S1 ⟨_, rfl⟩ (jit_list fun ρ A H st ds s S e => ?_)⟩
        cases e
        exact ⟨_, h1 _, intz ns⟩
  · split at ev
    · rename_i n _ xs hs
      cases ev
      refine (pi_list h).run pins s σ H RR I (one_tX er sr e1 fun v H1 ρ1 A1 s1 S1 r1 => ?_)
      obtain ⟨a0, u, rfl, h1, h2, h3, h4⟩ := ref_at S1 r1 hs
      cases h4 with
      | lst h4 =>
        refine ⟨a0, rfl, ⟨_, SqL.of h3⟩, post _ _ ρ1 A1 s1 S1 ⟨xs, by simp [srcAt, hs]⟩ (jit_list fun ρ A H st ds s S e => ?_)⟩
        simp only [srcAt] at e
        split at e
        · rename_i ys hy
          cases e
          obtain ⟨b, u, k1, k2, k3, k4⟩ := S.at hy
          have := pre_get s.pre h1
          rw [k1] at this; cases this
          cases k4 with
          | lst k4 => exact ⟨_, SqL.of k3, k4⟩
        · cases e
    · cases ev
  · cases ev
theorem i_rng1 (O : Okx c C X) {tg e : Expr} {x : Str} {t : T} {a : E} {p pos : Pos} (hx : x = ("range" : Str)) (g1 : glB c x = true) (hn : notStar e = true) (h : PE X e (tX false X.K C a)) : PI X tg (.Call (.Name x p) [e] [] pos) (iX X.K C t (.rng [a])) := by
  subst hx
  refine ⟨fun pins s σ H RR I q => ?_⟩
  obtain ⟨ρ, A, env, st, src, st', er, sr, ev, post⟩ := q
  simp only [evIt] at ev
  obtain ⟨⟨ds, st1⟩, e1, ev⟩ := R.bind_eq ev
  obtain ⟨xs, e2, ev⟩ := R.bind_eq ev
  simp only [R.ok.injEq, Prod.mk.injEq] at ev
  obtain ⟨rfl, rfl⟩ := ev
  dsimp only at e2
  refine (pi_range1 (gl_of O g1) (O.bl _ (by decide)) (s_cons h s_nil hn) (star_cons hn)).run pins s σ H RR I ⟨ρ, A, env, st, ds, st1, er, sr, e1, fun vs H1 ρ1 A1 s1 S1 r1 => ?_⟩
  simp only [evEs] at e1
  obtain ⟨⟨z, st2⟩, e4, e1⟩ := R.bind_eq e1
  simp only [R.bind_ok, R.ok.injEq, Prod.mk.injEq] at e1
  obtain ⟨rfl, rfl⟩ := e1
  rcases rng_two (st := st) e2 with ⟨j, hj, ok, rfl⟩ | ⟨i, j, hj, _⟩
  · have : z = .v (.int j) := by injection hj
    subst this
    obtain ⟨v, rfl, rv⟩ := r1.one
    cases rv.int_eq
    obtain ⟨k1, k2⟩ := rngOk_eq ok
    refine ⟨j, rfl, k1, k2, post _ _ ρ1 A1 s1 S1 ⟨_, rfl⟩ ?_⟩
    have := jit_rng (K := X.K) (t := t) (ρ0 := ρ1) (A0 := A1) (H0 := H1) (lo := 0) (hi := j)
    rw [Int.sub_zero] at this
    exact this
  · cases hj
theorem i_rng2 (O : Okx c C X) {tg e f : Expr} {x : Str} {t : T} {a b : E} {p pos : Pos} (hx : x = ("range" : Str)) (g1 : glB c x = true) (hn : notStar e = true) (hn2 : notStar f = true) (h : PE X e (tX false X.K C a)) (h2 : PE X f (tX false X.K C b)) :
    PI X tg (.Call (.Name x p) [e, f] [] pos) (iX X.K C t (.rng [a, b])) := by
  subst hx
  refine ⟨fun pins s σ H RR I q => ?_⟩
  obtain ⟨ρ, A, env, st, src, st', er, sr, ev, post⟩ := q
  simp only [evIt] at ev
  obtain ⟨⟨ds, st1⟩, e1, ev⟩ := R.bind_eq ev
  obtain ⟨xs, e2, ev⟩ := R.bind_eq ev
  simp only [R.ok.injEq, Prod.mk.injEq] at ev
  obtain ⟨rfl, rfl⟩ := ev
  dsimp only at e2
  refine (pi_range2 (gl_of O g1) (O.bl _ (by decide)) (s_cons h (s_cons h2 s_nil hn2) hn) (by rw [star_cons hn, star_cons hn2]; rfl) (by rw [star_cons hn2]; rfl)).run pins s σ H RR I ⟨ρ, A, env, st, ds, st1, er, sr, e1, fun vs H1 ρ1 A1 s1 S1 r1 => ?_⟩
  rcases rng_two (st := st) e2 with ⟨j, rfl, _⟩ | ⟨i, j, rfl, ok, ok2, rfl⟩
  · simp only [evEs] at e1
    obtain ⟨⟨z, st2⟩, e4, e1⟩ := R.bind_eq e1
    obtain ⟨⟨zs, st3⟩, e5, e1⟩ := R.bind_eq e1
    obtain ⟨⟨z2, st4⟩, e6, e5⟩ := R.bind_eq e5
    simp only [R.bind_ok, R.ok.injEq, Prod.mk.injEq] at e5 e1
    obtain ⟨rfl, rfl⟩ := e5
    simp at e1
  · obtain ⟨v, w, rfl, rv, rw'⟩ := r1.two
    cases rv.int_eq
    cases rw'.int_eq
    obtain ⟨k1, k2⟩ := rngOk_eq ok
    obtain ⟨k3, k4⟩ := rngOk_eq ok2
    exact ⟨i, j, rfl, ⟨k1, k2, k3, k4⟩, post _ _ ρ1 A1 s1 S1 ⟨_, rfl⟩ jit_rng⟩
theorem i_enum (O : Okx c C X) {es : List Expr} {k : Nat} {tp : Pos} {e : Expr} {x : Str} {ts : List T} {a : E} {p pos : Pos} (hx : x = ("enumerate" : Str)) (g1 : glB c x = true) (hn : notStar e = true) (h : PE X e (tX false X.K C a)) :
    PI X (.Tuple es k tp) (.Call (.Name x p) [e] [] pos) (iX X.K C (.tup ts) (.enum a)) := by
  subst hx
  refine ⟨fun pins s σ H RR I q => ?_⟩
  obtain ⟨ρ, A, env, st, src, st', er, sr, ev, post⟩ := q
  simp only [evIt] at ev
  obtain ⟨⟨x, st1⟩, e1, ev⟩ := R.bind_eq ev
  have arg : ∀ {R1 : List V → Hp → Prop}, (∀ v H1 ρ1 A1, Stp ρ A H ρ1 A1 H1 → SR X.K ρ1 A1 st1 H1 → RD X.K ρ1 A1 H1 v x → R1 [v] H1) → tXs X.K C [a] σ H R1 := fun k => ⟨ρ, A, env, st, [x], st1, er, sr, by simp only [evEs, e1, R.bind_ok], fun vs H1 ρ1 A1 s1 S1 r1 => by
    obtain ⟨v, rfl, rv⟩ := r1.one
    exact k v H1 ρ1 A1 s1 S1 rv⟩
  dsimp only at ev
  split at ev
  · cases ev
    refine (pi_enumT (gl_of O g1) (O.bl _ (by decide)) (s_cons h s_nil hn) (star_cons hn)).run pins s σ H RR I (arg fun v H1 ρ1 A1 s1 S1 r1 => ?_)
    obtain ⟨a0, vs, rfl, h1, h2, h3⟩ := r1.tup_eq
    exact ⟨a0, vs, rfl, h2.sqT, post _ _ ρ1 A1 s1 S1 ⟨_, rfl⟩ (jit_enumT fun ρ A H s => RP.keepT s h1 h2 h3)⟩
  · cases ev
    refine (pi_enum (gl_of O g1) (O.bl _ (by decide)) (s_cons h s_nil hn) (star_cons hn)).run pins s σ H RR I (arg fun v H1 ρ1 A1 s1 S1 r1 => ?_)
    obtain ⟨a0, vs, rfl, h1, h2, h3⟩ := r1.lst_eq
    exact ⟨a0, vs, rfl, SqL.of h2, post _ _ ρ1 A1 s1 S1 ⟨_, rfl⟩ (jit_enumL fun ρ A H s => RP.keepL s h1 h2 h3)⟩
  · cases ev
theorem i_zip (O : Okx c C X) {es : List Expr} {k : Nat} {tp : Pos} {e f : Expr} {x : Str} {ts : List T} {a b : E} {p pos : Pos} (hx : x = ("zip" : Str)) (g1 : glB c x = true) (hn : notStar e = true) (hn2 : notStar f = true) (h : PE X e (tX false X.K C a)) (h2 : PE X f (tX false X.K C b)) :
    PI X (.Tuple es k tp) (.Call (.Name x p) [e, f] [] pos) (iX X.K C (.tup ts) (.zip a b)) := by
  subst hx
  refine ⟨fun pins s σ H RR I q => ?_⟩
  obtain ⟨ρ, A, env, st, src, st', er, sr, ev, post⟩ := q
  simp only [evIt] at ev
  obtain ⟨⟨x, st1⟩, e1, ev⟩ := R.bind_eq ev
  obtain ⟨⟨y, st2⟩, e2, ev⟩ := R.bind_eq ev
  dsimp only at e2
  refine (RZ.pi_zipA (tpos := tp) (elts := es) (kk := k) (gl_of O g1) (O.bl _ (by decide)) (s_cons h (s_cons h2 s_nil hn2) hn) (star_cons hn) (back_star (by simp [hn2]))).run pins s σ H RR I ?_
  · refine ⟨ρ, A, env, st, [x, y], st2, er, sr, by simp only [evEs, e1, e2, R.bind_ok], fun vs H1 ρ1 A1 s1 S1 r1 => ?_⟩
    obtain ⟨v, w, rfl, rv, rw'⟩ := r1.two
    dsimp only at ev
    split at ev
    · cases ev
      obtain ⟨a0, vs, rfl, h1, h2, h3⟩ := rv.tup_eq
      obtain ⟨b0, ws, rfl, k1, k2, k3⟩ := rw'.tup_eq
      exact ⟨a0, b0, vs, ws, rfl, .inr ⟨h2.sqT, k2.sqT, post _ _ ρ1 A1 s1 S1 ⟨_, rfl⟩ (jit_zipT fun ρ A H s => ⟨RP.keepT s h1 h2 h3, RP.keepT s k1 k2 k3⟩)⟩⟩
    · cases ev
      obtain ⟨a0, vs, rfl, h1, h2, h3⟩ := rv.lst_eq
      obtain ⟨b0, ws, rfl, k1, k2, k3⟩ := rw'.lst_eq
      exact ⟨a0, b0, vs, ws, rfl, .inl ⟨SqL.of h2, SqL.of k2, post _ _ ρ1 A1 s1 S1 ⟨_, rfl⟩ (jit_zipL fun ρ A H s => ⟨RP.keepL s h1 h2 h3, RP.keepL s k1 k2 k3⟩)⟩⟩
    · cases ev
theorem rngDn_get {lo hi : Int} {i : Nat} : (rngDn lo hi)[i]? = if i < (lo - hi).toNat then some (.v (.int (lo - (i : Nat)))) else none := by
  unfold rngDn
  rw [List.getElem?_map]
  by_cases h : i < (lo - hi).toNat
  · rw [if_pos h, List.getElem?_range h]; rfl
  · rw [if_neg h, List.getElem?_eq_none (by simp; omega)]; rfl
theorem jit_rngD {K : PySem.W.Frag} {t : T} {ρ0 : List Addr} {A0 : AS} {H0 : Hp} {lo hi : Int} : JIt K (Itc lo (-1) (lo - hi).toNat) t ρ0 A0 H0 (.items (rngDn lo hi)) := by
  intro i ρ A H st ds s S e
  cases e
  rw [rngDn_get]
  refine ⟨fun d hd => ?_, fun hd => ?_⟩
  · split at hd
    · rename_i hi
      cases hd
      refine ⟨hi, fun x H' y => ?_⟩
      obtain ⟨rfl, rfl⟩ := y
      have e : lo + (i : Nat) * (-1) = lo - (i : Nat) := by omega
      rw [e]
      exact ⟨A, .refl, S, .of (.v (.int _))⟩
    · cases hd
  · split at hd
    · cases hd
    · rename_i hi
      show (_ : Nat) ≤ i
      omega
theorem rngD_two {ds xs : List D} (h : rngDOf ds = .ok xs) : ∃ i j, ds = [.v (.int i), .v (.int j)] ∧ rngOk i = true ∧ rngOk j = true ∧ xs = rngDn i j := by
  unfold rngDOf at h
  split at h
  · split at h
    · rename_i hz
      obtain ⟨z1, z2⟩ := and2 hz
      cases h; exact ⟨_, _, rfl, z1, z2, rfl⟩
    · cases h
  · cases h
theorem i_rngD (O : Okx c C X) {tg e f : Expr} {x : Str} {t : T} {a b : E} {k : Nat} {p p1 p2 pos : Pos} (hx : x = ("range" : Str)) (g1 : glB c x = true) (hn : notStar e = true) (hn2 : notStar f = true) (h : PE X e (tX false X.K C a)) (h2 : PE X f (tX false X.K C b)) :
    PI X tg (.Call (.Name x p) [e, f, .UnaryOp .USub (.Constant (.int 1) k p1) p2] [] pos) (iX X.K C t (.rngD a b)) := by
  subst hx
  have h3 : PE X (.UnaryOp .USub (.Constant (.int 1) k p1) p2) (tX false X.K C (.neg (.cst (.int 1)))) := e_neg (e_cst (by rfl))
  have hn3 : notStar (.UnaryOp .USub (.Constant (.int 1) k p1) p2) = true := rfl
  refine ⟨fun pins s σ H RR I q => ?_⟩
  obtain ⟨ρ, A, env, st, src, st', er, sr, ev, post⟩ := q
  simp only [evIt] at ev
  obtain ⟨⟨x, st1⟩, e1, ev⟩ := R.bind_eq ev
  obtain ⟨⟨y, st2⟩, e2, ev⟩ := R.bind_eq ev
  obtain ⟨xs, e3, ev⟩ := R.bind_eq ev
  simp only [R.ok.injEq, Prod.mk.injEq] at ev
  obtain ⟨rfl, rfl⟩ := ev
  dsimp only at e2
  obtain ⟨i, j, hd, ok, ok2, rfl⟩ := rngD_two e3
  have hxy : x = .v (.int i) ∧ y = .v (.int j) := by injection hd with h1 h2; injection h2 with h2 _; exact ⟨h1, h2⟩
  obtain ⟨rfl, rfl⟩ := hxy
  refine (pi_range3 (gl_of O g1) (O.bl _ (by decide)) (s_cons h (s_cons h2 (s_cons h3 s_nil hn3) hn2) hn) (by rw [star_cons hn, star_cons hn2, star_cons hn3]) (by rw [star_cons hn2, star_cons hn3]; rfl)).run pins s σ H RR I ⟨ρ, A, env, st, [.v (.int i), .v (.int j), .v (.int (-1))], st2, er, sr, by simp [evEs, e1, e2, evE, toInt], fun vs H1 ρ1 A1 s1 S1 r1 => ?_⟩
  cases r1 with
  | cons rv r1 =>
    obtain ⟨v, w, rfl, rw', rz⟩ := r1.two
    cases rv.int_eq
    cases rw'.int_eq
    cases rz.int_eq
    obtain ⟨k1, k2⟩ := rngOk_eq ok
    obtain ⟨k3, k4⟩ := rngOk_eq ok2
    exact ⟨i, j, -1, _, rfl, RgC.neg k1 k2 k3 k4, post _ _ ρ1 A1 s1 S1 ⟨_, rfl⟩ jit_rngD⟩
end
end Vi
set_option Elab.async false
set_option linter.all false
set_option maxRecDepth 100000
set_option maxHeartbeats 4000000
set_option autoImplicit false
/-! Vp: comprehensions. -/
namespace Vi
open PySem L2 PySem.Spec PyProof.Rows
section
variable {K : PySem.W.Frag} {ρ ρ' ρ2 : List Addr} {A A' A2 : AS} {H H' H2 : Hp} {st st' : Sto}
theorem Stp.opn (s : Stp ρ A H ρ' A' H') {D : Addr} {u : HO} (h1 : D ∉ ρ) (h2 : ¬ A D) (h3 : H D = some u) : D ∉ ρ' ∧ ¬ A' D ∧ H' D = some u := by
  refine ⟨fun z => ?_, fun z => ?_, s.kp _ _ h1 h3⟩
  · have := s.nw D z h1
    rw [h3] at this; cases this
  · have := (s.an D z h2).2
    rw [h3] at this; cases this
theorem Stp.over (s : Stp ρ A H ρ' A' H') {D : Addr} {u : HO} (h1 : H D = none) : Stp ρ A H ρ' A' (upd H' D u) := by
  refine ⟨s.pre, s.sub, fun a w ha e => ?_, fun a w ha e => ?_, s.nw, s.an, fun a o w e => by rw [upd_ne (ne_of_none e h1)]; exact s.fz a o w e⟩
  · rw [upd_ne (ne_of_none e h1)]; exact s.ka a w ha e
  · rw [upd_ne (ne_of_none e h1)]; exact s.kp a w ha e
theorem SR.over (S : SR K ρ A st H) {D : Addr} {u : HO} (h1 : D ∉ ρ) (h2 : ¬ A D) (ns : ∀ w, H D = some w → ¬ Still w) : SR K ρ A st (upd H D u) := by
  have ka : Kp A H (upd H D u) := fun a w ha e => by
    have z : a ≠ D := fun z => ha.elim (fun ha => h2 (z ▸ ha)) fun hs => ns w (z ▸ e) hs.still
    rw [upd_ne z]; exact e
  refine ⟨S.len, S.nd, S.off, fun a ha z => ?_, fun n o a h e => ?_⟩
  · have z2 : a ≠ D := fun z => h2 (z ▸ ha)
    rw [upd_ne z2] at z; exact S.al a ha z
  · obtain ⟨w, q1, q2⟩ := S.ob n o a h e
    have z : a ≠ D := fun z => h1 (z ▸ List.mem_of_getElem? e)
    exact ⟨w, by rw [upd_ne z]; exact q1, q2.monoA (fun _ h => h) ka⟩
end
def evG (C : Cfg) (g : Option E) (env : En) (st : Sto) : R (Bool × Sto) := match g with
  | none => .ok (true, st)
  | some c => evT C c env st
def tXG (K : PySem.W.Frag) (C : Cfg) (g : Option E) : TT := fun σ H Q => ∃ (ρ : List Addr) (A : AS) (env : En) (st : Sto) (b : Bool) (st' : Sto), ER K ρ A H σ env ∧ SR K ρ A st H ∧ evG C g env st = .ok (b, st') ∧
  ∀ H' ρ' A', Stp ρ A H ρ' A' H' → SR K ρ' A' st' H' → Q b H'
/-- one turn -/
def turnC (C : Cfg) (elt : E) (own : List Nat) (t : T) (g : Option E) (env : En) (x : D) (st : Sto) : R (Option D × Sto) := (asT C t x (wipeE env own) st).bind fun (env', st) => match g with
  | none => (evE C elt env' st).bind fun (d, st) => .ok (some d, st)
  | some c => (evE C c env' st).bind fun (x, st) => (R.of (truthOf st x)).bind fun k =>
      if k then (evE C elt env' st).bind fun (d, st) => .ok (some d, st) else .ok (none, st)
theorem turnC_eq {C : Cfg} {elt : E} {own : List Nat} {t : T} {g : Option E} {env : En} {x : D} {st st' : Sto} {o : Option D} (h : turnC C elt own t g env x st = .ok (o, st')) :
    ∃ env1 st1 b st2, asT C t x (wipeE env own) st = .ok (env1, st1) ∧ evG C g env1 st1 = .ok (b, st2) ∧ if b = true then ∃ d, o = some d ∧ evE C elt env1 st2 = .ok (d, st') else o = none ∧ st' = st2 := by
  unfold turnC at h
  obtain ⟨⟨env1, st1⟩, e1, h⟩ := R.bind_eq h
  cases g with
  | none =>
    obtain ⟨⟨d, st2⟩, e2, h⟩ := R.bind_eq h
    simp only [R.ok.injEq, Prod.mk.injEq] at h
    obtain ⟨rfl, rfl⟩ := h
    exact ⟨env1, st1, true, st1, e1, rfl, d, rfl, e2⟩
  | some c =>
    obtain ⟨⟨y, st2⟩, e2, h⟩ := R.bind_eq h
    obtain ⟨k, e3, h⟩ := R.bind_eq h
    refine ⟨env1, st1, k, st2, e1, by simp only [evG, evT, e2, R.bind_ok, e3], ?_⟩
    cases k with
    | true =>
      simp only [if_true] at h ⊢
      obtain ⟨⟨d, st3⟩, e4, h⟩ := R.bind_eq h
      simp only [R.ok.injEq, Prod.mk.injEq] at h
      obtain ⟨rfl, rfl⟩ := h
      exact ⟨d, rfl, e4⟩
    | false =>
      simp only [Bool.false_eq_true, if_false, R.ok.injEq, Prod.mk.injEq] at h ⊢
      exact ⟨h.1.symm, h.2.symm⟩
theorem evE_comp {C : Cfg} {elt : E} {own : List Nat} {t : T} {it : It} {g : Option E} {env : En} {st : Sto} : evE C (.comp elt own t it g) env st = (evIt C it env st).bind fun (src, st) => match src with
      | .items ds => compL (turnC C elt own t g env) ds st []
      | .live n => compV (turnC C elt own t g env) n C.lim 0 st [] := by
  rw [evE]
  rfl
/-- the rest of a comprehension's turns -/
def RestC (turn : D → Sto → R (Option D × Sto)) (d : D) (st' : Sto) : Src → Nat → Nat → Sto → List PyData → Prop
  | .items ds, i, m, st, acc => compL turn (ds.drop i) st acc = .ok (d, st') ∧ m = ds.length - i
  | .live n, i, m, st, acc => compV turn n m i st acc = .ok (d, st')
theorem restC_step {turn : D → Sto → R (Option D × Sto)} {d : D} {st st' : Sto} {src : Src} {i m : Nat} {acc : List PyData} (h : RestC turn d st' src i m st acc) :
    ∃ ds, srcAt st src = some ds ∧ ((ds[i]? = none ∧ d = .v (.list acc) ∧ st' = st) ∨ ∃ x o st3, ds[i]? = some x ∧ turn x st = .ok (o, st3) ∧
      ((o = none ∧ ∃ m', m' < m ∧ RestC turn d st' src (i + 1) m' st3 acc) ∨ ∃ p, o = some (.v p) ∧ acc.length < sizeLine ∧ ∃ m', m' < m ∧ RestC turn d st' src (i + 1) m' st3 (acc ++ [p]))) := by
  cases src with
  | items ds =>
    obtain ⟨h, rfl⟩ := h
    refine ⟨ds, rfl, ?_⟩
    by_cases hi : i < ds.length
    · rw [List.drop_eq_getElem_cons hi] at h
      simp only [compL] at h
      obtain ⟨⟨o, st3⟩, e1, h⟩ := R.bind_eq h
      refine .inr ⟨ds[i], o, st3, List.getElem?_eq_getElem hi, e1, ?_⟩
      dsimp only at h
      split at h
      · rename_i p
        split at h
        · rename_i hz
          exact .inr ⟨p, rfl, hz, ds.length - (i + 1), by omega, h, rfl⟩
        · cases h
      · cases h
      · exact .inl ⟨rfl, ds.length - (i + 1), by omega, h, rfl⟩
    · rw [List.drop_eq_nil_of_le (by omega)] at h
      simp only [compL, R.ok.injEq, Prod.mk.injEq] at h
      exact .inl ⟨List.getElem?_eq_none (by omega), h.1.symm, h.2.symm⟩
  | live n =>
    have h : compV turn n m i st acc = .ok (d, st') := h
    cases m with
    | zero => simp [compV] at h
    | succ k =>
      simp only [compV] at h
      split at h
      · rename_i xs hs
        refine ⟨xs, by simp [srcAt, hs], ?_⟩
        split at h
        · rename_i x hx
          obtain ⟨⟨o, st3⟩, e1, h⟩ := R.bind_eq h
          refine .inr ⟨x, o, st3, hx, e1, ?_⟩
          dsimp only at h
          split at h
          · rename_i p
            split at h
            · rename_i hz
              exact .inr ⟨p, rfl, hz, k, by omega, h⟩
            · cases h
          · cases h
          · exact .inl ⟨rfl, k, by omega, h⟩
        · rename_i hx
          simp only [R.ok.injEq, Prod.mk.injEq] at h
          exact .inl ⟨hx, h.1.symm, h.2.symm⟩
      · cases h
section
variable {C : Cfg} {X : Cx} {c : CC}
theorem lc_imp {K : PySem.W.Frag} {elt : E} {own : List Nat} {t : T} {it : It} {g : Option E} (hown : ∀ i ∈ tNames t, i ∈ own) {σ : L2.St} {H : Hp} {Q : VK} (q : tX true K C (.comp elt own t it g) σ H Q) :
    tLc (iX K C t it) (gX K C t) (tXG K C g) (tX false K C elt) own σ H Q := by
  obtain ⟨ρ, A, env, st, d, st', er, sr, ev, post⟩ := q
  rw [evE_comp] at ev
  obtain ⟨⟨src, st1⟩, e1, ev⟩ := R.bind_eq ev
  refine ⟨ρ, A, env, st, src, st1, er, sr, e1, fun J H1 ρ1 A1 s1 S1 hds jit Dd hD => ?_⟩
  have hD0 : H Dd = none := s1.free (fun z => S1.notmem hD (s1.pre.subset z)) hD
  have start : ∃ m, RestC (turnC C elt own t g env) d st' src 0 m st1 [] := by
    dsimp only at ev
    cases src with
    | items ds => exact ⟨ds.length, by simpa using ev, by simp⟩
    | live n => exact ⟨C.lim, ev⟩
  refine ⟨fun i m H2 => ∃ (ρ2 : List Addr) (A2 : AS) (st2 : Sto) (vacc : List V) (acc : List PyData), Stp ρ1 A1 H1 ρ2 A2 H2 ∧ SR K ρ2 A2 st2 H2 ∧ Dd ∉ ρ2 ∧ ¬ A2 Dd ∧ H2 Dd = some (.lst vacc) ∧ RPs A2 H2 vacc acc ∧ RestC (turnC C elt own t g env) d st' src i m st2 acc, ?_, ?_⟩
  · obtain ⟨m, h⟩ := start
    exact ⟨m, ρ1, A1, st1, [], [], Stp.laid0 hD, S1.laid0 hD, S1.notmem hD, fun z => S1.al _ z hD, upd_same, .nil, h⟩
  · rintro i m H2 ⟨ρ2, A2, st2, vacc, acc, s2, S2, d1, d2, d3, racc, rest⟩
    obtain ⟨ds, hsrc, rest⟩ := restC_step rest
    obtain ⟨j1, j2⟩ := jit i ρ2 A2 H2 st2 ds s2 S2 hsrc
    rcases rest with ⟨hn, rfl, rfl⟩ | ⟨x, o, st3, hx, ht, rest⟩
    · exact .inl ⟨j2 hn, post _ H2 ρ2 A2 (s1.trans s2) S2 ⟨Dd, vacc, rfl, hD0, d2, d1, d3, racc⟩⟩
    · obtain ⟨go, yl⟩ := j1 x hx
      refine .inr ⟨go, fun H' => ∃ m', m' < m ∧ ∃ (ρ2 : List Addr) (A2 : AS) (st2 : Sto) (vacc : List V) (acc : List PyData), Stp ρ1 A1 H1 ρ2 A2 H' ∧ SR K ρ2 A2 st2 H' ∧ Dd ∉ ρ2 ∧ ¬ A2 Dd ∧ H' Dd = some (.lst vacc) ∧ RPs A2 H' vacc acc ∧ RestC (turnC C elt own t g env) d st' src (i + 1) m' st2 acc, fun H' h => h, fun v H3 y => ?_⟩
      obtain ⟨A3, s3, S3, rv⟩ := yl v H3 y
      obtain ⟨env1, st4, b, st5, k1, k2, k3⟩ := turnC_eq ht
      have er3 : ER K ρ2 A3 H3 (L2.wipe σ own) (wipeE env own) := (er.mono ((s1.trans s2).trans s3)).wipe own
      refine ⟨ρ2, A3, wipeE env own, st2, x, env1, st4, er3, S3, rv, k1, fun σ4 H4 ρ4 A4 s4 S4 er4 fr => ⟨fr.wipe hown, ?_⟩⟩
      refine ⟨ρ4, A4, env1, st4, b, st5, er4, S4, k2, fun H5 ρ5 A5 s5 S5 => ?_⟩
      have sAll : Stp ρ2 A2 H2 ρ5 A5 H5 := (s3.trans s4).trans s5
      cases b with
      | false =>
        simp only [Bool.false_eq_true, if_false] at k3 ⊢
        obtain ⟨rfl, rfl⟩ := k3
        rcases rest with ⟨_, m', hm, rest⟩ | ⟨p, hp, _⟩
        · obtain ⟨q1, q2, q3⟩ := sAll.opn d1 d2 d3
          exact ⟨m', hm, ρ5, A5, _, vacc, acc, s2.trans sAll, S5, q1, q2, q3, racc.mono sAll.sub sAll.ka, rest⟩
        · cases hp
      | true =>
        simp only [if_true] at k3 ⊢
        obtain ⟨dd, rfl, k4⟩ := k3
        rcases rest with ⟨hp, _⟩ | ⟨p, hp, hz, m', hm, rest⟩
        · cases hp
        · cases hp
          refine ⟨ρ5, A5, env1, st5, _, st3, er4.mono s5, S5, k4, fun y H6 ρ6 A6 s6 S6 r6 => ?_⟩
          have s26 : Stp ρ2 A2 H2 ρ6 A6 H6 := sAll.trans s6
          obtain ⟨q1, q2, q3⟩ := s26.opn d1 d2 d3
          have rp : RP A6 H6 y p := by cases (show RD K ρ6 A6 H6 y (.v p) from r6) with | v r => exact r
          have ka : Kp A6 H6 (upd H6 Dd (.lst (vacc ++ [y]))) := fun a w ha e => by
            have z : a ≠ Dd := fun z => ha.elim (fun ha => q2 (z ▸ ha)) fun hs => ns_lst q3 w (z ▸ e) hs.still
            rw [upd_ne z]; exact e
          have racc6 := (racc.mono s26.sub s26.ka).append (.cons rp .nil)
          exact ⟨vacc, q3, by rw [racc.length]; exact hz, m', hm, ρ6, A6, st3, vacc ++ [y], acc ++ [p], (s2.trans s26).over hD, S6.over q1 q2 (ns_lst q3), q1, q2, upd_same, racc6.mono (fun _ h => h) ka, rest⟩
/-! ### the block's context -/
theorem lookup_relS {scope sc : Scope} {x : Str} {k : NameKind} (h : scope.names.lookup x = some k) (hk : k = .local ∨ k = .cell) : (relS scope sc).names.lookup x = some k := by
  unfold relS
  dsimp only
  generalize scope.names = l at h
  induction l with
  | nil => cases h
  | cons p l ih =>
    obtain ⟨n, v⟩ := p
    rw [List.lookup_cons] at h
    rw [List.map_cons]
    cases hx : (x == n) with
    | true =>
      rw [hx] at h
      cases h
      have e1 : (k == NameKind.free) = false := by rcases hk with rfl | rfl <;> rfl
      simp only [e1, Bool.false_and, Bool.false_eq_true, if_false]
      rw [List.lookup_cons, hx]
    | false =>
      rw [hx] at h
      split
      · rw [List.lookup_cons, hx]; exact ih h
      · rw [List.lookup_cons, hx]; exact ih h
theorem okx_blk (O : Okx c C X) (scope : Scope) (s : Shared) (H : Hp) (Ca : Addr) (cl : List (Str × Addr)) (fp : List Addr) : Okx (blkCC c scope) C (X.blk s H scope (compEnvC scope cl Ca X.env) fp) where
  sc := by
    show relS scope X.env.scope = relS scope c.sc
    rw [O.sc]
  N := O.N
  nd := O.nd
  calm := O.calm
  st := fun x h => by
    unfold locB at h
    show Loc (relS scope X.env.scope) x ∧ ((scope.names.lookup x == some .cell) = true ∨ (relS scope X.env.scope).names.lookup x = some .local)
    have h : (match scope.names.lookup x with
      | some .local => true
      | some .cell => true
      | _ => false) = true := h
    split at h
    · rename_i e
      exact ⟨.inl (lookup_relS e (.inl rfl)), .inr (lookup_relS e (.inl rfl))⟩
    · rename_i e
      exact ⟨.inr (lookup_relS e (.inr rfl)), .inl (by rw [e]; rfl)⟩
    · cases h
  bl := O.bl
  un := O.un
  gu := O.gu
  pass := PassesOwn.never
  gi := O.gi
  call := O.call
theorem g_none : PTs X [] (tXG X.K C none) := by
  refine ⟨fun pins s σ H Q I q => ?_⟩
  obtain ⟨ρ, A, env, st, b, st', er, sr, ev, post⟩ := q
  simp only [evG, R.ok.injEq, Prod.mk.injEq] at ev
  obtain ⟨rfl, rfl⟩ := ev
  exact pts_nil.run pins s σ H Q I (post H ρ A .refl sr)
theorem g_some {e : Expr} {a : E} (h : PT X e (tXT X.K C a)) : PTs X [e] (tXG X.K C (some a)) := by
  refine ⟨fun pins s σ H Q I q => ?_⟩
  obtain ⟨ρ, A, env, st, b, st', er, sr, ev, post⟩ := q
  exact (pts_one h).run pins s σ H Q I ⟨ρ, A, env, st, b, st', er, sr, ev, post⟩
theorem folded_of {iter : Expr} (h : notSet iter = true) (x : Value) : foldedSetIterable iter X.env x = pure x := by
  cases iter <;> first | rfl | (simp [notSet] at h)
theorem own_map (own : List Nat) : (ownOf c own).map (·.2) = own := by
  unfold ownOf
  rw [List.map_map]
  conv => rhs; rw [← List.map_id own]
  rfl
theorem e_comp (O : Okx c C X) {elt tg iter : Expr} {ifs : List Expr} {scope : Scope} {pos : Pos} {elt' : E} {own : List Nat} {t : T} {it : It} {g : Option E} (hb : blkC c.N c.sc scope (ownOf c own) = true) (ho : (tNames t).all (fun i => own.contains i) = true) (hs : notSet iter = true)
    (hi : PI X tg iter (iX X.K C t it)) (hg : ∀ (s : Shared) (H : Hp) (Ca : Addr) (cl : List (Str × Addr)) (fp : List Addr), PG (X.blk s H scope (compEnvC scope cl Ca X.env) fp) tg (gX X.K C t))
    (ht : ∀ (s : Shared) (H : Hp) (Ca : Addr) (cl : List (Str × Addr)) (fp : List Addr), PTs (X.blk s H scope (compEnvC scope cl Ca X.env) fp) ifs (tXG X.K C g))
    (he : ∀ (s : Shared) (H : Hp) (Ca : Addr) (cl : List (Str × Addr)) (fp : List Addr), PE (X.blk s H scope (compEnvC scope cl Ca X.env) fp) elt (tX false X.K C elt')) :
    PE X (.ListComp elt [⟨tg, iter, ifs, 0⟩] scope pos) (tX true X.K C (.comp elt' own t it g)) := by
  refine ⟨fun pins s σ H Q I q => ?_⟩
  have hb' : BlkOk X.N X.env.scope scope (ownOf c own) := by
    rw [O.N, O.sc]; exact blkOk_by hb
  have q' := lc_imp (fun i hi => by
    have := List.all_eq_true.mp ho i hi
    simpa using this) q
  have := (pe_lc (own := ownOf c own) (pos := pos) O.calm (by rw [O.N]; exact O.nd) hi hb' hg ht he (folded_of hs)).run pins s σ H Q I
  rw [own_map] at this
  exact this q'
end
end Vi
set_option Elab.async false
set_option linter.all false
set_option maxRecDepth 100000
set_option maxHeartbeats 4000000
set_option autoImplicit false
/-! Vq: what comes to the store; tests. -/
namespace Vi
open PySem L2 PySem.Spec PyProof.Rows
theorem Stp.push {ρ ρ2 : List Addr} {A A2 : AS} {H H2 : Hp} (s : Stp ρ A H ρ2 A2 H2) {p : Addr} (h : H p = none) : Stp ρ A H (ρ2 ++ [p]) A2 H2 := by
  refine ⟨s.pre.trans (List.prefix_append _ _), s.sub, s.ka, s.kp, fun a ha n => ?_, s.an, s.fz⟩
  rcases List.mem_append.mp ha with ha | ha
  · exact s.nw a ha n
  · have : a = p := by simpa using ha
    exact this ▸ h
section
variable {C : Cfg} {X : Cx} {c : CC}
theorem e_new {e : Expr} {a : E} {fr : Bool} (h : PE X e (tX true X.K C a)) : PE X e (tX fr X.K C (.new a)) := by
  refine ⟨fun pins s σ H Q I q => ?_⟩
  obtain ⟨ρ, A, env, st, d, st', er, sr, ev, post⟩ := q
  simp only [evE] at ev
  obtain ⟨⟨x, st1⟩, e1, ev⟩ := R.bind_eq ev
  dsimp only at ev
  refine h.run pins s σ H Q I ⟨ρ, A, env, st, x, st1, er, sr, e1, fun v H1 ρ1 A1 s1 S1 p => ?_⟩
  unfold alloc at ev
  split at ev
  · rename_i xs
    simp only [R.ok.injEq, Prod.mk.injEq] at ev
    obtain ⟨rfl, rfl⟩ := ev
    obtain ⟨a0, vs, rfl, h0, h1, h2, h3, h4⟩ := p
    have S2 := S1.push (o := .lst (xs.map .v)) h2 h1 h3 (.lst h4.rd)
    exact post _ H1 (ρ1 ++ [a0]) A1 (s1.push h0) S2 (.of (.ref (by rw [← S1.len]; simp)) fun _ z => nomatch z)
  · cases ev
/-! ### a new dict -/
def trsOf (K : PySem.W.Frag) (C : Cfg) (kvs : List (Str × E)) : List (TE × TE) := kvs.map fun kv => (tC (.str kv.1), tX false K C kv.2)
theorem pairs_run {K : PySem.W.Frag} {σ : L2.St} {R1 : List (V × V) → Hp → Prop} : ∀ {kvs : List (Str × E)} {ρ : List Addr} {A : AS} {H : Hp} {env : En} {st st' : Sto} {kds : List (Str × D)}, ER K ρ A H σ env → SR K ρ A st H → evKs C kvs env st = .ok (kds, st') →
    (∀ kvs' H' ρ' A', Stp ρ A H ρ' A' H' → SR K ρ' A' st' H' → KVs K ρ' A' H' kvs' kds → R1 (kvs'.map fun kv => (kV kv.1, kv.2)) H') → tPairs (trsOf K C kvs) σ H R1 := by
  intro kvs
  induction kvs generalizing R1 with
  | nil =>
    intro ρ A H env st st' kds er sr ev post
    simp only [evKs, R.ok.injEq, Prod.mk.injEq] at ev
    obtain ⟨rfl, rfl⟩ := ev
    exact post [] H ρ A .refl sr .nil
  | cons kv kvs ih =>
    intro ρ A H env st st' kds er sr ev post
    obtain ⟨k, e⟩ := kv
    simp only [evKs] at ev
    obtain ⟨⟨d, st1⟩, e1, ev⟩ := R.bind_eq ev
    obtain ⟨⟨ds, st2⟩, e2, ev⟩ := R.bind_eq ev
    simp only [R.ok.injEq, Prod.mk.injEq] at ev
    obtain ⟨rfl, rfl⟩ := ev
    refine one_tX er sr e1 fun v H1 ρ1 A1 s1 S1 r1 => ?_
    refine ih (er.mono s1) S1 e2 fun kvs' H' ρ' A' s' S' r' => ?_
    exact post ((kK k, v) :: kvs') H' ρ' A' (s1.trans s') S' (.cons (r1.mono s') r')
theorem mergeK_nodup {K : PySem.W.Frag} {ρ : List Addr} {A : AS} {H : Hp} {kvs : List (Key × V)} {kds : List (Str × D)} (h : KVs K ρ A H kvs kds) (hn : (kds.map (·.1)).Nodup) : mergeK [] kvs = kvs := by
  have gen : ∀ {kvs : List (Key × V)} {kds : List (Str × D)} (acc : List (Key × V)), KVs K ρ A H kvs kds → (kds.map (·.1)).Nodup → (∀ k ∈ kds.map (·.1), valV acc (kK k) = none) → mergeK acc kvs = acc ++ kvs := by
    intro kvs kds acc h
    induction h generalizing acc with
    | nil => intro _ _; simp [mergeK]
    | cons r t ih =>
      rename_i k v d kvs kds
      intro hn ha
      rw [List.map_cons, List.nodup_cons] at hn
      show mergeK (putK acc (kK k) v) kvs = _
      rw [putK_new v (ha k (by simp))]
      rw [ih _ hn.2 fun k' hk' => ?_]
      · simp
      · have hne : k' ≠ k := fun z => hn.1 (z ▸ hk')
        have h1 := ha k' (by simp only [List.map_cons, List.mem_cons]; exact .inr hk')
        clear ih ha
        induction acc with
        | nil => exact valV_neg fun z => hne (Sum.inr.inj z).symm
        | cons p acc ih2 =>
          rw [List.cons_append]
          by_cases e : p.1 = kK k'
          · rw [valV_pos e] at h1; cases h1
          · rw [valV_neg e] at h1 ⊢
            exact ih2 h1
  have := gen [] h hn fun _ _ => rfl
  simpa using this
theorem evKs_keys {env : En} : ∀ {kvs : List (Str × E)} {st st' : Sto} {kds : List (Str × D)}, evKs C kvs env st = .ok (kds, st') → kds.map (·.1) = kvs.map (·.1) := by
  intro kvs
  induction kvs with
  | nil =>
    intro st st' kds ev
    simp only [evKs, R.ok.injEq, Prod.mk.injEq] at ev
    rw [← ev.1]; rfl
  | cons kv kvs ih =>
    intro st st' kds ev
    obtain ⟨k, e⟩ := kv
    simp only [evKs] at ev
    obtain ⟨⟨d, st1⟩, e1, ev⟩ := R.bind_eq ev
    obtain ⟨⟨ds, st2⟩, e2, ev⟩ := R.bind_eq ev
    simp only [R.ok.injEq, Prod.mk.injEq] at ev
    obtain ⟨rfl, rfl⟩ := ev
    rw [List.map_cons, List.map_cons, ih e2]
theorem e_ndct {ks : List (Option Expr)} {vs : List Expr} {kvs : List (Str × E)} {pos : Pos} {fr : Bool} (h : PPs X pos ks vs (trsOf X.K C kvs)) (hall : ks.all (·.isSome) = true) (hl : ks.length = vs.length) (h0 : ks ≠ []) (h15 : ks.length ≤ 15) (hk : ks.length = kvs.length) (hn : (kvs.map (·.1)).Nodup) :
    PE X (.Dict ks vs pos) (tX fr X.K C (.ndct kvs)) := by
  refine ⟨fun pins s σ H Q I q => ?_⟩
  obtain ⟨ρ, A, env, st, d, st', er, sr, ev, post⟩ := q
  simp only [evE] at ev
  obtain ⟨⟨kds, st1⟩, e1, ev⟩ := R.bind_eq ev
  simp only [R.ok.injEq, Prod.mk.injEq] at ev
  obtain ⟨rfl, rfl⟩ := ev
  refine (pe_disp h hall hl h0 h15).run pins s σ H Q I fun p hp => ?_
  have s0 : Stp ρ A H ρ A (upd H p (.dK [])) := Stp.laid0 hp
  have np := sr.notmem hp
  have na : ¬ A p := fun z => sr.al _ z hp
  refine pairs_run (er.mono s0) (sr.laid0 hp) e1 fun kvs' H2 ρ2 A2 s2 S2 r2 => ?_
  obtain ⟨q1, q2, q3⟩ := s2.opn np na upd_same
  have hlen : kvs'.length = kvs.length := by
    rw [kvs_length r2]
    have := congrArg List.length (evKs_keys e1)
    simpa using this
  refine ⟨q3, kvs', rfl, by omega, ?_⟩
  rw [mergeK_nodup r2 (by rw [evKs_keys e1]; exact hn)]
  have ka : Kp A2 H2 (upd H2 p (.dK kvs')) := fun a w ha e => by
    have z : a ≠ p := fun z => ha.elim (fun ha => q2 (z ▸ ha)) fun hs => ns_dK q3 w (z ▸ e) hs.still
    rw [upd_ne z]; exact e
  have S3 := (S2.over (u := .dK kvs') q1 q2 (ns_dK q3)).push (o := .dct kds) q1 q2 upd_same (.dct (r2.mono3 (List.prefix_refl _) (fun _ h => h) ka))
  refine post _ _ (ρ2 ++ [p]) A2 (((s0.trans s2).over hp).push hp) S3 (.of (.ref ?_) fun _ z => nomatch z)
  show (ρ2 ++ [p])[st1.length]? = some p
  rw [← S2.len]; simp
/-! ### tests -/
theorem t_isN {e : Expr} {a : E} {b : Bool} {n : Nat} {p pos : Pos} (h : PE X e (tX false X.K C a)) : PT X (.Compare e [if b then .IsNot else .Is] [.Constant .none n p] pos) (tXT X.K C (.isN b a)) := by
  refine ⟨fun pins s σ H Q I q => ?_⟩
  obtain ⟨ρ, A, env, st, d, st', er, sr, ev, post⟩ := q
  simp only [evT, evE] at ev
  obtain ⟨⟨x0, st0⟩, e0, ev⟩ := R.bind_eq ev
  obtain ⟨⟨x, st1⟩, e1, e0⟩ := R.bind_eq e0
  simp only [R.ok.injEq, Prod.mk.injEq] at e0
  obtain ⟨rfl, rfl⟩ := e0
  simp only [truthOf, R.of_some, R.bind_ok, R.ok.injEq, Prod.mk.injEq] at ev
  obtain ⟨rfl, rfl⟩ := ev
  have key : ∀ {ρ1 : List Addr} {A1 : AS} {H1 : Hp} {v : V}, RD X.K ρ1 A1 H1 v x → decide (v = V.non) = isNone x := fun {ρ1 A1 H1 v} r => by
    cases r with
    | v r => cases r <;> simp [isNone]
    | ref _ => simp [isNone]
    | scr _ => simp [isNone]
  cases b with
  | true =>
    refine (pt_cmp (pc_notN h) (by rfl)).run pins s σ H Q I (one_tX er sr e1 fun v H1 ρ1 A1 s1 S1 r1 => ⟨_, rfl, ?_⟩)
    rw [key r1]; exact post _ ρ1 A1 s1 S1
  | false =>
    refine (pt_cmp (pc_isN h) (by rfl)).run pins s σ H Q I (one_tX er sr e1 fun v H1 ρ1 A1 s1 S1 r1 => ⟨_, rfl, ?_⟩)
    rw [key r1]; exact post _ ρ1 A1 s1 S1
end
end Vi
set_option Elab.async false
set_option linter.all false
set_option maxRecDepth 100000
set_option maxHeartbeats 4000000
set_option autoImplicit false
/-! Vqd: new dicts. -/
namespace Vi
open PySem L2 PySem.Spec PyProof.Rows
section
variable {C : Cfg} {X : Cx} {c : CC}
def tDisp1T (tk tv : TE) : TE := fun σ H Q => ∀ p, H p = none → tPairs [(tk, tv)] σ (upd H p (.dT [])) fun ps H2 => H2 p = some (.dT []) ∧ ∃ (b : Addr) (k : List L2.Key) (y : V), ps = [(.ref b, y)] ∧ H2 b = some (.tup (k.map kV)) ∧ Q (.ref p) (upd H2 p (.dT [(k, y)]))
theorem pe_disp1T (hu : X.A.units + 1 < cLine) {k v : Expr} {tk tv : TE} {pos : Pos} (hk : PE X k tk) (hv : PE X v tv) : PE X (.Dict [some k] [v] pos) (tDisp1T tk tv) := by
  refine ⟨fun pins s σ H Q I q => ?_⟩
  have hn := I.hok.fresh (Nat.le_refl s.heap.objs.size)
  have I1 := I.laid (a := s.heap.objs.size) (o := .dT []) (h' := s.heap.push { cls := .type "dict", data := .dict #[] }) (t' := s.toks) (fun _ _ q => Heap.get?_push_of_some _ q) (Nat.le_refl _) (dt_empty s.heap I.big)
  have pp : PPs X pos [some k] [v] [(tk, tv)] := pps_cons hk hv pps_nil
  refine wpAny_Dict_any rfl rfl (by simp) (by simp) (thn (pp.run pins _ σ _ _ I1 (q _ hn)) fun ws s2 h => ?_)
  obtain ⟨ps, H2, I2, rel, hp, b, kk, y, e, hb, q2⟩ := h
  subst e
  cases rel with
  | cons rx rt =>
    cases rt
    rename_i vw
    obtain ⟨key, val⟩ := vw
    obtain ⟨r1, r2⟩ := rx
    cases (show key = Value.ref b from r1)
    obtain ⟨z, hd, xs, r0, dd⟩ := dt_of I2.hok hp
    cases r0
    unfold storeAll
    refine wpAny_storeAllH (knd := tupleKind (mixKind X.prog X.w)) (show X.A.units < cLine by omega) [(Value.ref b, val)] [(kk, b, val)] [] s2 _ ⟨rfl, rfl, key_of I2.hok hb, trivial⟩ dd (by simp [sizeLine_eq]) fun h' tk' dd' hs => ?_
    obtain ⟨qo, es, ep, hq, h2, h3, h4, _, h5⟩ := dd'
    refine ⟨V.ref s.heap.objs.size, upd H2 s.heap.objs.size (.dT [(kk, y)]), d_write I2 (by rw [hp]; exact True.intro) hs ⟨qo, hq⟩ ⟨by simp [sizeLine_eq], hd, [(kk, b, val)], .cons ⟨rfl, ?_, r2⟩ .nil, qo, es, ep, hq, h2, h3, h4, h5⟩, rfl, q2⟩
    rw [upd_ne (ne_of hb hp (fun z => nomatch z))]
    exact hb
theorem e_nd {t fr : Bool} {pos : Pos} : PE X (.Dict [] [] pos) (tX fr X.K C (.nd t)) := by
  refine ⟨fun pins s σ H Q I q => ?_⟩
  obtain ⟨ρ, A, env, st, d, st', er, sr, ev, post⟩ := q
  simp only [evE, R.ok.injEq, Prod.mk.injEq] at ev
  obtain ⟨rfl, rfl⟩ := ev
  cases t with
  | true =>
    refine pe_dnewT.run pins s σ H Q I fun p hp => ?_
    have S1 := (sr.laid0 (u := .dT []) hp).push (o := .dt false []) (sr.notmem hp) (fun z => sr.al _ z hp) upd_same (.dt .nil)
    refine post _ _ (ρ ++ [p]) A ((Stp.laid0 hp).push hp) S1 (.of (.ref ?_) fun _ z => nomatch z)
    show (ρ ++ [p])[st.length]? = some p
    rw [← sr.len]; simp
  | false =>
    refine pe_dnewK.run pins s σ H Q I fun p hp => ?_
    have S1 := (sr.laid0 (u := .dK []) hp).push (o := .dk false []) (sr.notmem hp) (fun z => sr.al _ z hp) upd_same (.dk .nil)
    refine post _ _ (ρ ++ [p]) A ((Stp.laid0 hp).push hp) S1 (.of (.ref ?_) fun _ z => nomatch z)
    show (ρ ++ [p])[st.length]? = some p
    rw [← sr.len]; simp
theorem e_nd1 (O : Okx c C X) {t fr : Bool} {k v : Expr} {a b : E} {pos : Pos} (h1 : PE X k (tX false X.K C a)) (h2 : PE X v (tX false X.K C b)) : PE X (.Dict [some k] [v] pos) (tX fr X.K C (.nd1 t a b)) := by
  refine ⟨fun pins s σ H Q I q => ?_⟩
  obtain ⟨ρ, A, env, st, d, st', er, sr, ev, post⟩ := q
  simp only [evE] at ev
  obtain ⟨⟨x, st1⟩, e1, ev⟩ := R.bind_eq ev
  obtain ⟨⟨y, st2⟩, e2, ev⟩ := R.bind_eq ev
  cases x with
  | ref _ => cases ev
  | scr _ => cases ev
  | v p0 =>
    cases t with
    | true =>
      obtain ⟨kk, e3, ev⟩ := R.bind_eq (show (R.of (toKeys p0)).bind (fun k => R.ok (D.ref st2.length, st2 ++ [Vi.O.dt false [(k, y)]])) = R.ok (d, st') from ev)
      simp only [R.ok.injEq, Prod.mk.injEq] at ev
      obtain ⟨rfl, rfl⟩ := ev
      have ek := toKeys_eq (R.of_eq e3)
      subst ek
      refine (pe_disp1T (by have := O.un; omega) h1 h2).run pins s σ H Q I fun p hp => ?_
      have s0 : Stp ρ A H ρ A (upd H p (.dT [])) := Stp.laid0 hp
      have np := sr.notmem hp
      have na : ¬ A p := fun z => sr.al _ z hp
      show tX false X.K C a σ (upd H p (.dT [])) _
      refine two_tX (er.mono s0) (sr.laid0 hp) e1 e2 fun v' w' H2 ρ2 A2 s2 S2 rv rw' => ?_
      obtain ⟨q1, q2, q3⟩ := s2.opn np na upd_same
      have nsp : ∀ w, H2 p = some w → ¬ Still w := fun w e => by rw [q3] at e; cases e; exact id
      cases rv with
      | v rp =>
        obtain ⟨b0, rfl, hb⟩ := rp.keyT
        refine ⟨q3, b0, kk, w', rfl, hb, ?_⟩
        have ka : Kp A2 H2 (upd H2 p (.dT [(kk, w')])) := fun a w ha e => by
          have z : a ≠ p := fun z => ha.elim (fun ha => q2 (z ▸ ha)) fun hs => nsp w (z ▸ e) hs.still
          rw [upd_ne z]; exact e
        have S3 := (S2.over (u := .dT [(kk, w')]) q1 q2 nsp).push (o := .dt false [(kk, y)]) q1 q2 upd_same (.dt (.cons (rw'.mono3 (List.prefix_refl _) (fun _ h => h) ka) .nil))
        refine post _ _ (ρ2 ++ [p]) A2 (((s0.trans s2).over hp).push hp) S3 (.of (.ref ?_) fun _ z => nomatch z)
        show (ρ2 ++ [p])[st2.length]? = some p
        rw [← S2.len]; simp
    | false =>
      obtain ⟨kk, e3, ev⟩ := R.bind_eq (show (R.of (toKey p0)).bind (fun k => R.ok (D.ref st2.length, st2 ++ [Vi.O.dk false [(k, y)]])) = R.ok (d, st') from ev)
      simp only [R.ok.injEq, Prod.mk.injEq] at ev
      obtain ⟨rfl, rfl⟩ := ev
      have ek := toKey_eq (R.of_eq e3)
      subst ek
      refine (pe_disp (pps_cons h1 h2 pps_nil) rfl rfl (by simp) (by simp)).run pins s σ H Q I fun p hp => ?_
      have s0 : Stp ρ A H ρ A (upd H p (.dK [])) := Stp.laid0 hp
      have np := sr.notmem hp
      have na : ¬ A p := fun z => sr.al _ z hp
      show tX false X.K C a σ (upd H p (.dK [])) _
      refine two_tX (er.mono s0) (sr.laid0 hp) e1 e2 fun v' w' H2 ρ2 A2 s2 S2 rv rw' => ?_
      obtain ⟨q1, q2, q3⟩ := s2.opn np na upd_same
      cases rv with
      | v rp =>
        cases rp.key
        refine ⟨q3, [(kk, w')], rfl, by simp, ?_⟩
        show Q (.ref p) (upd H2 p (.dK [(kk, w')]))
        have ka : Kp A2 H2 (upd H2 p (.dK [(kk, w')])) := fun a w ha e => by
          have z : a ≠ p := fun z => ha.elim (fun ha => q2 (z ▸ ha)) fun hs => ns_dK q3 w (z ▸ e) hs.still
          rw [upd_ne z]; exact e
        have S3 := (S2.over (u := .dK [(kk, w')]) q1 q2 (ns_dK q3)).push (o := .dk false [(kk, y)]) q1 q2 upd_same (.dk (.cons (rw'.mono3 (List.prefix_refl _) (fun _ h => h) ka) .nil))
        refine post _ _ (ρ2 ++ [p]) A2 (((s0.trans s2).over hp).push hp) S3 (.of (.ref ?_) fun _ z => nomatch z)
        show (ρ2 ++ [p])[st2.length]? = some p
        rw [← S2.len]; simp
theorem e_gint (O : Okx c C X) {x : Str} {i : Int} {fr : Bool} {p : Pos} (h1 : c.gi.lookup x = some i) (g : glB c x = true) (hd : (x == dbg) = false) : PE X (.Name x p) (tX fr X.K C (.gint x i)) := by
  obtain ⟨t, ht⟩ := O.gi x i h1
  refine ⟨fun pins s σ H Q I q => ?_⟩
  obtain ⟨ρ, A, env, st, d, st', er, sr, ev, post⟩ := q
  simp only [evE, R.ok.injEq, Prod.mk.injEq] at ev
  obtain ⟨rfl, rfl⟩ := ev
  exact (pe_glob (v := .int i) (gl_of O g) ht ⟨t, rfl⟩ hd).run pins s σ H Q I (post _ H ρ A .refl sr (.of (.v (.int i)) fun _ z => nomatch z))
theorem pairs_at {K : PySem.W.Frag} {A : AS} {H : Hp} : ∀ {vs : List V} {ps : List PyData} {kps : List (L2.Key × PyData)}, RPs A H vs ps → pairKs ps = some kps →
    ∃ (qs : List Addr) (kvs : List (L2.Key × V)), vs = qs.map V.ref ∧ Paired (fun p kv => SqT K H p [kV kv.1, kv.2]) qs kvs ∧ Paired (fun (kv : L2.Key × V) (kp : L2.Key × PyData) => kv.1 = kp.1 ∧ RP A H kv.2 kp.2) kvs kps
  | _, _, _, .nil, h => by
    simp only [pairKs, Option.some.injEq] at h
    subst h
    exact ⟨[], [], rfl, .nil, .nil⟩
  | _, _, _, .cons (p := p) r t, h => by
    unfold pairKs at h
    split at h
    · rename_i heq; cases heq
    · rename_i k p0 r0 heq
      cases heq
      rw [Option.bind_eq_some_iff] at h
      obtain ⟨k', hk, h⟩ := h
      rw [Option.map_eq_some_iff] at h
      obtain ⟨kps, h, rfl⟩ := h
      obtain ⟨qs, kvs, rfl, h1, h2⟩ := pairs_at (K := K) t h
      have ek := toKey_eq hk
      subst ek
      cases r with
      | tup hq rs =>
        cases rs with
        | cons rk rs =>
          cases rs with
          | cons rp rs =>
            cases rs
            cases rk.key
            exact ⟨_ :: qs, (k', _) :: kvs, rfl, .cons (.inl (.inl hq)) h1, .cons ⟨rfl, rp⟩ h2⟩
    · cases h
theorem merge_at {K : PySem.W.Frag} {ρ : List Addr} {A : AS} {H : Hp} : ∀ {kvs : List (L2.Key × V)} {kps : List (L2.Key × PyData)} {acc : List (L2.Key × V)} {acc' : List (L2.Key × D)}, Paired (fun (kv : L2.Key × V) (kp : L2.Key × PyData) => kv.1 = kp.1 ∧ RP A H kv.2 kp.2) kvs kps →
    KVg L2.Key K ρ A H acc acc' → KVg L2.Key K ρ A H (mergeK acc kvs) (kps.foldl (fun acc kv => kput acc kv.1 (.v kv.2)) acc') := by
  intro kvs kps acc acc' h
  induction h generalizing acc acc' with
  | nil => exact fun r => r
  | @cons p q ps qs hq t ih =>
    intro r
    obtain ⟨e1, e2⟩ := hq
    obtain ⟨k, v⟩ := p
    obtain ⟨k', d⟩ := q
    cases e1
    exact ih (kvg_put (.v e2) r)
theorem mergeK_length : ∀ (more kvs : List (L2.Key × V)), (mergeK kvs more).length ≤ kvs.length + more.length := length_mergeK
theorem e_dpairs (O : Okx c C X) {x : Str} {e : Expr} {a : E} {fr : Bool} {p pos : Pos} (hx : x = ("dict" : Str)) (g1 : glB c x = true) (hn : notStar e = true) (h : PE X e (tX false X.K C a)) :
    PE X (.Call (.Name x p) [e] [] pos) (tX fr X.K C (.dpairs a)) := by
  subst hx
  refine ⟨fun pins s σ H Q I q => ?_⟩
  obtain ⟨ρ, A, env, st, d, st', er, sr, ev, post⟩ := q
  simp only [evE] at ev
  obtain ⟨⟨x, st1⟩, e1, ev⟩ := R.bind_eq ev
  dsimp only at ev
  cases hs : seqOf st1 x with
  | none => rw [hs] at ev; cases ev
  | some bd =>
  obtain ⟨b, ds⟩ := bd
  rw [hs] at ev
  cases b with
  | true => cases ev
  | false =>
  dsimp only at ev
  cases hp : plains ds with
  | none => rw [hp] at ev; cases ev
  | some ps =>
  rw [hp] at ev
  dsimp only at ev
  obtain ⟨kps, e2, ev⟩ := R.bind_eq ev
  simp only [R.ok.injEq, Prod.mk.injEq] at ev
  obtain ⟨rfl, rfl⟩ := ev
  refine (pe_callTy (call_dictP O.calm) (gl_of O g1) (O.bl _ (by decide)) (by decide +kernel) (pa_cons h pa_nil (star_cons hn)) (by decide) (by decide) (star_cons hn) (back_star (by rfl))).run pins s σ H Q I (one_tX er sr e1 fun v H1 ρ1 A1 s1 S1 r1 => ?_)
  obtain ⟨a0, vs, rfl, hh, rs⟩ := seq_at S1 r1 hs
  obtain ⟨qs, kvs, rfl, k1, k2⟩ := pairs_at (K := X.K) (rs.plains hp) (R.of_eq e2)
  refine ⟨a0, qs, kvs, rfl, SqL.of hh, k1, fun p hp1 => ?_⟩
  have np : p ∉ ρ1 := S1.notmem hp1
  have na : ¬ A1 p := fun z => S1.al _ z hp1
  have s2 : Stp ρ1 A1 H1 ρ1 A1 (upd H1 p (.dK (mergeK [] kvs))) := Stp.laid0 hp1
  have S2 := (S1.laid0 (u := .dK (mergeK [] kvs)) hp1).push (o := .dk false (kmerge kps)) np na upd_same (.dk ((merge_at k2 .nil).mono3 (List.prefix_refl _) (fun _ h => h) s2.ka))
  have hp0 : H p = none := s1.free (fun z => np (s1.pre.subset z)) hp1
  refine post _ _ (ρ1 ++ [p]) A1 ((s1.trans s2).push hp0) S2 (.of (.ref ?_) fun _ z => nomatch z)
  show (ρ1 ++ [p])[st1.length]? = some p
  rw [← S1.len]; simp
end
end Vi
set_option Elab.async false
set_option linter.all false
set_option maxRecDepth 100000
set_option maxHeartbeats 4000000
set_option autoImplicit false
/-! Vr: a text that the look holds against a term does what the interpreter says: expressions. -/
namespace Vi
open PySem L2 PySem.Spec PyProof.Rows
def PEok (C : Cfg) (a : E) : Prop := ∀ (c : CC) (X : Cx) (e : Expr), Okx c C X → chE c e a = true → PE X e (tX (isNew a) X.K C a)
def PTok (C : Cfg) (a : E) : Prop := ∀ (c : CC) (X : Cx) (e : Expr), Okx c C X → chE c e a = true → PT X e (tXT X.K C a)
def PGok (C : Cfg) (t : T) : Prop := ∀ (c : CC) (X : Cx) (e : Expr), Okx c C X → chT c e t = true → PG X e (gX X.K C t)
def PIok (C : Cfg) (it : It) : Prop := ∀ (c : CC) (X : Cx) (tg e : Expr) (t : T), Okx c C X → chI c tg e it = true → (∀ es k p, tg = .Tuple es k p → ∃ ts, t = .tup ts) → PI X tg e (iX X.K C t it)
section
variable {C : Cfg} {X : Cx} {c : CC}
theorem PEok.w {a : E} (h : PEok C a) (O : Okx c C X) {e : Expr} (k : chE c e a = true) : PE X e (tX false X.K C a) := pe_weak (h c X e O k)
theorem es_ok (O : Okx c C X) : ∀ {as : List E} {es : List Expr}, (∀ a ∈ as, PEok C a) → chL c es as = true → es.all notStar = true → PA X es (tXs X.K C as) := by
  intro as
  induction as with
  | nil =>
    intro es _ h _
    cases es with
    | nil => exact s_nil
    | cons _ _ => simp [chL] at h
  | cons a as ih =>
    intro es ha h hn
    cases es with
    | nil => simp [chL] at h
    | cons e es =>
      rw [List.all_cons] at hn
      obtain ⟨n1, n2⟩ := and2 hn
      simp only [chL] at h
      obtain ⟨h1, h2⟩ := and2 h
      exact s_cons ((ha a (by simp)).w O h1) (ih (fun b hb => ha b (by simp [hb])) h2 n2) n1
theorem chL_nil {es : List Expr} {as : List E} (h : chL c es as = true) : es = [] → as = [] := by
  rintro rfl
  cases as with
  | nil => rfl
  | cons _ _ => simp [chL] at h
def arE : Ar → E
  | .one e => e
  | .star e => e
theorem as_ok (O : Okx c C X) : ∀ {as : List Ar} {es : List Expr}, (∀ a ∈ as, PEok C (arE a)) → chAs c es as = true → PA X es (tXAs X.K C as) := by
  intro as
  induction as with
  | nil =>
    intro es _ h
    cases es with
    | nil => exact a_nil
    | cons _ _ => simp [chAs] at h
  | cons a as ih =>
    intro es ha h
    cases es with
    | nil => simp [chAs] at h
    | cons e es =>
      simp only [chAs] at h
      obtain ⟨h1, h2⟩ := and2 h
      have r := ih (fun b hb => ha b (by simp [hb])) h2
      have ha := ha a (by simp)
      unfold chA at h1
      split at h1
      · exact a_star (PEok.w ha O h1) r
      · obtain ⟨k1, k2⟩ := and2 h1
        exact a_one (PEok.w ha O k2) r k1
      · cases h1
theorem ts_ok (O : Okx c C X) : ∀ {ts : List T} {es : List Expr}, (∀ t ∈ ts, PGok C t) → chTs c es ts = true → PGs X es (gXs X.K C ts) ∧ es.length = ts.length ∧ es.all notStar = true := by
  intro ts
  induction ts with
  | nil =>
    intro es _ h
    cases es with
    | nil => exact ⟨gs_nil, rfl, rfl⟩
    | cons _ _ => simp [chTs] at h
  | cons t ts ih =>
    intro es ha h
    cases es with
    | nil => simp [chTs] at h
    | cons e es =>
      simp only [chTs] at h
      obtain ⟨h, h3⟩ := and2 h
      obtain ⟨h1, h2⟩ := and2 h
      obtain ⟨k1, k2, k3⟩ := ih (fun b hb => ha b (by simp [hb])) h3
      exact ⟨gs_cons (ha t (by simp) c X e O h2) k1 h1, by simp [k2], by rw [List.all_cons, h1, k3]; rfl⟩
theorem ks_ok (O : Okx c C X) {pos : Pos} : ∀ {kvs : List (Str × E)} {ks : List (Option Expr)} {vs : List Expr}, (∀ kv ∈ kvs, PEok C kv.2) → chK c ks vs kvs = true →
    PPs X pos ks vs (trsOf X.K C kvs) ∧ ks.all (·.isSome) = true ∧ ks.length = vs.length ∧ ks.length = kvs.length := by
  intro kvs
  induction kvs with
  | nil =>
    intro ks vs _ h
    unfold chK at h
    split at h
    · exact ⟨pps_nil, rfl, rfl, rfl⟩
    · rename_i e; cases e
    · cases h
  | cons kv kvs ih =>
    intro ks vs ha h
    unfold chK at h
    split at h
    · rename_i e; cases e
    · rename_i k n p ks v vs k' a r e
      cases e
      obtain ⟨h, h3⟩ := and2 h
      obtain ⟨h1, h2⟩ := and2 h
      have := beqt h1
      subst this
      obtain ⟨k1, k2, k3, k4⟩ := ih (fun b hb => ha b (by simp [hb])) h3
      exact ⟨pps_cons pe_str (PEok.w (ha (k, a) (by simp)) O h2) k1, by rw [List.all_cons, k2]; rfl, by simp [k3], by simp [k4]⟩
    · cases h
theorem and_ok (O : Okx c C X) {pos : Pos} : ∀ {as : List E} {es : List Expr}, (∀ a ∈ as, PEok C a) → chL c es as = true → es ≠ [] → PE X (.BoolOp .And es pos) (tXAnd X.K C as) := by
  intro as
  induction as with
  | nil =>
    intro es _ h hz
    cases es with
    | nil => exact absurd rfl hz
    | cons _ _ => simp [chL] at h
  | cons a as ih =>
    intro es ha h hz
    cases es with
    | nil => exact absurd rfl hz
    | cons e es =>
      simp only [chL] at h
      obtain ⟨h1, h2⟩ := and2 h
      have p1 := PEok.w (ha a (by simp)) O h1
      cases es with
      | nil =>
        cases as with
        | nil => exact and_one p1
        | cons _ _ => simp [chL] at h2
      | cons f es =>
        cases as with
        | nil => simp [chL] at h2
        | cons b as => exact and_cons p1 (ih (fun b hb => ha b (by simp [hb])) h2 (by simp))
theorem or_ok (O : Okx c C X) {pos : Pos} : ∀ {as : List E} {es : List Expr}, (∀ a ∈ as, PEok C a) → chL c es as = true → es ≠ [] → PE X (.BoolOp .Or es pos) (tXOr X.K C as) := by
  intro as
  induction as with
  | nil =>
    intro es _ h hz
    cases es with
    | nil => exact absurd rfl hz
    | cons _ _ => simp [chL] at h
  | cons a as ih =>
    intro es ha h hz
    cases es with
    | nil => exact absurd rfl hz
    | cons e es =>
      simp only [chL] at h
      obtain ⟨h1, h2⟩ := and2 h
      have p1 := PEok.w (ha a (by simp)) O h1
      cases es with
      | nil =>
        cases as with
        | nil => exact or_one p1
        | cons _ _ => simp [chL] at h2
      | cons f es =>
        cases as with
        | nil => simp [chL] at h2
        | cons b as => exact or_cons p1 (ih (fun b hb => ha b (by simp [hb])) h2 (by simp))
theorem tand_ok (O : Okx c C X) {pos : Pos} : ∀ {as : List E} {es : List Expr}, (∀ a ∈ as, PTok C a) → chL c es as = true → es ≠ [] → PW X (.BoolOp .And es pos) (tTAnd X.K C as) := by
  intro as
  induction as with
  | nil =>
    intro es _ h hz
    cases es with
    | nil => exact absurd rfl hz
    | cons _ _ => simp [chL] at h
  | cons a as ih =>
    intro es ha h hz
    cases es with
    | nil => exact absurd rfl hz
    | cons e es =>
      simp only [chL] at h
      obtain ⟨h1, h2⟩ := and2 h
      have p1 := ha a (by simp) c X e O h1
      cases es with
      | nil =>
        cases as with
        | nil => exact tand_one p1
        | cons _ _ => simp [chL] at h2
      | cons f es =>
        cases as with
        | nil => simp [chL] at h2
        | cons b as => exact tand_cons p1 (ih (fun b hb => ha b (by simp [hb])) h2 (by simp))
theorem tor_ok (O : Okx c C X) {pos : Pos} : ∀ {as : List E} {es : List Expr}, (∀ a ∈ as, PTok C a) → chL c es as = true → es ≠ [] → PW X (.BoolOp .Or es pos) (tTOr X.K C as) := by
  intro as
  induction as with
  | nil =>
    intro es _ h hz
    cases es with
    | nil => exact absurd rfl hz
    | cons _ _ => simp [chL] at h
  | cons a as ih =>
    intro es ha h hz
    cases es with
    | nil => exact absurd rfl hz
    | cons e es =>
      simp only [chL] at h
      obtain ⟨h1, h2⟩ := and2 h
      have p1 := ha a (by simp) c X e O h1
      cases es with
      | nil =>
        cases as with
        | nil => exact tor_one p1
        | cons _ _ => simp [chL] at h2
      | cons f es =>
        cases as with
        | nil => simp [chL] at h2
        | cons b as => exact tor_cons p1 (ih (fun b hb => ha b (by simp [hb])) h2 (by simp))
theorem o_ok (O : Okx c C X) {o : Option E} {e : Option Expr} (h : ∀ a, o = some a → PEok C a) (k : chO c e o = true) : PO X e (tXO X.K C o) := by
  unfold chO at k
  split at k
  · exact o_none
  · exact o_some (PEok.w (h _ rfl) O k)
  · cases k
theorem ts_empty {as : List E} {es : List Expr} {st : Sto} {env : En} (h : chL c es as = true) (hz : es = []) : evAnd C as env st = .no ∧ evOr C as env st = .no := by
  cases chL_nil h hz
  exact ⟨by simp [evAnd], by simp [evOr]⟩
end
def noTest : Expr → Bool
  | .UnaryOp .Not _ _ => false
  | .BoolOp _ _ _ => false
  | .IfExp _ _ _ _ => false
  | .Compare _ _ _ _ => false
  | _ => true
theorem isTrue_of {e : Expr} (h : noTest e = true) (env : Env) (whole : Sem Value) : isTrue e env whole = (do let v ← whole; standAt e.pos; holding [v] (truthy v)) := by
  cases e with
  | UnaryOp op a p => cases op <;> first | rfl | (simp [noTest] at h)
  | BoolOp _ _ _ => simp [noTest] at h
  | IfExp _ _ _ _ => simp [noTest] at h
  | Compare _ _ _ _ => simp [noTest] at h
  | _ => rfl
theorem noTest_of {c : CC} {e : Expr} {a : E} (h : chE c e a = true) (ha : (match a with | .not _ => false | .and _ => false | .or _ => false | .ite _ _ _ => false | .cmp _ _ _ => false | .chain _ _ _ _ _ => false | .isN _ _ => false | .new _ => false | _ => true) = true) : noTest e = true := by
  unfold chE at h
  split at h <;> first | rfl | (exfalso; simp at ha; done) | (exfalso; cases h; done) | skip
end Vi
set_option Elab.async false
set_option linter.all false
set_option maxRecDepth 100000
set_option maxHeartbeats 4000000
set_option autoImplicit false
/-! Vs: .. the induction. -/
namespace Vi
open PySem L2 PySem.Spec PyProof.Rows
structure IHn (C : Cfg) (n : Nat) : Prop where
  e : ∀ a : E, sizeOf a < n → PEok C a
  t : ∀ a : E, sizeOf a < n → PTok C a
  g : ∀ t : T, sizeOf t < n → PGok C t
  i : ∀ it : It, sizeOf it < n → PIok C it
section
variable {C : Cfg} {n : Nat}
theorem mem_szE {as : List E} {a : E} (h : a ∈ as) : sizeOf a < sizeOf as := List.sizeOf_lt_of_mem h
theorem mem_szA {as : List Ar} {a : Ar} (h : a ∈ as) : sizeOf (arE a) < sizeOf as := by
  have := List.sizeOf_lt_of_mem h
  have h2 : sizeOf (arE a) < sizeOf a := by cases a <;> simp [arE]
  omega
theorem mem_szK {as : List (Str × E)} {a : Str × E} (h : a ∈ as) : sizeOf a.2 < sizeOf as := by
  have := List.sizeOf_lt_of_mem h
  have h2 : sizeOf a.2 < sizeOf a := by cases a; simp; omega
  omega
theorem g_step (H : IHn C n) (t : T) (ht : sizeOf t < n + 1) : PGok C t := by
  intro c X e O h
  cases t with
  | name i =>
    unfold chT at h
    split at h <;> first | (exfalso; cases h; done) | skip
    · rename_i heq; cases heq
      obtain ⟨h1, h2⟩ := and2 h
      exact g_name O (beqt h1) h2
    all_goals (rename_i heq; cases heq)
  | tup ts =>
    unfold chT at h
    split at h <;> first | (exfalso; cases h; done) | skip
    · rename_i heq; cases heq
    · rename_i heq; cases heq
      obtain ⟨k1, k2, k3⟩ := ts_ok O (fun t hm => H.g t (by have := List.sizeOf_lt_of_mem hm; simp at ht; omega)) h
      exact g_tup O k1 k2 k3
    · rename_i heq; cases heq
  | sub o i =>
    simp at ht
    unfold chT at h
    split at h <;> first | (exfalso; cases h; done) | skip
    · rename_i heq; cases heq
    · rename_i heq; cases heq
    · rename_i heq; cases heq
      obtain ⟨h, h3⟩ := and2 h
      obtain ⟨h1, h2⟩ := and2 h
      exact g_sub O h1 ((H.e o (by omega)).w O h2) ((H.e i (by omega)).w O h3)
theorem i_step (H : IHn C n) (it : It) (hi : sizeOf it < n + 1) : PIok C it := by
  intro c X tg e t O h ht
  cases it with
  | val a =>
    simp at hi
    unfold chI at h
    obtain ⟨h1, h2⟩ := and2 h
    exact i_val ((H.e a (by omega)).w O h2)
  | rng as =>
    simp at hi
    unfold chI at h
    split at h <;> first | (exfalso; cases h; done) | skip
    · rename_i heq; cases heq
    · rename_i heq; cases heq
      rename_i x p es pos
      obtain ⟨h, h4⟩ := and2 h
      obtain ⟨h, h3⟩ := and2 h
      obtain ⟨h1, h2⟩ := and2 h
      match es, as, h3, h4 with
      | [], as, h3, h4 =>
        cases chL_nil h4 rfl
        refine ⟨fun pins s σ H RR I q => ?_⟩
        obtain ⟨ρ, A, env, st, src, st', er, sr, ev, post⟩ := q
        simp [evIt, evEs, rngOf] at ev
      | [e], as, h3, h4 =>
        match as, h4 with
        | [], h4 => simp [chL] at h4
        | [a], h4 =>
          simp only [chL, Bool.and_true] at h4
          simp at hi
          exact i_rng1 O (beqt h1) h2 (by simpa using h3) ((H.e a (by omega)).w O h4)
        | _ :: _ :: _, h4 => simp [chL] at h4
      | [e, f], as, h3, h4 =>
        match as, h4 with
        | [], h4 => simp [chL] at h4
        | [a], h4 => simp [chL] at h4
        | [a, b], h4 =>
          simp only [chL, Bool.and_true] at h4
          obtain ⟨k1, k2⟩ := and2 h4
          simp at hi h3
          exact i_rng2 O (beqt h1) h2 h3.1 h3.2 ((H.e a (by omega)).w O k1) ((H.e b (by omega)).w O k2)
        | _ :: _ :: _ :: _, h4 => simp [chL] at h4
      | e :: f :: g :: es, as, h3, h4 =>
        refine ⟨fun pins s σ H RR I q => ?_⟩
        obtain ⟨ρ, A, env, st, src, st', er, sr, ev, post⟩ := q
        match as, h4 with
        | [], h4 => simp [chL] at h4
        | [a], h4 => simp [chL] at h4
        | [a, b], h4 => simp [chL] at h4
        | a :: b :: d :: as, h4 =>
          simp only [evIt, evEs] at ev
          obtain ⟨⟨ds, st1⟩, e1, ev⟩ := R.bind_eq ev
          obtain ⟨xs, e2, ev⟩ := R.bind_eq ev
          obtain ⟨⟨z1, st2⟩, e4, e1⟩ := R.bind_eq e1
          obtain ⟨⟨z2, st2⟩, e5, e1⟩ := R.bind_eq e1
          obtain ⟨⟨z3, st3⟩, e6, e5⟩ := R.bind_eq e5
          obtain ⟨⟨z4, st3⟩, e7, e5⟩ := R.bind_eq e5
          obtain ⟨⟨z5, st3⟩, e8, e7⟩ := R.bind_eq e7
          obtain ⟨⟨z6, st3⟩, e9, e7⟩ := R.bind_eq e7
          simp only [R.ok.injEq, Prod.mk.injEq] at e1 e5 e7
          obtain ⟨rfl, rfl⟩ := e1
          obtain ⟨rfl, rfl⟩ := e5
          obtain ⟨rfl, rfl⟩ := e7
          simp [rngOf] at e2
    all_goals (rename_i heq; cases heq)
  | enum a =>
    simp at hi
    unfold chI at h
    split at h <;> first | (exfalso; cases h; done) | skip
    · rename_i heq; cases heq
    · rename_i heq; cases heq
    · rename_i heq; cases heq
      obtain ⟨h, h4⟩ := and2 h
      obtain ⟨h, h3⟩ := and2 h
      obtain ⟨h1, h2⟩ := and2 h
      obtain ⟨ts, rfl⟩ := ht _ _ _ rfl
      exact i_enum O (beqt h1) h2 h3 ((H.e a (by omega)).w O h4)
    · rename_i heq; cases heq
    · rename_i heq; cases heq
  | zip a b =>
    simp at hi
    unfold chI at h
    split at h <;> first | (exfalso; cases h; done) | skip
    · rename_i heq; cases heq
    · rename_i heq; cases heq
    · rename_i heq; cases heq
    · rename_i heq; cases heq
      obtain ⟨h, h6⟩ := and2 h
      obtain ⟨h, h5⟩ := and2 h
      obtain ⟨h, h4⟩ := and2 h
      obtain ⟨h, h3⟩ := and2 h
      obtain ⟨h1, h2⟩ := and2 h
      obtain ⟨ts, rfl⟩ := ht _ _ _ rfl
      exact i_zip O (beqt h1) h2 h3 h4 ((H.e a (by omega)).w O h5) ((H.e b (by omega)).w O h6)
    · rename_i heq; cases heq
  | zips a b =>
    unfold chI at h
    cases h
  | rngD a b =>
    simp at hi
    unfold chI at h
    split at h <;> first | (exfalso; cases h; done) | skip
    · rename_i heq; cases heq
    · rename_i heq; cases heq
    · rename_i heq; cases heq
    · rename_i heq; cases heq
    · rename_i heq; cases heq
      obtain ⟨h, h6⟩ := and2 h
      obtain ⟨h, h5⟩ := and2 h
      obtain ⟨h, h4⟩ := and2 h
      obtain ⟨h, h3⟩ := and2 h
      obtain ⟨h1, h2⟩ := and2 h
      exact i_rngD O (beqt h1) h2 h3 h4 ((H.e a (by omega)).w O h5) ((H.e b (by omega)).w O h6)
end
end Vi
set_option Elab.async false
set_option linter.all false
set_option maxRecDepth 100000
set_option maxHeartbeats 4000000
set_option autoImplicit false
/-! Vu: .. expressions. -/
namespace Vi
open PySem L2 PySem.Spec PyProof.Rows
section
variable {C : Cfg} {n : Nat} {X : Cx} {c : CC}
theorem e_andE {es : List Expr} {as : List E} {pos : Pos} {fr : Bool} (hf : fr = false) (h : PE X (.BoolOp .And es pos) (tXAnd X.K C as)) : PE X (.BoolOp .And es pos) (tX fr X.K C (.and as)) := by
  subst hf
  refine ⟨fun pins s σ H Q I q => ?_⟩
  obtain ⟨ρ, A, env, st, d, st', er, sr, ev, post⟩ := q
  simp only [evE] at ev
  exact h.run pins s σ H Q I ⟨ρ, A, env, st, d, st', er, sr, ev, fun v H' ρ' A' s' S' r' => post v H' ρ' A' s' S' r'⟩
theorem e_orE {es : List Expr} {as : List E} {pos : Pos} {fr : Bool} (hf : fr = false) (h : PE X (.BoolOp .Or es pos) (tXOr X.K C as)) : PE X (.BoolOp .Or es pos) (tX fr X.K C (.or as)) := by
  subst hf
  refine ⟨fun pins s σ H Q I q => ?_⟩
  obtain ⟨ρ, A, env, st, d, st', er, sr, ev, post⟩ := q
  simp only [evE] at ev
  exact h.run pins s σ H Q I ⟨ρ, A, env, st, d, st', er, sr, ev, fun v H' ρ' A' s' S' r' => post v H' ρ' A' s' S' r'⟩
theorem t_andE {es : List Expr} {as : List E} {pos : Pos} (h : PW X (.BoolOp .And es pos) (tTAnd X.K C as)) : PT X (.BoolOp .And es pos) (tXT X.K C (.and as)) := by
  refine ⟨fun pins s σ H Q I q => ?_⟩
  obtain ⟨ρ, A, env, st, b, st', er, sr, ev, post⟩ := q
  simp only [evT, evE] at ev
  obtain ⟨⟨x, st1⟩, e1, ev⟩ := R.bind_eq ev
  obtain ⟨k, e2, ev⟩ := R.bind_eq ev
  simp only [R.ok.injEq, Prod.mk.injEq] at ev
  obtain ⟨rfl, rfl⟩ := ev
  exact h.pt.run pins s σ H Q I ⟨ρ, A, env, st, x, k, st1, er, sr, e1, R.of_eq e2, post⟩
theorem t_orE {es : List Expr} {as : List E} {pos : Pos} (h : PW X (.BoolOp .Or es pos) (tTOr X.K C as)) : PT X (.BoolOp .Or es pos) (tXT X.K C (.or as)) := by
  refine ⟨fun pins s σ H Q I q => ?_⟩
  obtain ⟨ρ, A, env, st, b, st', er, sr, ev, post⟩ := q
  simp only [evT, evE] at ev
  obtain ⟨⟨x, st1⟩, e1, ev⟩ := R.bind_eq ev
  obtain ⟨k, e2, ev⟩ := R.bind_eq ev
  simp only [R.ok.injEq, Prod.mk.injEq] at ev
  obtain ⟨rfl, rfl⟩ := ev
  exact h.pt.run pins s σ H Q I ⟨ρ, A, env, st, x, k, st1, er, sr, e1, R.of_eq e2, post⟩
theorem bo_nil {op : BoolOp} {pos : Pos} {as : List E} {a : E} {t : TE} (h : ∀ env st d st', evE C a env st ≠ .ok (d, st')) {fr : Bool} : PE X (.BoolOp op [] pos) (tX fr X.K C a) := by
  refine ⟨fun pins s σ H Q I q => ?_⟩
  obtain ⟨ρ, A, env, st, d, st', er, sr, ev, post⟩ := q
  exact absurd ev (h _ _ _ _)
theorem never_E {e : Expr} {a : E} (h : ∀ env st d st', evE C a env st ≠ .ok (d, st')) {fr : Bool} : PE X e (tX fr X.K C a) := by
  refine ⟨fun pins s σ H Q I q => ?_⟩
  obtain ⟨ρ, A, env, st, d, st', er, sr, ev, post⟩ := q
  exact absurd ev (h _ _ _ _)
theorem never_T {e : Expr} {a : E} (h : ∀ env st d st', evE C a env st ≠ .ok (d, st')) : PT X e (tXT X.K C a) := by
  refine ⟨fun pins s σ H Q I q => ?_⟩
  obtain ⟨ρ, A, env, st, b, st', er, sr, ev, post⟩ := q
  simp only [evT] at ev
  obtain ⟨⟨x, st1⟩, e1, ev⟩ := R.bind_eq ev
  exact absurd e1 (h _ _ _ _)
theorem chT_tup {e : Expr} {t : T} (h : chT c e t = true) : ∀ es k p, e = .Tuple es k p → ∃ ts, t = .tup ts := by
  rintro es k p rfl
  unfold chT at h
  split at h
  · rename_i heq; cases heq
  · exact ⟨_, rfl⟩
  · rename_i heq; cases heq
  · cases h
theorem e_step (H : IHn C n) (a : E) (ha : sizeOf a < n + 1) : PEok C a := by
  intro c X e O h
  unfold chE at h
  split at h
  all_goals try (exfalso; cases h; done)
  all_goals simp at ha
  · exact e_var O h
  · exact e_cst h
  · rename_i x p y i
    obtain ⟨h, h4⟩ := and2 h
    obtain ⟨h, h3⟩ := and2 h
    obtain ⟨h1, h2⟩ := and2 h
    have e := beqt h1
    subst e
    exact e_gint O (beqt h2) h3 (bang h4)
  · exact e_tup (as_ok O (fun a hm => H.e _ (by have := mem_szA hm; omega)) h)
  · exact e_lst (as_ok O (fun a hm => H.e _ (by have := mem_szA hm; omega)) h)
  · obtain ⟨h, h3⟩ := and2 h
    obtain ⟨h1, h2⟩ := and2 h
    exact e_bin h1 ((H.e _ (by omega)).w O h2) ((H.e _ (by omega)).w O h3)
  · exact e_neg ((H.e _ (by omega)).w O h)
  · exact e_not ((H.e _ (by omega)).w O h)
  · rename_i es pos es'
    by_cases hz : es = []
    · refine never_E fun env st d st' z => ?_
      rw [evE, (ts_empty h hz).1] at z; cases z
    · exact e_andE rfl (and_ok O (fun a hm => H.e _ (by have := mem_szE hm; omega)) h hz)
  · rename_i es pos es'
    by_cases hz : es = []
    · refine never_E fun env st d st' z => ?_
      rw [evE, (ts_empty h hz).2] at z; cases z
    · exact e_orE rfl (or_ok O (fun a hm => H.e _ (by have := mem_szE hm; omega)) h hz)
  · obtain ⟨h, h4⟩ := and2 h
    obtain ⟨h, h3⟩ := and2 h
    obtain ⟨h1, h2⟩ := and2 h
    exact e_cmp O h1 h2 ((H.e _ (by omega)).w O h3) ((H.e _ (by omega)).w O h4)
  · exact e_isN (b := false) ((H.e _ (by omega)).w O h)
  · exact e_isN (b := true) ((H.e _ (by omega)).w O h)
  · obtain ⟨h, h7⟩ := and2 h
    obtain ⟨h, h6⟩ := and2 h
    obtain ⟨h, h5⟩ := and2 h
    obtain ⟨h, h4⟩ := and2 h
    obtain ⟨h, h3⟩ := and2 h
    obtain ⟨h1, h2⟩ := and2 h
    exact e_chain O h1 h2 h3 h4 ((H.e _ (by omega)).w O h5) ((H.e _ (by omega)).w O h6) ((H.e _ (by omega)).w O h7)
  · obtain ⟨h, h3⟩ := and2 h
    obtain ⟨h1, h2⟩ := and2 h
    exact e_ite (H.t _ (by omega) c X _ O h1) ((H.e _ (by omega)).w O h2) ((H.e _ (by omega)).w O h3)
  · obtain ⟨h, h3⟩ := and2 h
    obtain ⟨h1, h2⟩ := and2 h
    exact e_slice ((H.e _ (by omega)).w O h1) (o_ok O (fun a e => H.e _ (by subst e; simp at ha; omega)) h2) (o_ok O (fun a e => H.e _ (by subst e; simp at ha; omega)) h3)
  · exact e_rev ((H.e _ (by omega)).w O h)
  · obtain ⟨h, h3⟩ := and2 h
    obtain ⟨h1, h2⟩ := and2 h
    exact e_idx O h1 ((H.e _ (by omega)).w O h2) ((H.e _ (by omega)).w O h3)
  · obtain ⟨h, h5⟩ := and2 h
    obtain ⟨h, h4⟩ := and2 h
    obtain ⟨h, h3⟩ := and2 h
    obtain ⟨h1, h2⟩ := and2 h
    exact e_call O (beqt h1) h2 (bang h3) h4 (chL_nil h5) (es_ok O (fun a hm => H.e _ (by have := mem_szE hm; omega)) h5 h4)
  · rename_i x p y p2 es pos2 pos es'
    obtain ⟨h, h6⟩ := and2 h
    obtain ⟨h, h5⟩ := and2 h
    obtain ⟨h, h4⟩ := and2 h
    obtain ⟨h, h3⟩ := and2 h
    obtain ⟨h1, h2⟩ := and2 h
    match es, es', h5, h6, ha with
    | [], as, h5, h6, ha =>
      cases chL_nil h6 rfl
      exact never_E fun env st d st' z => by simp [evE, evEs, rngOf] at z
    | [e], as, h5, h6, ha =>
      match as, h6, ha with
      | [], h6, ha => simp [chL] at h6
      | [a], h6, ha =>
        simp only [chL, Bool.and_true] at h6
        simp at ha
        exact e_lrng1 O (beqt h1) (beqt h2) h3 h4 (by simpa using h5) ((H.e a (by omega)).w O h6)
      | _ :: _ :: _, h6, ha => simp [chL] at h6
    | [e, f], as, h5, h6, ha =>
      match as, h6, ha with
      | [], h6, ha => simp [chL] at h6
      | [a], h6, ha => simp [chL] at h6
      | [a, b], h6, ha =>
        simp only [chL, Bool.and_true] at h6
        obtain ⟨k1, k2⟩ := and2 h6
        simp at ha h5
        exact e_lrng2 O (beqt h1) (beqt h2) h3 h4 h5.1 h5.2 ((H.e a (by omega)).w O k1) ((H.e b (by omega)).w O k2)
      | _ :: _ :: _ :: _, h6, ha => simp [chL] at h6
    | e :: f :: g :: es, as, h5, h6, ha =>
      match as, h6, ha with
      | [], h6, ha => simp [chL] at h6
      | [a], h6, ha => simp [chL] at h6
      | [a, b], h6, ha => simp [chL] at h6
      | a :: b :: d :: as, h6, ha =>
        refine never_E fun env st dd st' ev => ?_
        simp only [evE, evEs] at ev
        obtain ⟨⟨ds, st1⟩, e1, ev⟩ := R.bind_eq ev
        obtain ⟨xs, e2, ev⟩ := R.bind_eq ev
        obtain ⟨⟨z1, st2⟩, e4, e1⟩ := R.bind_eq e1
        obtain ⟨⟨z2, st2⟩, e5, e1⟩ := R.bind_eq e1
        obtain ⟨⟨z3, st3⟩, e6, e5⟩ := R.bind_eq e5
        obtain ⟨⟨z4, st3⟩, e7, e5⟩ := R.bind_eq e5
        obtain ⟨⟨z5, st3⟩, e8, e7⟩ := R.bind_eq e7
        obtain ⟨⟨z6, st3⟩, e9, e7⟩ := R.bind_eq e7
        simp only [R.ok.injEq, Prod.mk.injEq] at e1 e5 e7
        obtain ⟨rfl, rfl⟩ := e1
        obtain ⟨rfl, rfl⟩ := e5
        obtain ⟨rfl, rfl⟩ := e7
        simp [rngOf] at e2
  · rename_i x p y p2 es pos2 pos es'
    obtain ⟨h, h6⟩ := and2 h
    obtain ⟨h, h5⟩ := and2 h
    obtain ⟨h, h4⟩ := and2 h
    obtain ⟨h, h3⟩ := and2 h
    obtain ⟨h1, h2⟩ := and2 h
    match es, es', h5, h6, ha with
    | [], as, h5, h6, ha =>
      cases chL_nil h6 rfl
      exact never_E fun env st d st' z => by simp [evE, evEs, rngOf] at z
    | [e], as, h5, h6, ha =>
      match as, h6, ha with
      | [], h6, ha => simp [chL] at h6
      | [a], h6, ha =>
        simp only [chL, Bool.and_true] at h6
        simp at ha
        exact e_trng1 O (beqt h1) (beqt h2) h3 h4 (by simpa using h5) ((H.e a (by omega)).w O h6)
      | _ :: _ :: _, h6, ha => simp [chL] at h6
    | [e, f], as, h5, h6, ha =>
      match as, h6, ha with
      | [], h6, ha => simp [chL] at h6
      | [a], h6, ha => simp [chL] at h6
      | [a, b], h6, ha =>
        simp only [chL, Bool.and_true] at h6
        obtain ⟨k1, k2⟩ := and2 h6
        simp at ha h5
        exact e_trng2 O (beqt h1) (beqt h2) h3 h4 h5.1 h5.2 ((H.e a (by omega)).w O k1) ((H.e b (by omega)).w O k2)
      | _ :: _ :: _ :: _, h6, ha => simp [chL] at h6
    | e :: f :: g :: es, as, h5, h6, ha =>
      match as, h6, ha with
      | [], h6, ha => simp [chL] at h6
      | [a], h6, ha => simp [chL] at h6
      | [a, b], h6, ha => simp [chL] at h6
      | a :: b :: d :: as, h6, ha =>
        refine never_E fun env st dd st' ev => ?_
        simp only [evE, evEs] at ev
        obtain ⟨⟨ds, st1⟩, e1, ev⟩ := R.bind_eq ev
        obtain ⟨xs, e2, ev⟩ := R.bind_eq ev
        obtain ⟨⟨z1, st2⟩, e4, e1⟩ := R.bind_eq e1
        obtain ⟨⟨z2, st2⟩, e5, e1⟩ := R.bind_eq e1
        obtain ⟨⟨z3, st3⟩, e6, e5⟩ := R.bind_eq e5
        obtain ⟨⟨z4, st3⟩, e7, e5⟩ := R.bind_eq e5
        obtain ⟨⟨z5, st3⟩, e8, e7⟩ := R.bind_eq e7
        obtain ⟨⟨z6, st3⟩, e9, e7⟩ := R.bind_eq e7
        simp only [R.ok.injEq, Prod.mk.injEq] at e1 e5 e7
        obtain ⟨rfl, rfl⟩ := e1
        obtain ⟨rfl, rfl⟩ := e5
        obtain ⟨rfl, rfl⟩ := e7
        simp [rngOf] at e2
  · rename_i p es pos b es'
    obtain ⟨h, h4⟩ := and2 h
    obtain ⟨h, h3⟩ := and2 h
    obtain ⟨h1, h2⟩ := and2 h
    have r := e_blt (p := p) (pos := pos) O (beqt h1) h2 h3 (chL_nil h4) (es_ok O (fun a hm => H.e _ (by have := mem_szE hm; omega)) h4 h3)
    cases b <;> first | exact r _ | exact pe_weak (r _) | exact pe_weak r | exact r
  · obtain ⟨h, h4⟩ := and2 h
    obtain ⟨h, h3⟩ := and2 h
    obtain ⟨h1, h2⟩ := and2 h
    exact e_sorted O (beqt h1) h2 h3 ((H.e _ (by omega)).w O h4)
  · obtain ⟨h, h5⟩ := and2 h
    obtain ⟨h, h4⟩ := and2 h
    obtain ⟨h, h3⟩ := and2 h
    obtain ⟨h1, h2⟩ := and2 h
    exact e_sortedR O (beqt h1) (beqt h2) h3 h4 ((H.e _ (by omega)).w O h5)
  · obtain ⟨h, h6⟩ := and2 h
    obtain ⟨h, h5⟩ := and2 h
    obtain ⟨h, h4⟩ := and2 h
    obtain ⟨h, h3⟩ := and2 h
    obtain ⟨h1, h2⟩ := and2 h
    exact e_isa O (beqt h1) (beqt h2) h3 h4 h5 ((H.e _ (by omega)).w O h6)
  · obtain ⟨h, h7⟩ := and2 h
    obtain ⟨h, h6⟩ := and2 h
    obtain ⟨h, h5⟩ := and2 h
    obtain ⟨h, h4⟩ := and2 h
    obtain ⟨h, h3⟩ := and2 h
    obtain ⟨h1, h2⟩ := and2 h
    exact e_mt (beqt h1) h2 h3 h4 (of_decide_eq_true h5) (chL_nil h7) ((H.e _ (by omega)).w O h6) (es_ok O (fun a hm => H.e _ (by have := mem_szE hm; omega)) h7 h4)
  · rename_i elt tg iter ifs scope pos elt' own t it g
    obtain ⟨h, h7⟩ := and2 h
    obtain ⟨h, h6⟩ := and2 h
    obtain ⟨h, h5⟩ := and2 h
    obtain ⟨h, h4⟩ := and2 h
    obtain ⟨h, h3⟩ := and2 h
    obtain ⟨h1, h2⟩ := and2 h
    refine e_comp O h1 h2 h3 (H.i it (by omega) c X _ _ t O h4 (chT_tup h5)) (fun s Hh Ca cl fp => H.g t (by omega) _ _ _ (okx_blk O scope s Hh Ca cl fp) h5) (fun s Hh Ca cl fp => ?_) fun s Hh Ca cl fp => (H.e elt' (by omega)).w (okx_blk O scope s Hh Ca cl fp) h7
    unfold chG at h6
    split at h6
    · exact g_none
    · simp at ha
      exact g_some (H.t _ (by omega) _ _ _ (okx_blk O scope s Hh Ca cl fp) h6)
    · cases h6
  · rename_i e'
    obtain ⟨h1, h2⟩ := and2 h
    have := H.e e' (by omega) c X _ O h2
    rw [h1] at this
    exact e_new this
  · obtain ⟨h, h4⟩ := and2 h
    obtain ⟨h, h3⟩ := and2 h
    obtain ⟨h1, h2⟩ := and2 h
    exact e_dpairs O (beqt h1) h2 h3 ((H.e _ (by omega)).w O h4)
  · exact e_nd
  · obtain ⟨h1, h2⟩ := and2 h
    exact e_nd1 O ((H.e _ (by omega)).w O h1) ((H.e _ (by omega)).w O h2)
  · rename_i ks vs pos kvs
    obtain ⟨h, h4⟩ := and2 h
    obtain ⟨h, h3⟩ := and2 h
    obtain ⟨h1, h2⟩ := and2 h
    obtain ⟨k1, k2, k3, k4⟩ := ks_ok (pos := pos) O (fun a hm => H.e _ (by have := mem_szK hm; omega)) h4
    refine e_ndct k1 k2 k3 ?_ (by rw [k4]; exact of_decide_eq_true h1) k4 (of_decide_eq_true h3)
    rintro rfl
    cases kvs with
    | nil => simp at h2
    | cons _ _ => simp at k4
theorem t_step (H : IHn C n) (a : E) (ha : sizeOf a < n + 1) : PTok C a := by
  intro c X e O h
  have h0 := h
  have pe : PE X e (tX false X.K C a) := (e_step H a ha).w O h
  unfold chE at h
  split at h
  all_goals try (exfalso; cases h; done)
  all_goals simp at ha
  all_goals first
    | (exact t_any pe (isTrue_of (noTest_of h0 rfl) _); done)
    | skip
  · exact t_not (H.t _ (by omega) c X _ O h)
  · rename_i es pos es'
    by_cases hz : es = []
    · refine never_T fun env st d st' z => ?_
      rw [evE, (ts_empty h hz).1] at z; cases z
    · exact t_andE (tand_ok O (fun a hm => H.t _ (by have := mem_szE hm; omega)) h hz)
  · rename_i es pos es'
    by_cases hz : es = []
    · refine never_T fun env st d st' z => ?_
      rw [evE, (ts_empty h hz).2] at z; cases z
    · exact t_orE (tor_ok O (fun a hm => H.t _ (by have := mem_szE hm; omega)) h hz)
  · obtain ⟨h, h4⟩ := and2 h
    obtain ⟨h, h3⟩ := and2 h
    obtain ⟨h1, h2⟩ := and2 h
    exact t_cmp O h1 h2 ((H.e _ (by omega)).w O h3) ((H.e _ (by omega)).w O h4)
  · exact t_isN (b := false) ((H.e _ (by omega)).w O h)
  · exact t_isN (b := true) ((H.e _ (by omega)).w O h)
  · obtain ⟨h, h7⟩ := and2 h
    obtain ⟨h, h6⟩ := and2 h
    obtain ⟨h, h5⟩ := and2 h
    obtain ⟨h, h4⟩ := and2 h
    obtain ⟨h, h3⟩ := and2 h
    obtain ⟨h1, h2⟩ := and2 h
    exact t_chain O h1 h2 h3 h4 ((H.e _ (by omega)).w O h5) ((H.e _ (by omega)).w O h6) ((H.e _ (by omega)).w O h7)
  · obtain ⟨h, h3⟩ := and2 h
    obtain ⟨h1, h2⟩ := and2 h
    exact t_ite (H.t _ (by omega) c X _ O h1) (H.t _ (by omega) c X _ O h2) (H.t _ (by omega) c X _ O h3)
  · rename_i e'
    obtain ⟨h1, h2⟩ := and2 h
    exact t_any pe (isTrue_of (noTest_of h2 (by cases e' <;> first | rfl | (simp [isNew] at h1))) _)
theorem ihn (C : Cfg) : ∀ n, IHn C n
  | 0 => ⟨fun _ h => absurd h (Nat.not_lt_zero _), fun _ h => absurd h (Nat.not_lt_zero _), fun _ h => absurd h (Nat.not_lt_zero _), fun _ h => absurd h (Nat.not_lt_zero _)⟩
  | n + 1 => ⟨e_step (ihn C n), t_step (ihn C n), g_step (ihn C n), i_step (ihn C n)⟩
theorem all_e (a : E) : PEok C a := (ihn C (sizeOf a + 1)).e a (Nat.lt_succ_self _)
theorem all_t (a : E) : PTok C a := (ihn C (sizeOf a + 1)).t a (Nat.lt_succ_self _)
theorem all_g (a : T) : PGok C a := (ihn C (sizeOf a + 1)).g a (Nat.lt_succ_self _)
theorem all_i (a : It) : PIok C a := (ihn C (sizeOf a + 1)).i a (Nat.lt_succ_self _)
end
end Vi
set_option Elab.async false
set_option linter.all false
set_option maxRecDepth 100000
set_option maxHeartbeats 4000000
set_option autoImplicit false
/-! Vv: statements, one rule each. -/
namespace Vi
open PySem L2 PySem.Spec PyProof.Rows
def Out (K : PySem.W.Frag) (W : L2.St → Hp → Prop) (D : Ends) (fl : Flow) (ρ : List Addr) (A : AS) (σ : L2.St) (H : Hp) : Prop := match fl with
  | .nx => D.nx σ H
  | .bk => D.bk σ H
  | .ct => D.ct σ H
  | .rt d => ∀ v, RD K ρ A H v d → D.rt v H
  | .ex => W σ H
def sX (K : PySem.W.Frag) (C : Cfg) (W : L2.St → Hp → Prop) (s : S) : TS := fun D σ H => ∃ (ρ : List Addr) (A : AS) (env : En) (st : Sto) (fl : Flow) (env' : En) (st' : Sto), ER K ρ A H σ env ∧ SR K ρ A st H ∧ exS C s env st = .ok (fl, env', st') ∧
  ∀ σ' H' ρ' A', Stp ρ A H ρ' A' H' → SR K ρ' A' st' H' → ER K ρ' A' H' σ' env' → Out K W D fl ρ' A' σ' H'
def sXs (K : PySem.W.Frag) (C : Cfg) (W : L2.St → Hp → Prop) (s : List S) : TS := fun D σ H => ∃ (ρ : List Addr) (A : AS) (env : En) (st : Sto) (fl : Flow) (env' : En) (st' : Sto), ER K ρ A H σ env ∧ SR K ρ A st H ∧ exSs C s env st = .ok (fl, env', st') ∧
  ∀ σ' H' ρ' A', Stp ρ A H ρ' A' H' → SR K ρ' A' st' H' → ER K ρ' A' H' σ' env' → Out K W D fl ρ' A' σ' H'
section
variable {C : Cfg} {X : Cx} {c : CC} {W : L2.St → Hp → Prop}
theorem ss_nil : PSs X [] (sXs X.K C W []) := by
  refine ⟨fun pins s σ H D I q => ?_⟩
  obtain ⟨ρ, A, env, st, fl, env', st', er, sr, ev, post⟩ := q
  simp only [exSs, R.ok.injEq, Prod.mk.injEq] at ev
  obtain ⟨rfl, rfl, rfl⟩ := ev
  exact pss_nil.run pins s σ H D I (post σ H ρ A .refl sr er)
theorem ss_cons {a : Stmt} {b : List Stmt} {s : S} {r : List S} (h1 : PS X a (sX X.K C W s)) (h2 : PSs X b (sXs X.K C W r)) : PSs X (a :: b) (sXs X.K C W (s :: r)) := by
  refine ⟨fun pins s σ H D I q => ?_⟩
  obtain ⟨ρ, A, env, st, fl, env', st', er, sr, ev, post⟩ := q
  simp only [exSs] at ev
  obtain ⟨⟨f1, env1, st1⟩, e1, ev⟩ := R.bind_eq ev
  refine (pss_cons h1 h2).run pins s σ H D I ⟨ρ, A, env, st, f1, env1, st1, er, sr, e1, fun σ1 H1 ρ1 A1 s1 S1 er1 => ?_⟩
  dsimp only at ev
  cases f1 with
  | nx => exact ⟨ρ1, A1, env1, st1, fl, env', st', er1, S1, ev, fun σ2 H2 ρ2 A2 s2 S2 er2 => post σ2 H2 ρ2 A2 (s1.trans s2) S2 er2⟩
  | bk =>
    simp only [R.ok.injEq, Prod.mk.injEq] at ev
    obtain ⟨rfl, rfl, rfl⟩ := ev
    exact post σ1 H1 ρ1 A1 s1 S1 er1
  | ct =>
    simp only [R.ok.injEq, Prod.mk.injEq] at ev
    obtain ⟨rfl, rfl, rfl⟩ := ev
    exact post σ1 H1 ρ1 A1 s1 S1 er1
  | rt d =>
    simp only [R.ok.injEq, Prod.mk.injEq] at ev
    obtain ⟨rfl, rfl, rfl⟩ := ev
    exact post σ1 H1 ρ1 A1 s1 S1 er1
  | ex =>
    simp only [R.ok.injEq, Prod.mk.injEq] at ev
    obtain ⟨rfl, rfl, rfl⟩ := ev
    exact post σ1 H1 ρ1 A1 s1 S1 er1
/-- an evaluation, then a store -/
theorem asg_imp {K : PySem.W.Frag} {t : T} {a : E} {D : Ends} {σ : L2.St} {H : Hp} (q : sX K C W (.set t a) D σ H) : tAsg (tX false K C a) (gX K C t) D σ H := by
  obtain ⟨ρ, A, env, st, fl, env', st', er, sr, ev, post⟩ := q
  simp only [exS] at ev
  obtain ⟨⟨d, st1⟩, e1, ev⟩ := R.bind_eq ev
  obtain ⟨⟨env2, st2⟩, e2, ev⟩ := R.bind_eq ev
  simp only [R.ok.injEq, Prod.mk.injEq] at ev
  obtain ⟨rfl, rfl, rfl⟩ := ev
  exact one_tX er sr e1 fun v H1 ρ1 A1 s1 S1 r1 => ⟨ρ1, A1, env, st1, d, env2, st2, er.mono s1, S1, .of r1, e2, fun σ2 H2 ρ2 A2 s2 S2 er2 _ => post σ2 H2 ρ2 A2 (s1.trans s2) S2 er2⟩
theorem sole_false {tg e : Expr} {l : Nat} {env : Env} (h : notComp e = true ∨ isName tg = false) : swapsWithSole [tg] e l env = pure false := by
  rcases h with h | h
  · cases e <;> first | rfl | (simp [notComp] at h)
  · cases tg with
    | Name _ _ => simp [isName] at h
    | _ => cases e <;> rfl
theorem asgEach1 {tg : Expr} {env : Env} (h : notStar tg = true) : (assignEach [tg] env).map (·.2) = [assign tg env] := by rw [asg_cons h]; rfl
def swName (c : CC) (ts : List Expr) : Expr → Option Str
  | .Name id pos => if c.sc.names.lookup id == some .local && pos.line == (ts.head?.map (·.pos.line)).getD 0 then some id else none
  | _ => none
theorem swNames_of {ts : List Expr} {f : Expr → Option Str} (h : ∀ x, f x = swName c ts x) : ts.filterMap f = swNames c ts := by
  unfold swNames
  congr 1
  funext x
  rw [h]
  cases x <;> rfl
theorem stores_none (O : Okx c C X) {ts vs : List Expr} {k k2 : Nat} {p p2 : Pos} (h : swNone c ts vs = true) : swappedStores [.Tuple ts k p] (.Tuple vs k2 p2) X.env = pure none := by
  unfold swNone at h
  unfold swappedStores
  dsimp only
  rw [swNames_of (c := c) (f := _) (fun x => by cases x <;> first | rfl | (unfold swName Env.kindOf; rw [O.sc]))]
  split
  · rfl
  · rename_i h1
    split
    · rfl
    · split
      · rfl
      · rename_i h2
        split
        · rfl
        · rename_i h3
          exfalso
          rcases Bool.or_eq_true_iff.mp h with h | h
          · rcases Bool.or_eq_true_iff.mp h with h | h
            · apply h1; rw [h]; rfl
            · apply h2; rw [h]; rfl
          · exact h3 h
theorem s_asg (O : Okx c C X) {tg e : Expr} {t : T} {a : E} {pos : Pos} (hb : setB c tg e = true) (hc : notComp e = true ∨ isName tg = false) (hn : notStar tg = true) (h1 : PG X tg (gX X.K C t)) (h2 : PE X e (tX false X.K C a)) : PS X (.Assign [tg] e pos) (sX X.K C W (.set t a)) := by
  refine ⟨fun pins s σ H D I q => ?_⟩
  have hw : swappedStores [tg] e X.env = pure none := by
    unfold setB at hb
    split at hb
    · exact stores_none O hb
    · rename_i hne
      cases e with
      | Tuple _ _ _ => exact absurd rfl (hne _ _ _)
      | _ => rfl
    · rfl
    · rfl
    · rfl
    · cases hb
  exact (ps_asg h2 h1 (sole_false hc) hw (asgEach1 hn)).run pins s σ H D I (asg_imp q)
/-- name = [..] -/
theorem new_imp {K : PySem.W.Frag} {a : E} {fr : Bool} {σ : L2.St} {H : Hp} {Q : VK} (q : tX fr K C (.new a) σ H Q) : tX true K C a σ H Q := by
  obtain ⟨ρ, A, env, st, d, st', er, sr, ev, post⟩ := q
  simp only [evE] at ev
  obtain ⟨⟨x, st1⟩, e1, ev⟩ := R.bind_eq ev
  dsimp only at ev
  refine ⟨ρ, A, env, st, x, st1, er, sr, e1, fun v H1 ρ1 A1 s1 S1 p => ?_⟩
  unfold alloc at ev
  split at ev
  · rename_i xs
    simp only [R.ok.injEq, Prod.mk.injEq] at ev
    obtain ⟨rfl, rfl⟩ := ev
    obtain ⟨a0, vs, rfl, h0, h1, h2, h3, h4⟩ := p
    have S2 := S1.push (o := .lst (xs.map .v)) h2 h1 h3 (.lst h4.rd)
    exact post _ H1 (ρ1 ++ [a0]) A1 (s1.push h0) S2 (.of (.ref (by rw [← S1.len]; simp)) fun _ z => nomatch z)
  · cases ev
theorem weak_imp {K : PySem.W.Frag} {a : E} {σ : L2.St} {H : Hp} {Q : VK} (q : tX false K C a σ H Q) : tX true K C a σ H Q := by
  obtain ⟨ρ, A, env, st, d, st', er, sr, ev, post⟩ := q
  refine ⟨ρ, A, env, st, d, st', er, sr, ev, fun v H' ρ' A' s' S' p => ?_⟩
  obtain ⟨A2, h1, h2, h3⟩ := PD.weak S' p (fun _ _ _ => .inr trivial)
  exact post v H' ρ' A2 (h1 ρ A H s' fun a ha => ⟨sr.notmem ha, ha⟩) h2 h3
theorem name_imp {K : PySem.W.Frag} {i : Nat} {te : TE} {D : Ends} {σ : L2.St} {H : Hp} {a : E} (himp : ∀ Q, tX false K C a σ H Q → te σ H Q) (q : sX K C W (.set (.name i) a) D σ H) : tAsg te (gName i) D σ H := by
  have q2 := asg_imp q
  refine himp _ ?_
  obtain ⟨ρ, A, env, st, d, st', er, sr, ev, post⟩ := q2
  refine ⟨ρ, A, env, st, d, st', er, sr, ev, fun v H1 ρ1 A1 s1 S1 r1 => ?_⟩
  obtain ⟨ρ2, A2, env2, st2, d2, env3, st3, er2, sr2, rd2, ev2, post2⟩ := post v H1 ρ1 A1 s1 S1 r1
  simp only [asT] at ev2
  split at ev2
  · simp only [R.ok.injEq, Prod.mk.injEq] at ev2
    obtain ⟨rfl, rfl⟩ := ev2
    have rd2 : RD K ρ2 A2 H1 v d2 := rd2
    refine post2 _ H1 ρ2 A2 .refl sr2 (er2.set rd2 i) ⟨by simp, fun j hj => ?_⟩
    rw [List.getElem?_set_ne]
    intro z
    exact hj (by simp [tNames, z])
  · cases ev2
theorem s_lc (O : Okx c C X) {y : Str} {i : Nat} {py : Pos} {a : E} {elt tg iter : Expr} {ifs : List Expr} {scope : Scope} {pos spos : Pos} {elt' : E} {own : List Nat} {t : T} {it : It} {g : Option E} (hy : c.N[i]? = some y) (hyl : locB c y = true)
    (hb : blkC c.N c.sc scope (ownOf c own) = true) (ho : (tNames t).all (fun i => own.contains i) = true) (hs : notSet iter = true) (himp : ∀ {σ : L2.St} {H : Hp} Q, tX false X.K C a σ H Q → tX true X.K C (.comp elt' own t it g) σ H Q)
    (hi : PI X tg iter (iX X.K C t it)) (hg : ∀ (s : Shared) (H : Hp) (Ca : Addr) (cl : List (Str × Addr)) (fp : List Addr), PG (X.blk s H scope (compEnvC scope cl Ca X.env) fp) tg (gX X.K C t))
    (ht : ∀ (s : Shared) (H : Hp) (Ca : Addr) (cl : List (Str × Addr)) (fp : List Addr), PTs (X.blk s H scope (compEnvC scope cl Ca X.env) fp) ifs (tXG X.K C g))
    (he : ∀ (s : Shared) (H : Hp) (Ca : Addr) (cl : List (Str × Addr)) (fp : List Addr), PE (X.blk s H scope (compEnvC scope cl Ca X.env) fp) elt (tX false X.K C elt')) (he2 : PE X (.ListComp elt [⟨tg, iter, ifs, 0⟩] scope pos) (tX false X.K C a)) :
    PS X (.Assign [.Name y py] (.ListComp elt [⟨tg, iter, ifs, 0⟩] scope pos) spos) (sX X.K C W (.set (.name i) a)) := by
  refine ⟨fun pins s σ H D I q => ?_⟩
  have hb' : BlkOk X.N X.env.scope scope (ownOf c own) := by
    rw [O.N, O.sc]; exact blkOk_by hb
  have hk : X.env.scope.kind = .function := I.ok.kind
  have hbk : X.env.blockKind = .function := by unfold Env.blockKind; rw [hk]; rfl
  by_cases hsw : (X.env.kindOf y == some .local && py.line == pos.line && !(scope.names.any fun (n, k) => n == y && (k == .local || k == .cell))) = true
  · have sw : swapsWith (.ListComp elt [⟨tg, iter, ifs, 0⟩] scope pos) (some (.Name y py)) spos.line X.env = pure true := by
      unfold swapsWith
      simp only [hbk, Expr.pos]
      have : (X.env.kindOf y == some .local && py.line == pos.line && !(scope.names.any fun (n, k) => n == y && (k == .local || k == .cell))) = true := hsw
      simp only [beq_self_eq_true, Bool.true_and, this]
      try rfl
    have hl : X.env.scope.names.lookup y = some .local := by
      obtain ⟨h1, h2⟩ := and2 hsw
      obtain ⟨h1, h3⟩ := and2 h1
      exact beqt h1
    have := (ps_setLc (own := ownOf c own) (pos := pos) (spos := spos) (py := py) O.calm (by rw [O.N]; exact O.nd) (by rw [O.N]; exact hy) hl sw hi hb' hg ht he (folded_of hs)).run pins s σ H D I
    rw [own_map] at this
    exact this (name_imp (fun Q q => lc_imp (fun i hi => by
      have := List.all_eq_true.mp ho i hi
      simpa using this) (himp Q q)) q)
  · have sw : swapsWith (.ListComp elt [⟨tg, iter, ifs, 0⟩] scope pos) (some (.Name y py)) spos.line X.env = pure false := by
      unfold swapsWith
      simp only [hbk, Expr.pos]
      have : (X.env.kindOf y == some .local && py.line == pos.line && !(scope.names.any fun (n, k) => n == y && (k == .local || k == .cell))) = false := by
        cases h : (X.env.kindOf y == some .local && py.line == pos.line && !(scope.names.any fun (n, k) => n == y && (k == .local || k == .cell)))
        · rfl
        · exact absurd h hsw
      simp only [beq_self_eq_true, Bool.true_and, this]
      try rfl
    obtain ⟨hl, hf⟩ := O.st y hyl
    exact (ps_set (by rw [O.N]; exact O.nd) (by rw [O.N]; exact hy) hl he2 sw hf).run pins s σ H D I (name_imp (fun Q q => q) q)
end
end Vi
set_option Elab.async false
set_option linter.all false
set_option maxRecDepth 100000
set_option maxHeartbeats 4000000
set_option autoImplicit false
/-! Vw: .. loops. -/
namespace Vi
open PySem L2 PySem.Spec PyProof.Rows
section
variable {C : Cfg} {X : Cx} {c : CC} {W : L2.St → Hp → Prop}
theorem stores_some (O : Okx c C X) (hk : X.env.scope.kind = .function) {ts vs : List Expr} {k k2 : Nat} {p p2 : Pos} (h1 : (ts.length == 2 || ts.length == 3) = true) (h2 : vs.length = ts.length) (h3 : vs.all notStar = true) (h4 : (swNames c ts).length = ts.length) (h5 : (swNames c ts).eraseDups.length = (swNames c ts).length)
    (h6 : vs.all (foldedForSure 8) = false) (h7 : vs.all (constantsAlone 8) = false) : swappedStores [.Tuple ts k p] (.Tuple vs k2 p2) X.env = pure (some (swNames c ts)) := by
  have hbk : X.env.blockKind = .function := by unfold Env.blockKind; rw [hk]; rfl
  unfold swappedStores
  dsimp only
  rw [swNames_of (c := c) (f := _) (fun x => by cases x <;> first | rfl | (unfold swName Env.kindOf; rw [O.sc]))]
  have h3' : ∀ f : Expr → Bool, (∀ e, notStar e = true → f e = false) → vs.any f = false := fun f hf => by
    rw [List.any_eq_false]
    intro e he
    rw [hf e (List.all_eq_true.mp h3 e he)]
    exact Bool.false_ne_true
  rw [if_neg, if_neg, if_neg, if_neg, if_neg]
  · rw [h7]; exact Bool.false_ne_true
  · rw [h6]; exact Bool.false_ne_true
  · rw [h4, h5, h4]; simp
  · rw [h3']
    · exact Bool.false_ne_true
    · intro e he; cases e <;> first | rfl | (simp [notStar] at he)
  · rw [h1, h2, hbk]; simp
theorem locN_loc (O : Okx c C X) {x : Str} (h : locN c x = true) : X.env.scope.names.lookup x = some .local := by
  rw [O.sc]; exact beqt h
theorem two_tXs {K : PySem.W.Frag} {a b : E} {D : Ends} {σ : L2.St} {H : Hp} {i j : Nat} (q : sX K C W (.par [.name i, .name j] [a, b]) D σ H) : tPar i j (tXs K C [a, b]) D σ H := by
  obtain ⟨ρ, A, env, st, fl, env', st', er, sr, ev, post⟩ := q
  simp only [exS] at ev
  obtain ⟨⟨ds, st1⟩, e1, ev⟩ := R.bind_eq ev
  obtain ⟨⟨env2, st2⟩, e2, ev⟩ := R.bind_eq ev
  simp only [R.ok.injEq, Prod.mk.injEq] at ev
  obtain ⟨rfl, rfl, rfl⟩ := ev
  refine ⟨ρ, A, env, st, ds, st1, er, sr, e1, fun vs H1 ρ1 A1 s1 S1 r1 => ?_⟩
  match ds, r1, e2 with
  | [], _, e2 => simp [asTs] at e2
  | [d], _, e2 =>
    simp only [asTs] at e2
    obtain ⟨⟨env3, st3⟩, e3, e2⟩ := R.bind_eq e2
    simp at e2
  | d :: d2 :: d3 :: ds, _, e2 =>
    simp only [asTs] at e2
    obtain ⟨⟨env3, st3⟩, e3, e2⟩ := R.bind_eq e2
    obtain ⟨⟨env4, st4⟩, e4, e2⟩ := R.bind_eq e2
    simp at e2
  | [d, d2], r1, e2 =>
    obtain ⟨v, w, rfl, rv, rw'⟩ := r1.two
    simp only [asTs, asT] at e2
    obtain ⟨⟨env3, st3⟩, e3, e2⟩ := R.bind_eq e2
    obtain ⟨⟨env4, st4⟩, e4, e2⟩ := R.bind_eq e2
    split at e3
    · cases e3
      dsimp only at e4
      split at e4
      · cases e4
        simp only [R.ok.injEq, Prod.mk.injEq] at e2
        obtain ⟨rfl, rfl⟩ := e2
        exact ⟨v, w, rfl, post _ H1 ρ1 A1 s1 S1 (((er.mono s1).set rv i).set rw' j)⟩
      · cases e4
    · cases e3
theorem three_tXs {K : PySem.W.Frag} {a b d : E} {D : Ends} {σ : L2.St} {H : Hp} {i j l : Nat} (q : sX K C W (.par [.name i, .name j, .name l] [a, b, d]) D σ H) : tPar3 i j l (tXs K C [a, b, d]) D σ H := by
  obtain ⟨ρ, A, env, st, fl, env', st', er, sr, ev, post⟩ := q
  simp only [exS] at ev
  obtain ⟨⟨ds, st1⟩, e1, ev⟩ := R.bind_eq ev
  obtain ⟨⟨env2, st2⟩, e2, ev⟩ := R.bind_eq ev
  simp only [R.ok.injEq, Prod.mk.injEq] at ev
  obtain ⟨rfl, rfl, rfl⟩ := ev
  refine ⟨ρ, A, env, st, ds, st1, er, sr, e1, fun vs H1 ρ1 A1 s1 S1 r1 => ?_⟩
  match ds, r1, e2 with
  | [], _, e2 => simp [asTs] at e2
  | [d], _, e2 =>
    simp only [asTs] at e2
    obtain ⟨⟨env3, st3⟩, e3, e2⟩ := R.bind_eq e2
    simp at e2
  | [d, d2], _, e2 =>
    simp only [asTs] at e2
    obtain ⟨⟨env3, st3⟩, e3, e2⟩ := R.bind_eq e2
    obtain ⟨⟨env4, st4⟩, e4, e2⟩ := R.bind_eq e2
    simp at e2
  | d :: d2 :: d3 :: d4 :: ds, _, e2 =>
    simp only [asTs] at e2
    obtain ⟨⟨env3, st3⟩, e3, e2⟩ := R.bind_eq e2
    obtain ⟨⟨env4, st4⟩, e4, e2⟩ := R.bind_eq e2
    obtain ⟨⟨env5, st5⟩, e5, e2⟩ := R.bind_eq e2
    simp at e2
  | [d, d2, d3], r1, e2 =>
    cases r1 with
    | cons r0 rs =>
      obtain ⟨w, z, rfl, rw', rz⟩ := rs.two
      simp only [asTs, asT] at e2
      obtain ⟨⟨env3, st3⟩, e3, e2⟩ := R.bind_eq e2
      obtain ⟨⟨env4, st4⟩, e4, e2⟩ := R.bind_eq e2
      obtain ⟨⟨env5, st5⟩, e5, e2⟩ := R.bind_eq e2
      split at e3
      · cases e3
        dsimp only at e4
        split at e4
        · cases e4
          dsimp only at e5
          split at e5
          · cases e5
            simp only [R.ok.injEq, Prod.mk.injEq] at e2
            obtain ⟨rfl, rfl⟩ := e2
            exact ⟨_, w, z, rfl, post _ H1 ρ1 A1 s1 S1 ((((er.mono s1).set r0 i).set rw' j).set rz l)⟩
          · cases e5
        · cases e4
      · cases e3
theorem s_par2 (O : Okx c C X) {x y : Str} {i j : Nat} {px py pt pt2 pos : Pos} {kt k2 : Nat} {a b : Expr} {a' b' : E} (h : (c.N[i]? == some x && c.N[j]? == some y && !(i == j) && !(x == y) && locN c x && locN c y && px.line == py.line && notStar a && notStar b && !([a, b].all (foldedForSure 8)) && !([a, b].all (constantsAlone 8))) = true)
    (ha : PE X a (tX false X.K C a')) (hb : PE X b (tX false X.K C b')) : PS X (.Assign [.Tuple [.Name x px, .Name y py] kt pt] (.Tuple [a, b] k2 pt2) pos) (sX X.K C W (.par [.name i, .name j] [a', b'])) := by
  simp only [Bool.and_eq_true] at h
  obtain ⟨⟨⟨⟨⟨⟨⟨⟨⟨⟨h1, h2⟩, h3⟩, h4⟩, h5⟩, h6⟩, h7⟩, h8⟩, h9⟩, h10⟩, h11⟩ := h
  refine ⟨fun pins s σ H D I q => ?_⟩
  have l1 := beqt h5
  have l2 := beqt h6
  have hl : (py.line == px.line) = true := by rw [beqt h7]; simp
  have hxy : x ≠ y := by simpa using h4
  have nm : swNames c [.Name x px, .Name y py] = [x, y] := by
    rw [← swNames_of (f := swName c _) (fun _ => rfl)]
    simp [List.filterMap, swName, l1, l2, Expr.pos, (beqt h7).symm]
  have hw := stores_some (k := kt) (k2 := k2) (p := pt) (p2 := pt2) O I.ok.kind (ts := [.Name x px, .Name y py]) (vs := [a, b]) rfl rfl (by simp [h8, h9]) (by rw [nm]; rfl) (by rw [nm]; simp [List.eraseDups_cons, Ne.symm hxy, hxy]) (bang h10) (bang h11)
  rw [nm] at hw
  exact (ps_par O.calm (by rw [O.N]; exact O.nd) (by rw [O.N]; exact beqt h1) (by rw [O.N]; exact beqt h2) (by simpa using h3) (locN_loc O h5) (locN_loc O h6) (s_cons ha (s_cons hb s_nil h9) h8) hw (sole_false (.inl rfl))).run pins s σ H D I (two_tXs q)
theorem parT_imp {K : PySem.W.Frag} {ts : List T} {es : List E} {n : Nat} {D : Ends} {σ : L2.St} {H : Hp} (hn : es.length = n) (hn2 : n ≤ 8) (q : sX K C W (.par ts es) D σ H) : tAsg (tTupF (tXs K C es)) (gTup K n (gXs K C ts)) D σ H := by
  obtain ⟨ρ, A, env, st, fl, env', st', er, sr, ev, post⟩ := q
  simp only [exS] at ev
  obtain ⟨⟨ds, st1⟩, e1, ev⟩ := R.bind_eq ev
  obtain ⟨⟨env2, st2⟩, e2, ev⟩ := R.bind_eq ev
  simp only [R.ok.injEq, Prod.mk.injEq] at ev
  obtain ⟨rfl, rfl, rfl⟩ := ev
  have hl : ∀ (es : List E) (env : En) (st : Sto) (ds : List Vi.D) (st1 : Sto), evEs C es env st = .ok (ds, st1) → ds.length = es.length := by
    intro es
    induction es with
    | nil => intro env st ds st1 h; simp only [evEs, R.ok.injEq, Prod.mk.injEq] at h; rw [← h.1]; rfl
    | cons e es ih =>
      intro env st ds st1 h
      simp only [evEs] at h
      obtain ⟨⟨d, st2⟩, h1, h⟩ := R.bind_eq h
      obtain ⟨⟨ds2, st3⟩, h2, h⟩ := R.bind_eq h
      simp only [R.ok.injEq, Prod.mk.injEq] at h
      rw [← h.1]
      simp [ih _ _ _ _ h2]
  have hd := hl es env st ds st1 e1
  refine ⟨ρ, A, env, st, ds, st1, er, sr, e1, fun vs H1 ρ1 A1 s1 S1 r1 => ?_⟩
  have hv : vs.length = n := by rw [r1.length, hd, hn]
  refine ⟨by rw [hv]; exact Nat.le_trans hn2 (by decide), fun p hp => ⟨p, vs, rfl, TupF.sqT upd_same, hv, ?_⟩⟩
  have l : Stp ρ1 A1 H1 ρ1 A1 (upd H1 p (.tup vs)) := Stp.laid0 hp
  exact ⟨ρ1, A1, env, st1, ds, env2, st2, (er.mono s1).mono l, S1.laid0 hp, r1.mono l, e2, fun σ2 H2 ρ2 A2 s2 S2 er2 _ => post σ2 H2 ρ2 A2 ((s1.trans l).trans s2) S2 er2⟩
theorem s_parT (O : Okx c C X) {x y : Str} {i j : Nat} {px py pt pt2 pos : Pos} {kt k2 : Nat} {a b : Expr} {a' b' : E} (h : (c.N[i]? == some x && c.N[j]? == some y && locB c x && locB c y && notStar a && notStar b && swNone c [.Name x px, .Name y py] [a, b]) = true)
    (ha : PE X a (tX false X.K C a')) (hb : PE X b (tX false X.K C b')) : PS X (.Assign [.Tuple [.Name x px, .Name y py] kt pt] (.Tuple [a, b] k2 pt2) pos) (sX X.K C W (.par [.name i, .name j] [a', b'])) := by
  simp only [Bool.and_eq_true] at h
  obtain ⟨⟨⟨⟨⟨⟨h1, h2⟩, h3⟩, h4⟩, h5⟩, h6⟩, h7⟩ := h
  refine ⟨fun pins s σ H D I q => ?_⟩
  have gs : PGs X [.Name x px, .Name y py] (gXs X.K C [.name i, .name j]) := gs_cons (g_name O (beqt h1) h3) (gs_cons (g_name O (beqt h2) h4) gs_nil rfl) rfl
  obtain ⟨n1, n2⟩ := asg_none (env := X.env) (es := [.Name x px, .Name y py]) rfl
  exact (ps_asg (pe_tupF (n := k2) (pos := pt2) (s_cons ha (s_cons hb s_nil h6) h5)) (pg_tup O.calm gs n1 n2) (sole_false (.inl rfl)) (stores_none O h7) (asgEach1 rfl)).run pins s σ H D I (parT_imp rfl (by show 2 ≤ 8; omega) q)
theorem s_par3 (O : Okx c C X) {x y z : Str} {i j l : Nat} {px py pz pt pt2 pos : Pos} {kt k2 : Nat} {a b d : Expr} {a' b' d' : E} (h : (c.N[i]? == some x && c.N[j]? == some y && c.N[l]? == some z && !(i == j) && !(i == l) && !(j == l) && !(x == y) && !(x == z) && !(y == z) && locN c x && locN c y && locN c z && px.line == py.line && px.line == pz.line && notStar a && notStar b && notStar d
        && !([a, b, d].all (foldedForSure 8)) && !([a, b, d].all (constantsAlone 8))) = true)
    (ha : PE X a (tX false X.K C a')) (hb : PE X b (tX false X.K C b')) (hd : PE X d (tX false X.K C d')) : PS X (.Assign [.Tuple [.Name x px, .Name y py, .Name z pz] kt pt] (.Tuple [a, b, d] k2 pt2) pos) (sX X.K C W (.par [.name i, .name j, .name l] [a', b', d'])) := by
  simp only [Bool.and_eq_true] at h
  obtain ⟨⟨⟨⟨⟨⟨⟨⟨⟨⟨⟨⟨⟨⟨⟨⟨⟨⟨h1, h2⟩, h3⟩, h4⟩, h5⟩, h6⟩, h7⟩, h8⟩, h9⟩, h10⟩, h11⟩, h12⟩, h13⟩, h14⟩, h15⟩, h16⟩, h17⟩, h18⟩, h19⟩ := h
  refine ⟨fun pins s σ H D I q => ?_⟩
  have l1 := beqt h10
  have l2 := beqt h11
  have l3 := beqt h12
  have e1 := beqt h13
  have e2 := beqt h14
  have hxy : x ≠ y := by simpa using h7
  have hxz : x ≠ z := by simpa using h8
  have hyz : y ≠ z := by simpa using h9
  have nm : swNames c [.Name x px, .Name y py, .Name z pz] = [x, y, z] := by
    rw [← swNames_of (f := swName c _) (fun _ => rfl)]
    simp [List.filterMap, swName, l1, l2, l3, Expr.pos, e1.symm, e2.symm]
  have hw := stores_some (k := kt) (k2 := k2) (p := pt) (p2 := pt2) O I.ok.kind (ts := [.Name x px, .Name y py, .Name z pz]) (vs := [a, b, d]) rfl rfl (by simp [h15, h16, h17]) (by rw [nm]; rfl) (by rw [nm]; simp [List.eraseDups_cons, Ne.symm hxy, hxy, Ne.symm hxz, Ne.symm hyz, hxz, hyz]) (bang h18) (bang h19)
  rw [nm] at hw
  exact (ps_par3 O.calm (by rw [O.N]; exact O.nd) (by rw [O.N]; exact beqt h1) (by rw [O.N]; exact beqt h2) (by rw [O.N]; exact beqt h3) (by simpa using h4) (by simpa using h5) (by simpa using h6) (locN_loc O h10) (locN_loc O h11) (locN_loc O h12) (s_cons ha (s_cons hb (s_cons hd s_nil h17) h16) h15) hw (sole_false (.inl rfl))).run pins s σ H D I (three_tXs q)
theorem ip_mulC : PIp X .Mult (fun x y H Q => ∃ i j, x = .int i ∧ y = .int j ∧ CMul i j ∧ Q (.int (i * j)) H) := by
  intro pins s σ H x y v u Q I r1 r2 h
  obtain ⟨i, j, rfl, rfl, hc, q⟩ := h
  obtain ⟨t, rfl⟩ := r1
  obtain ⟨t', rfl⟩ := r2
  exact imul_int ⟨.int _, H, I.tok _, ⟨_, rfl⟩, q⟩ hc.ok
theorem s_aug (O : Okx c C X) {x : Str} {i : Nat} {px pos : Pos} {op op' : Operator} {e : Expr} {a : E} (h1 : c.N[i]? = some x) (h2 : locB c x = true) (h3 : opB op op' = true) (he : PE X e (tX false X.K C a)) : PS X (.AugAssign (.Name x px) op e pos) (sX X.K C W (.aug i op' a)) := by
  obtain ⟨hl, hf⟩ := O.st x h2
  refine ⟨fun pins s σ H D I q => ?_⟩
  obtain ⟨ρ, A, env, st, fl, env', st', er, sr, ev, post⟩ := q
  simp only [exS] at ev
  obtain ⟨d, e1, ev⟩ := R.bind_eq ev
  obtain ⟨⟨d2, st2⟩, e2, ev⟩ := R.bind_eq ev
  dsimp only at ev
  obtain ⟨v, hv, rv⟩ := er.2 i d (getV_eq e1)
  split at ev
  · skip
    cases rv.int_eq
    split at ev
    · cases ev
      cases op <;> first | (exfalso; simp [opB] at h3; done) | skip
      exact (ps_aug (by rw [O.N]; exact O.nd) (by rw [O.N]; exact h1) hl he ip_add hf).run pins s σ H D I ⟨_, hv, one_tX er sr e2 fun w H1 ρ1 A1 s1 S1 r1 => ⟨_, _, rfl, r1.int_eq, post _ H1 ρ1 A1 s1 S1 ((er.mono s1).set (.v (.int _)) i)⟩⟩
    · cases ev
      cases op <;> first | (exfalso; simp [opB] at h3; done) | skip
      exact (ps_aug (by rw [O.N]; exact O.nd) (by rw [O.N]; exact h1) hl he ip_sub hf).run pins s σ H D I ⟨_, hv, one_tX er sr e2 fun w H1 ρ1 A1 s1 S1 r1 => ⟨_, _, rfl, r1.int_eq, post _ H1 ρ1 A1 s1 S1 ((er.mono s1).set (.v (.int _)) i)⟩⟩
    · split at ev
      · rename_i hz
        cases ev
        cases op <;> first | (exfalso; simp [opB] at h3; done) | skip
        exact (ps_aug (by rw [O.N]; exact O.nd) (by rw [O.N]; exact h1) hl he ip_mulC hf).run pins s σ H D I ⟨_, hv, one_tX er sr e2 fun w H1 ρ1 A1 s1 S1 r1 => ⟨_, _, rfl, r1.int_eq, mulOk_eq hz, post _ H1 ρ1 A1 s1 S1 ((er.mono s1).set (.v (.int _)) i)⟩⟩
      · cases ev
    · cases ev
  · cases ev
theorem s_expr (O : Okx c C X) {e : Expr} {a : E} {pos : Pos} (hc : notComp e = true) (h : PE X e (tX false X.K C a)) : PS X (.Expr e pos) (sX X.K C W (.expr a)) := by
  refine ⟨fun pins s σ H D I q => ?_⟩
  obtain ⟨ρ, A, env, st, fl, env', st', er, sr, ev, post⟩ := q
  simp only [exS] at ev
  obtain ⟨⟨d, st1⟩, e1, ev⟩ := R.bind_eq ev
  simp only [R.ok.injEq, Prod.mk.injEq] at ev
  obtain ⟨rfl, rfl, rfl⟩ := ev
  refine (ps_expr h (by cases e <;> first | rfl | (simp [notComp] at hc))).run pins s σ H D I (one_tX er sr e1 fun v H1 ρ1 A1 s1 S1 r1 => post σ H1 ρ1 A1 s1 S1 (er.mono s1))
theorem s_ret {e : Expr} {a : E} {pos : Pos} (h : PE X e (tX false X.K C a)) : PS X (.Return (some e) pos) (sX X.K C W (.ret a)) := by
  refine ⟨fun pins s σ H D I q => ?_⟩
  obtain ⟨ρ, A, env, st, fl, env', st', er, sr, ev, post⟩ := q
  simp only [exS] at ev
  obtain ⟨⟨d, st1⟩, e1, ev⟩ := R.bind_eq ev
  simp only [R.ok.injEq, Prod.mk.injEq] at ev
  obtain ⟨rfl, rfl, rfl⟩ := ev
  exact (ps_ret h).run pins s σ H D I (one_tX er sr e1 fun v H1 ρ1 A1 s1 S1 r1 => post σ H1 ρ1 A1 s1 S1 (er.mono s1) v r1)
theorem s_retN {pos : Pos} : PS X (.Return none pos) (sX X.K C W .retN) := by
  refine ⟨fun pins s σ H D I q => ?_⟩
  obtain ⟨ρ, A, env, st, fl, env', st', er, sr, ev, post⟩ := q
  simp only [exS, R.ok.injEq, Prod.mk.injEq] at ev
  obtain ⟨rfl, rfl, rfl⟩ := ev
  exact ps_retN.run pins s σ H D I (post σ H ρ A .refl sr er .non (.v .non))
theorem s_pass {pos : Pos} : PS X (.Pass pos) (sX X.K C W .pass) := by
  refine ⟨fun pins s σ H D I q => ?_⟩
  obtain ⟨ρ, A, env, st, fl, env', st', er, sr, ev, post⟩ := q
  simp only [exS, R.ok.injEq, Prod.mk.injEq] at ev
  obtain ⟨rfl, rfl, rfl⟩ := ev
  exact ps_pass.run pins s σ H D I (post σ H ρ A .refl sr er)
theorem s_brk {pos : Pos} : PS X (.Break pos) (sX X.K C W .brk) := by
  refine ⟨fun pins s σ H D I q => ?_⟩
  obtain ⟨ρ, A, env, st, fl, env', st', er, sr, ev, post⟩ := q
  simp only [exS, R.ok.injEq, Prod.mk.injEq] at ev
  obtain ⟨rfl, rfl, rfl⟩ := ev
  exact ps_break.run pins s σ H D I (post σ H ρ A .refl sr er)
theorem s_cont {pos : Pos} : PS X (.Continue pos) (sX X.K C W .cont) := by
  refine ⟨fun pins s σ H D I q => ?_⟩
  obtain ⟨ρ, A, env, st, fl, env', st', er, sr, ev, post⟩ := q
  simp only [exS, R.ok.injEq, Prod.mk.injEq] at ev
  obtain ⟨rfl, rfl, rfl⟩ := ev
  exact ps_continue.run pins s σ H D I (post σ H ρ A .refl sr er)
theorem s_if {t : Expr} {p q : List Stmt} {t' : E} {p' q' : List S} {pos : Pos} (h1 : PT X t (tXT X.K C t')) (h2 : PSs X p (sXs X.K C W p')) (h3 : PSs X q (sXs X.K C W q')) : PS X (.If t p q pos) (sX X.K C W (.ite t' p' q')) := by
  refine ⟨fun pins s σ H D I q => ?_⟩
  obtain ⟨ρ, A, env, st, fl, env', st', er, sr, ev, post⟩ := q
  simp only [exS] at ev
  obtain ⟨⟨b, st1⟩, e1, ev⟩ := R.bind_eq ev
  refine (ps_if h1 h2 h3).run pins s σ H D I ⟨ρ, A, env, st, b, st1, er, sr, e1, fun H1 ρ1 A1 s1 S1 => ?_⟩
  cases b with
  | true =>
    simp only [if_true] at ev ⊢
    exact ⟨ρ1, A1, env, st1, fl, env', st', er.mono s1, S1, ev, fun σ2 H2 ρ2 A2 s2 S2 er2 => post σ2 H2 ρ2 A2 (s1.trans s2) S2 er2⟩
  | false =>
    simp only [Bool.false_eq_true, if_false] at ev ⊢
    exact ⟨ρ1, A1, env, st1, fl, env', st', er.mono s1, S1, ev, fun σ2 H2 ρ2 A2 s2 S2 er2 => post σ2 H2 ρ2 A2 (s1.trans s2) S2 er2⟩
theorem s_while (O : Okx c C X) {t : Expr} {b : List Stmt} {t' : E} {b' : List S} {pos : Pos} (h1 : PT X t (tXT X.K C t')) (h2 : PSs X b (sXs X.K C W b')) : PS X (.While t b [] pos) (sX X.K C W (.whileS t' b')) := by
  refine ⟨fun pins s σ H D I q => ?_⟩
  obtain ⟨ρ, A, env, st, fl, env', st', er, sr, ev, post⟩ := q
  simp only [exS] at ev
  refine (ps_while O.pass h1 h2).run pins s σ H D I ⟨fun m σ1 H1 => ∃ (ρ1 : List Addr) (A1 : AS) (env1 : En) (st1 : Sto), Stp ρ A H ρ1 A1 H1 ∧ SR X.K ρ1 A1 st1 H1 ∧ ER X.K ρ1 A1 H1 σ1 env1 ∧ whileL (evT C t') (exSs C b') m env1 st1 = .ok (fl, env', st'), ⟨C.lim, ρ, A, env, st, .refl, sr, er, ev⟩, ?_⟩
  rintro m σ1 H1 ⟨ρ1, A1, env1, st1, s1, S1, er1, ev1⟩
  cases m with
  | zero => simp [whileL] at ev1
  | succ k =>
    simp only [whileL] at ev1
    obtain ⟨⟨bb, st2⟩, e2, ev1⟩ := R.bind_eq ev1
    refine ⟨ρ1, A1, env1, st1, bb, st2, er1, S1, e2, fun H2 ρ2 A2 s2 S2 => ?_⟩
    cases bb with
    | false =>
      simp only [Bool.false_eq_true, if_false, R.ok.injEq, Prod.mk.injEq] at ev1 ⊢
      obtain ⟨rfl, rfl, rfl⟩ := ev1
      exact post σ1 H2 ρ2 A2 (s1.trans s2) S2 (er1.mono s2)
    | true =>
      simp only [if_true] at ev1 ⊢
      obtain ⟨⟨f3, env3, st3⟩, e3, ev1⟩ := R.bind_eq ev1
      refine ⟨fun σ3 H3 => ∃ m', m' < k + 1 ∧ ∃ (ρ1 : List Addr) (A1 : AS) (env1 : En) (st1 : Sto), Stp ρ A H ρ1 A1 H3 ∧ SR X.K ρ1 A1 st1 H3 ∧ ER X.K ρ1 A1 H3 σ3 env1 ∧ whileL (evT C t') (exSs C b') m' env1 st1 = .ok (fl, env', st'), fun σ3 H3 h => h, ρ2, A2, env1, st2, f3, env3, st3, er1.mono s2, S2, e3, fun σ4 H4 ρ4 A4 s4 S4 er4 => ?_⟩
      dsimp only at ev1
      have s04 := (s1.trans s2).trans s4
      cases f3 with
      | nx => exact ⟨k, Nat.lt_succ_self k, ρ4, A4, env3, st3, s04, S4, er4, ev1⟩
      | ct => exact ⟨k, Nat.lt_succ_self k, ρ4, A4, env3, st3, s04, S4, er4, ev1⟩
      | bk =>
        simp only [R.ok.injEq, Prod.mk.injEq] at ev1
        obtain ⟨rfl, rfl, rfl⟩ := ev1
        exact post σ4 H4 ρ4 A4 s04 S4 er4
      | rt d =>
        simp only [R.ok.injEq, Prod.mk.injEq] at ev1
        obtain ⟨rfl, rfl, rfl⟩ := ev1
        exact post σ4 H4 ρ4 A4 s04 S4 er4
      | ex =>
        simp only [R.ok.injEq, Prod.mk.injEq] at ev1
        obtain ⟨rfl, rfl, rfl⟩ := ev1
        exact post σ4 H4 ρ4 A4 s04 S4 er4
/-- the rest of a for's turns -/
def RestF (body : D → En → Sto → R (Flow × En × Sto)) (res : Flow × En × Sto) : Src → Nat → Nat → En → Sto → Prop
  | .items ds, i, m, env, st => forL body (ds.drop i) env st = .ok res ∧ m = ds.length - i
  | .live n, i, m, env, st => forV body n m i env st = .ok res
theorem restF_step {body : D → En → Sto → R (Flow × En × Sto)} {res : Flow × En × Sto} {src : Src} {i m : Nat} {env : En} {st : Sto} (h : RestF body res src i m env st) :
    ∃ ds, srcAt st src = some ds ∧ ((ds[i]? = none ∧ res = (.nx, env, st)) ∨ ∃ x fl env2 st2, ds[i]? = some x ∧ body x env st = .ok (fl, env2, st2) ∧ match fl with
      | .nx => ∃ m', m' < m ∧ RestF body res src (i + 1) m' env2 st2
      | .ct => ∃ m', m' < m ∧ RestF body res src (i + 1) m' env2 st2
      | .bk => res = (.nx, env2, st2)
      | .rt d => res = (.rt d, env2, st2)
      | .ex => res = (.ex, env2, st2)) := by
  cases src with
  | items ds =>
    obtain ⟨h, rfl⟩ := h
    refine ⟨ds, rfl, ?_⟩
    by_cases hi : i < ds.length
    · rw [List.drop_eq_getElem_cons hi] at h
      simp only [forL] at h
      obtain ⟨⟨fl, env2, st2⟩, e1, h⟩ := R.bind_eq h
      refine .inr ⟨ds[i], fl, env2, st2, List.getElem?_eq_getElem hi, e1, ?_⟩
      dsimp only at h
      cases fl with
      | nx => exact ⟨ds.length - (i + 1), by omega, h, rfl⟩
      | ct => exact ⟨ds.length - (i + 1), by omega, h, rfl⟩
      | bk => cases h; rfl
      | rt d => cases h; rfl
      | ex => cases h; rfl
    · rw [List.drop_eq_nil_of_le (by omega)] at h
      simp only [forL, R.ok.injEq] at h
      exact .inl ⟨List.getElem?_eq_none (by omega), h.symm⟩
  | live n =>
    have h : forV body n m i env st = .ok res := h
    cases m with
    | zero => simp [forV] at h
    | succ k =>
      simp only [forV] at h
      split at h
      · rename_i xs hs
        refine ⟨xs, by simp [srcAt, hs], ?_⟩
        split at h
        · rename_i x hx
          obtain ⟨⟨fl, env2, st2⟩, e1, h⟩ := R.bind_eq h
          refine .inr ⟨x, fl, env2, st2, hx, e1, ?_⟩
          dsimp only at h
          cases fl with
          | nx => exact ⟨k, by omega, h⟩
          | ct => exact ⟨k, by omega, h⟩
          | bk => cases h; rfl
          | rt d => cases h; rfl
          | ex => cases h; rfl
        · rename_i hx
          simp only [R.ok.injEq] at h
          exact .inl ⟨hx, h.symm⟩
      · cases h
theorem s_for (O : Okx c C X) {tg iter : Expr} {b : List Stmt} {t : T} {it : It} {b' : List S} {pos : Pos} (hs : notSet iter = true) (hi : PI X tg iter (iX X.K C t it)) (hg : PG X tg (gX X.K C t)) (hb : PSs X b (sXs X.K C W b')) : PS X (.For tg iter b [] pos) (sX X.K C W (.forS t it b')) := by
  refine ⟨fun pins s σ H D I q => ?_⟩
  obtain ⟨ρ, A, env, st, fl, env', st', er, sr, ev, post⟩ := q
  simp only [exS] at ev
  obtain ⟨⟨src, st1⟩, e1, ev⟩ := R.bind_eq ev
  dsimp only at ev
  refine (ps_for O.pass O.calm hi hg hb (folded_of hs)).run pins s σ H D I ⟨ρ, A, env, st, src, st1, er, sr, e1, fun J H1 ρ1 A1 s1 S1 hds jit => ?_⟩
  have start : ∃ m, RestF (fun x env st => (asT C t x env st).bind fun (env, st) => exSs C b' env st) (fl, env', st') src 0 m env st1 := by
    cases src with
    | items ds => exact ⟨ds.length, by simpa using ev, by simp⟩
    | live n => exact ⟨C.lim, ev⟩
  refine ⟨fun i m σ2 H2 => ∃ (ρ2 : List Addr) (A2 : AS) (env2 : En) (st2 : Sto), Stp ρ1 A1 H1 ρ2 A2 H2 ∧ SR X.K ρ2 A2 st2 H2 ∧ ER X.K ρ2 A2 H2 σ2 env2 ∧ RestF (fun x env st => (asT C t x env st).bind fun (env, st) => exSs C b' env st) (fl, env', st') src i m env2 st2, ?_, ?_⟩
  · obtain ⟨m, h⟩ := start
    exact ⟨m, ρ1, A1, env, st1, .refl, S1, er.mono s1, h⟩
  · rintro i m σ2 H2 ⟨ρ2, A2, env2, st2, s2, S2, er2, rest⟩
    obtain ⟨ds, hsrc, rest⟩ := restF_step rest
    obtain ⟨j1, j2⟩ := jit i ρ2 A2 H2 st2 ds s2 S2 hsrc
    rcases rest with ⟨hn, hr⟩ | ⟨x, f3, env3, st3, hx, hbd, rest⟩
    · cases hr
      exact .inl ⟨j2 hn, post σ2 H2 ρ2 A2 (s1.trans s2) S2 er2⟩
    · obtain ⟨go, yl⟩ := j1 x hx
      obtain ⟨⟨env4, st4⟩, k1, k2⟩ := R.bind_eq hbd
      refine .inr ⟨go, fun σ' H' => ∃ m', m' < m ∧ ∃ (ρ2 : List Addr) (A2 : AS) (env2 : En) (st2 : Sto), Stp ρ1 A1 H1 ρ2 A2 H' ∧ SR X.K ρ2 A2 st2 H' ∧ ER X.K ρ2 A2 H' σ' env2 ∧ RestF (fun x env st => (asT C t x env st).bind fun (env, st) => exSs C b' env st) (fl, env', st') src (i + 1) m' env2 st2, fun σ' H' h => h, fun v H3 y => ?_⟩
      obtain ⟨A3, s3, S3, rv⟩ := yl v H3 y
      refine ⟨ρ2, A3, env2, st2, x, env4, st4, er2.mono s3, S3, rv, k1, fun σ4 H4 ρ4 A4 s4 S4 er4 _ => ?_⟩
      refine ⟨ρ4, A4, env4, st4, f3, env3, st3, er4, S4, k2, fun σ5 H5 ρ5 A5 s5 S5 er5 => ?_⟩
      have s25 := ((s2.trans s3).trans s4).trans s5
      cases f3 with
      | nx =>
        obtain ⟨m', hm, rest⟩ := rest
        exact ⟨m', hm, ρ5, A5, env3, st3, s25, S5, er5, rest⟩
      | ct =>
        obtain ⟨m', hm, rest⟩ := rest
        exact ⟨m', hm, ρ5, A5, env3, st3, s25, S5, er5, rest⟩
      | bk => cases rest; exact post σ5 H5 ρ5 A5 (s1.trans s25) S5 er5
      | rt d => cases rest; exact post σ5 H5 ρ5 A5 (s1.trans s25) S5 er5
      | ex => cases rest; exact post σ5 H5 ρ5 A5 (s1.trans s25) S5 er5
/-! ### a dict's keys -/
theorem rp_key {A : AS} {H : Hp} (k : L2.Key) : RP A H (kV k) (keyP k) := by
  cases k with
  | inl i => exact .int i
  | inr s => exact .str s
theorem jit_dk {K : PySem.W.Frag} {a : Addr} {od : Obj} {kvs : List (L2.Key × V)} {t : T} {ρ0 : List Addr} {A0 : AS} {H0 : Hp} (h : H0 a = some (.frz od (.dK kvs))) : JIt K (Itk a od kvs) t ρ0 A0 H0 (.items ((kvs.map fun kv => keyP kv.1).map .v)) := by
  intro i ρ A H st ds s S e
  cases e
  have hh := s.fz _ _ _ h
  refine ⟨fun d hd => ?_, fun hd => ?_⟩
  · rw [List.map_map, List.getElem?_map, Option.map_eq_some_iff] at hd
    obtain ⟨kv, hk, rfl⟩ := hd
    refine ⟨⟨hh, (List.getElem?_eq_some_iff.mp hk).1⟩, fun x H' y => ?_⟩
    obtain ⟨rfl, k, v, h1, rfl⟩ := y
    rw [hk] at h1
    cases h1
    exact ⟨A, .refl, S, .of (.v (rp_key _))⟩
  · have := List.getElem?_eq_none_iff.mp hd
    rw [List.length_map, List.length_map] at this
    exact ⟨hh, this⟩
theorem jit_dt {K : PySem.W.Frag} {a : Addr} {od : Obj} {kvs : List (List L2.Key × V)} {t : T} {ρ0 : List Addr} {A0 : AS} {H0 : Hp} (h : H0 a = some (.frz od (.dT kvs))) : JIt K (Itkt a od kvs) t ρ0 A0 H0 (.items ((kvs.map fun kv => keyT kv.1).map .v)) := by
  intro i ρ A H st ds s S e
  cases e
  have hh := s.fz _ _ _ h
  refine ⟨fun d hd => ?_, fun hd => ?_⟩
  · rw [List.map_map, List.getElem?_map, Option.map_eq_some_iff] at hd
    obtain ⟨kv, hk, rfl⟩ := hd
    refine ⟨⟨hh, (List.getElem?_eq_some_iff.mp hk).1⟩, fun x H' y => ?_⟩
    obtain ⟨rfl, k, v, q, h1, rfl, hq⟩ := y
    rw [hk] at h1
    cases h1
    exact ⟨A, .refl, S, .of (.v (.tup hq (RPs.ofKeys _)))⟩
  · have := List.getElem?_eq_none_iff.mp hd
    rw [List.length_map, List.length_map] at this
    exact ⟨hh, this⟩
theorem kp_unlock {K : PySem.W.Frag} {ρ : List Addr} {A : AS} {H : Hp} {st : Sto} {n : Nat} {a : Addr} {od : Obj} {u : HO} (S : SR K ρ A st H) (e : ρ[n]? = some a) (hH : H a = some (.frz od u)) : Kp A H (upd H a u) := fun b w hb q => by
  have z : b ≠ a := fun z => hb.elim (fun hb => S.off a (List.mem_of_getElem? e) (z ▸ hb)) fun ht => by
    rw [z, hH] at q
    cases q
    exact ht
  rw [upd_ne z]; exact q
theorem SR.unlock {K : PySem.W.Frag} {ρ : List Addr} {A : AS} {H : Hp} {st : Sto} {n : Nat} {a : Addr} {od : Obj} {u : HO} {o : O} (S : SR K ρ A st H) (e : ρ[n]? = some a) (hH : H a = some (.frz od u)) (r : RO K ρ A (upd H a u) u o) : SR K ρ A (st.set n o) (upd H a u) := by
  have kp := kp_unlock S e hH
  have hp : ¬ A a := S.off a (List.mem_of_getElem? e)
  refine ⟨by simp [S.len], S.nd, S.off, fun b hb z => ?_, fun m o' b h e' => ?_⟩
  · have z2 : b ≠ a := fun z => hp (by rw [← z]; exact hb)
    rw [upd_ne z2] at z; exact S.al b hb z
  · by_cases hm : m = n
    · subst hm
      rw [e] at e'; cases e'
      have hlt : m < st.length := by
        have := (List.getElem?_eq_some_iff.mp h).1
        simpa using this
      rw [List.getElem?_set_self hlt] at h
      cases h
      exact ⟨u, upd_same, r⟩
    · rw [List.getElem?_set_ne (Ne.symm hm)] at h
      obtain ⟨w, q1, q2⟩ := S.ob m o' b h e'
      refine ⟨w, ?_, q2.monoA (fun _ h => h) kp⟩
      rw [upd_ne ?_]
      · exact q1
      · rintro rfl
        obtain ⟨hx, ex⟩ := List.getElem?_eq_some_iff.mp e
        obtain ⟨hy, ey⟩ := List.getElem?_eq_some_iff.mp e'
        exact hm ((List.getElem_inj S.nd).mp (ey.trans ex.symm))
theorem forK_tail {J : L2.It} {t : T} {b' : List S} {E : Ends} {ρ1 : List Addr} {A1 : AS} {H1 : Hp} {st1 st3 : Sto} {env env3 : En} {f3 : Flow} {σ : L2.St} {ds : List D} (S1 : SR X.K ρ1 A1 st1 H1) (er1 : ER X.K ρ1 A1 H1 σ env) (jit : JIt X.K J t ρ1 A1 H1 (.items ds))
    (e3 : forL (fun x env st => (asT C t x env st).bind fun (env, st) => exSs C b' env st) ds env st1 = .ok (f3, env3, st3))
    (post : ∀ σ2 H2 ρ2 A2, Stp ρ1 A1 H1 ρ2 A2 H2 → SR X.K ρ2 A2 st3 H2 → ER X.K ρ2 A2 H2 σ2 env3 → Out X.K W E f3 ρ2 A2 σ2 H2) : tFor (fun _ H R => R J H) (gX X.K C t) (sXs X.K C W b') E σ H1 := by
  refine ⟨fun i m σ2 H2 => ∃ (ρ2 : List Addr) (A2 : AS) (env2 : En) (st2 : Sto), Stp ρ1 A1 H1 ρ2 A2 H2 ∧ SR X.K ρ2 A2 st2 H2 ∧ ER X.K ρ2 A2 H2 σ2 env2 ∧ RestF (fun x env st => (asT C t x env st).bind fun (env, st) => exSs C b' env st) (f3, env3, st3) (.items ds) i m env2 st2, ?_, ?_⟩
  · exact ⟨ds.length, ρ1, A1, env, st1, .refl, S1, er1, by simpa using e3, by simp⟩
  · rintro i m σ2 H2 ⟨ρ2, A2, env2, st2, s2, S2, er2, rest⟩
    obtain ⟨ds', hsrc, rest⟩ := restF_step rest
    obtain ⟨j1, j2⟩ := jit i ρ2 A2 H2 st2 ds' s2 S2 hsrc
    rcases rest with ⟨hn, hr⟩ | ⟨x, f4, env4, st4, hx, hbd, rest⟩
    · cases hr
      exact .inl ⟨j2 hn, post σ2 H2 ρ2 A2 s2 S2 er2⟩
    · obtain ⟨go, yl⟩ := j1 x hx
      obtain ⟨⟨env5, st5⟩, k1, k2⟩ := R.bind_eq hbd
      refine .inr ⟨go, fun σ' H' => ∃ m', m' < m ∧ ∃ (ρ2 : List Addr) (A2 : AS) (env2 : En) (st2 : Sto), Stp ρ1 A1 H1 ρ2 A2 H' ∧ SR X.K ρ2 A2 st2 H' ∧ ER X.K ρ2 A2 H' σ' env2 ∧ RestF (fun x env st => (asT C t x env st).bind fun (env, st) => exSs C b' env st) (f3, env3, st3) (.items ds) (i + 1) m' env2 st2, fun σ' H' h => h, fun v H3 y => ?_⟩
      obtain ⟨A3, s3, S3, rv⟩ := yl v H3 y
      refine ⟨ρ2, A3, env2, st2, x, env5, st5, er2.mono s3, S3, rv, k1, fun σ4 H4 ρ4 A4 s4 S4 er4 _ => ?_⟩
      refine ⟨ρ4, A4, env5, st5, f4, env4, st4, er4, S4, k2, fun σ5 H5 ρ5 A5 s5 S5 er5 => ?_⟩
      have s25 := ((s2.trans s3).trans s4).trans s5
      cases f4 with
      | nx =>
        obtain ⟨m', hm, rest⟩ := rest
        exact ⟨m', hm, ρ5, A5, env4, st4, s25, S5, er5, rest⟩
      | ct =>
        obtain ⟨m', hm, rest⟩ := rest
        exact ⟨m', hm, ρ5, A5, env4, st4, s25, S5, er5, rest⟩
      | bk => cases rest; exact post σ5 H5 ρ5 A5 s25 S5 er5
      | rt d => cases rest; exact post σ5 H5 ρ5 A5 s25 S5 er5
      | ex => cases rest; exact post σ5 H5 ρ5 A5 s25 S5 er5
theorem s_forK (O : Okx c C X) {tg : Expr} {x : Str} {px : Pos} {b : List Stmt} {t : T} {i : Nat} {b' : List S} {pos : Pos} (hv : (c.N[i]? == some x && visB c x && !(x == dbg) && !(x == cdict)) = true) (hg : PG X tg (gX X.K C t)) (hb : PSs X b (sXs X.K C W b')) :
    PS X (.For tg (.Name x px) b [] pos) (sX X.K C W (.forK t i b')) := by
  refine ⟨fun pins s σ H D I q => ?_⟩
  obtain ⟨ρ, A, env, st, fl, env', st', er, sr, ev, post⟩ := q
  simp only [exS] at ev
  obtain ⟨x0, e1, ev⟩ := R.bind_eq ev
  cases x0 with
  | v _ => cases ev
  | scr _ => cases ev
  | ref n =>
  dsimp only at ev
  cases hl : (st[n]?).bind lockO with
  | none => rw [hl] at ev; cases ev
  | some obps =>
  obtain ⟨ob, ps⟩ := obps
  rw [hl] at ev
  dsimp only at ev
  obtain ⟨⟨f3, env3, st3⟩, e3, ev⟩ := R.bind_eq ev
  dsimp only at ev
  cases hu : (st3[n]?).bind unlockO with
  | none => rw [hu] at ev; cases ev
  | some ob3 =>
  rw [hu] at ev
  dsimp only at ev
  by_cases hne : notEx f3 = true
  case neg => rw [if_neg hne] at ev; cases ev
  rw [if_pos hne] at ev
  simp only [R.ok.injEq, Prod.mk.injEq] at ev
  obtain ⟨rfl, rfl, rfl⟩ := ev
  rw [Option.bind_eq_some_iff] at hl hu
  obtain ⟨o0, ho0, hl⟩ := hl
  obtain ⟨o3, ho3, hu⟩ := hu
  obtain ⟨v0, hv0, rv0⟩ := er.2 i _ (getV_eq e1)
  obtain ⟨a, u, rfl, h1, h2, hh, ro⟩ := ref_at sr rv0 ho0
  have hv2 : evE C (.var i) env (st.set n ob) = .ok (.ref n, st.set n ob) := by simp only [evE, e1, R.bind_ok]
  have fin : ∀ {od : Obj} {σ2 : L2.St} {H2 : Hp} {ρ2 : List Addr} {A2 : AS} {ρ1 : List Addr} {A1 : AS} {H1 : Hp}, Stp ρ A (upd H a (.frz od u)) ρ2 A2 H2 → SR X.K ρ2 A2 st3 H2 → ER X.K ρ2 A2 H2 σ2 env3 → (∀ w, H a = some w → ¬ Still w) → (RO X.K ρ2 A2 (upd H2 a u) u ob3) →
      H2 a = some (.frz od u) ∧ Out X.K W D f3 ρ2 A2 σ2 (upd H2 a u) := by
    intro od σ2 H2 ρ2 A2 ρ1 A1 H1 s S2 er2 ns ro3
    have hf : H2 a = some (.frz od u) := s.fz _ _ _ upd_same
    have hn2 : ρ2[n]? = some a := pre_get s.pre h1
    have kp := kp_unlock S2 hn2 hf
    have S3 := S2.unlock hn2 hf ro3
    have na : ¬ A a := sr.off a (List.mem_of_getElem? h1)
    have ma : a ∈ ρ := List.mem_of_getElem? h1
    have s3 : Stp ρ A H ρ2 A2 (upd H2 a u) := by
      have up : ∀ b w, b ≠ a → H b = some w → upd H a (.frz od u) b = some w := fun b w z e => by rw [upd_ne z]; exact e
      refine ⟨s.pre, s.sub, fun b w hb e => ?_, fun b w hb e => ?_, fun b hb hb2 => ?_, fun b hb hb2 => ?_, fun b o w e => ?_⟩
      · have z : b ≠ a := fun z => hb.elim (fun hb => na (z ▸ hb)) fun ht => ns w (z ▸ e) ht.still
        rw [upd_ne z]
        exact s.ka b w hb (up b w z e)
      · have z : b ≠ a := fun z => hb (z ▸ ma)
        rw [upd_ne z]
        exact s.kp b w hb (up b w z e)
      · have := s.nw b hb hb2
        by_cases z : b = a
        · exact absurd ma (z ▸ hb2)
        · rw [upd_ne z] at this; exact this
      · obtain ⟨k1, k2⟩ := s.an b hb hb2
        refine ⟨k1, ?_⟩
        by_cases z : b = a
        · exact absurd ma (z ▸ k1)
        · rw [upd_ne z] at k2; exact k2
      · have z : b ≠ a := fun z => ns (.frz o w) (z ▸ e) trivial
        rw [upd_ne z]
        exact s.fz b o w (up b _ z e)
    refine ⟨hf, post σ2 _ ρ2 A2 s3 S3 ⟨er2.1, fun j d hj => ?_⟩⟩
    obtain ⟨v, k1, k2⟩ := er2.2 j d hj
    exact ⟨v, k1, k2.mono3 (List.prefix_refl _) (fun _ h => h) kp⟩
  have out : ∀ {od : Obj} {σ2 : L2.St} {H2 : Hp} {ρ2 : List Addr} {A2 : AS}, H2 a = some (.frz od u) → Out X.K W D f3 ρ2 A2 σ2 (upd H2 a u) → Kp A2 H2 (upd H2 a u) → 
      Out X.K W ⟨fun σ' H' => H' a = some (.frz od u) ∧ D.nx σ' (upd H' a u), fun v H' => H' a = some (.frz od u) ∧ D.rt v (upd H' a u), fun σ' H' => H' a = some (.frz od u) ∧ D.bk σ' (upd H' a u), fun σ' H' => H' a = some (.frz od u) ∧ D.ct σ' (upd H' a u)⟩ f3 ρ2 A2 σ2 H2 := by
    intro od σ2 H2 ρ2 A2 hf h kp
    cases f3 with
    | nx => exact ⟨hf, h⟩
    | bk => exact ⟨hf, h⟩
    | ct => exact ⟨hf, h⟩
    | rt d => exact fun v r => ⟨hf, h v (r.mono3 (List.prefix_refl _) (fun _ h => h) kp)⟩
    | ex => cases hne
  have nm : ∀ y, foldedSetIterable (.Name x px) X.env y = pure y := fun _ => rfl
  unfold lockO at hl
  split at hl
  · rename_i kds
    cases hl
    cases ro with
    | dk rk =>
      rename_i kvs
      have ns := ns_dK hh
      have hkeys : (kds.map fun kv => keyP kv.1) = kvs.map fun kv => keyP kv.1 := by
        have := congrArg (List.map keyP) (kvg_keys rk)
        rw [List.map_map, List.map_map] at this
        exact this.symm
      rw [hkeys] at e3
      refine (ps_lock (ps_for O.pass O.calm (pi_keys (e_var O hv)) hg hb nm)).run pins s σ H D I ⟨a, _, hh, trivial, fun od => ?_⟩
      have s1 : Stp ρ A H ρ A (upd H a (.frz od (.dK kvs))) := Stp.write sr h1 ns
      have S1 : SR X.K ρ A (st.set n (.dk true kds)) (upd H a (.frz od (.dK kvs))) := sr.write h1 ns (.dkl (rk.mono3 s1.pre s1.sub s1.ka))
      refine ⟨ρ, A, env, _, .ref n, _, er.mono s1, S1, hv2, fun v H1 ρ1 A1 s2 S2 r2 => ?_⟩
      cases (show RD X.K ρ1 A1 H1 v (.ref n) from r2) with
      | ref e' =>
        have e'' := pre_get s2.pre h1
        rw [e''] at e'
        cases e'
        have hf : H1 a = some (.frz od (.dK kvs)) := s2.fz _ _ _ upd_same
        refine ⟨a, od, rfl, .inl ⟨kvs, hf, ?_⟩⟩
        refine forK_tail S2 ((er.mono s1).mono s2) (jit_dk hf) e3 fun σ3 H3 ρ3 A3 s3 S3 er3 => ?_
        have st3' := s2.trans s3
        have hf3 : H3 a = some (.frz od (.dK kvs)) := st3'.fz _ _ _ upd_same
        have hn3 := pre_get st3'.pre h1
        have kp := kp_unlock S3 hn3 hf3
        have ro3 : RO X.K ρ3 A3 (upd H3 a (.dK kvs)) (.dK kvs) ob3 := by
          obtain ⟨w, q1, q2⟩ := S3.ob n o3 a ho3 hn3
          rw [hf3] at q1
          cases q1
          unfold unlockO at hu
          split at hu
          · cases hu
            cases q2 with
            | dkl rk3 => exact .dk (rk3.mono3 (List.prefix_refl _) (fun _ h => h) kp)
          · cases hu; cases q2
          · cases hu
        obtain ⟨g1, g2⟩ := fin (ρ1 := ρ1) (A1 := A1) (H1 := H1) st3' S3 er3 ns ro3
        exact out g1 g2 kp
  · rename_i kds
    cases hl
    cases ro with
    | dt rk =>
      rename_i kvs
      have ns : ∀ w, H a = some w → ¬ Still w := fun w e => by rw [hh] at e; cases e; exact id
      have hkeys : (kds.map fun kv => keyT kv.1) = kvs.map fun kv => keyT kv.1 := by
        have := congrArg (List.map keyT) (kvg_keys rk)
        rw [List.map_map, List.map_map] at this
        exact this.symm
      rw [hkeys] at e3
      refine (ps_lock (ps_for O.pass O.calm (pi_keys (e_var O hv)) hg hb nm)).run pins s σ H D I ⟨a, _, hh, trivial, fun od => ?_⟩
      have s1 : Stp ρ A H ρ A (upd H a (.frz od (.dT kvs))) := Stp.write sr h1 ns
      have S1 : SR X.K ρ A (st.set n (.dt true kds)) (upd H a (.frz od (.dT kvs))) := sr.write h1 ns (.dtl (rk.mono3 s1.pre s1.sub s1.ka))
      refine ⟨ρ, A, env, _, .ref n, _, er.mono s1, S1, hv2, fun v H1 ρ1 A1 s2 S2 r2 => ?_⟩
      cases (show RD X.K ρ1 A1 H1 v (.ref n) from r2) with
      | ref e' =>
        have e'' := pre_get s2.pre h1
        rw [e''] at e'
        cases e'
        have hf : H1 a = some (.frz od (.dT kvs)) := s2.fz _ _ _ upd_same
        refine ⟨a, od, rfl, .inr ⟨kvs, hf, ?_⟩⟩
        refine forK_tail S2 ((er.mono s1).mono s2) (jit_dt hf) e3 fun σ3 H3 ρ3 A3 s3 S3 er3 => ?_
        have st3' := s2.trans s3
        have hf3 : H3 a = some (.frz od (.dT kvs)) := st3'.fz _ _ _ upd_same
        have hn3 := pre_get st3'.pre h1
        have kp := kp_unlock S3 hn3 hf3
        have ro3 : RO X.K ρ3 A3 (upd H3 a (.dT kvs)) (.dT kvs) ob3 := by
          obtain ⟨w, q1, q2⟩ := S3.ob n o3 a ho3 hn3
          rw [hf3] at q1
          cases q1
          unfold unlockO at hu
          split at hu
          · cases hu; cases q2
          · cases hu
            cases q2 with
            | dtl rk3 => exact .dt (rk3.mono3 (List.prefix_refl _) (fun _ h => h) kp)
          · cases hu
        obtain ⟨g1, g2⟩ := fin (ρ1 := ρ1) (A1 := A1) (H1 := H1) st3' S3 er3 ns ro3
        exact out g1 g2 kp
  · cases hl
theorem s_bad {e : Stmt} : PS X e (sX X.K C W .bad) := by
  refine ⟨fun pins s σ H D I q => ?_⟩
  obtain ⟨ρ, A, env, st, fl, env', st', er, sr, ev, post⟩ := q
  simp only [exS] at ev
  cases ev
end
end Vi
set_option Elab.async false
set_option linter.all false
set_option maxRecDepth 100000
set_option maxHeartbeats 4000000
set_option autoImplicit false
/-! Vwx: o[i] += e; raise; try: return f(..) except. -/
namespace Vi
open PySem L2 PySem.Spec PyProof.Rows
def rGetL (K : PySem.W.Frag) : V → V → Hp → VK → Prop := fun x y H Q => ∃ p xs i v, x = .ref p ∧ y = .int i ∧ SqL K H p xs ∧ atI xs i = some v ∧ Q v H
theorem get_list {X : Cx} : PGet X (rGetL X.K) := by
  intro pins s σ H x y v u Q I rx ry h
  obtain ⟨p, xs, i, z, rfl, rfl, hq, he, q⟩ := h
  cases rx
  obtain ⟨t, rfl⟩ := ry
  obtain ⟨its, r, pl, hz⟩ := I.list hq
  obtain ⟨j, h1, h2, h3, h4, h5⟩ := atI_get he
  obtain ⟨w, ew, rw'⟩ := r.get h2
  have hl := r.length
  have hn := line63
  have fin : EP X pins σ Q w s := ⟨z, H, I, rw', q⟩
  by_cases h0 : 0 ≤ i
  · have hj : i.toNat = j := by
      rw [seqIndex_of h0 h5] at h1
      exact Option.some.inj h1
    exact wpAny_getItem_list pl.isList h0 (by omega) (by rw [hj]; simpa using ew) fin
  · have hj : (i + (its.toArray.size : Int)).toNat = j := by
      rw [seqIndex_neg (by omega) h4] at h1
      rw [List.size_toArray, ← hl]
      exact Option.some.inj h1
    exact wpAny_getItem_list_neg pl.isList (by omega) (by rw [List.size_toArray] <;> omega) (by omega) (by rw [hj]; simpa using ew) fin
section
variable {C : Cfg} {X : Cx} {c : CC} {W : L2.St → Hp → Prop}
theorem atI_ixN {α : Type} {xs : List α} {k : Int} {x : α} (h : atI xs k = some x) : ∃ j, ixN xs.length k = some j ∧ xs[j]? = some x := by
  unfold atI at h
  cases e : ixN xs.length k with
  | none => rw [e] at h; cases h
  | some j => rw [e] at h; exact ⟨j, rfl, h⟩
theorem getI_at {K : PySem.W.Frag} {ρ : List Addr} {A : AS} {H : Hp} {st : Sto} {v w : V} {x y : D} {a : Int} (S : SR K ρ A st H) (rv : RD K ρ A H v x) (rw' : RD K ρ A H w y) (h : getI st x y = some a) :
    ∃ p vs k, v = .ref p ∧ w = .int k ∧ H p = some (.lst vs) ∧ atI vs k = some (.int a) := by
  unfold getI at h
  split at h
  · rename_i n k
    split at h
    · rename_i xs hs
      obtain ⟨d, h1, h2⟩ := Option.bind_eq_some_iff.mp h
      obtain ⟨p, u, rfl, e1, e2, hh, ro⟩ := ref_at S rv hs
      cases rw'.int_eq
      cases ro with
      | lst rs =>
        rename_i vs
        obtain ⟨j, h3, h4⟩ := atI_ixN h1
        obtain ⟨z, hz, rz⟩ := rs.get h4
        cases toInt_eq h2
        cases rz.int_eq
        refine ⟨p, vs, k, rfl, rfl, hh, ?_⟩
        unfold atI
        rw [rs.length, h3]
        exact hz
    · cases h
  · cases h
theorem setI_at {K : PySem.W.Frag} {ρ : List Addr} {A : AS} {H : Hp} {st st' : Sto} {v w : V} {x y : D} {z : Int} (S : SR K ρ A st H) (rv : RD K ρ A H v x) (rw' : RD K ρ A H w y) (h : setI st x y z = some st') :
    ∃ p vs k j, v = .ref p ∧ w = .int k ∧ H p = some (.lst vs) ∧ ixN vs.length k = some j ∧ Stp ρ A H ρ A (upd H p (.lst (vs.set j (.int z)))) ∧ SR K ρ A st' (upd H p (.lst (vs.set j (.int z)))) := by
  unfold setI at h
  split at h
  · rename_i n k
    split at h
    · rename_i xs hs
      obtain ⟨j, h1, rfl⟩ := Option.map_eq_some_iff.mp h
      obtain ⟨p, u, rfl, e1, e2, hh, ro⟩ := ref_at S rv hs
      cases rw'.int_eq
      cases ro with
      | lst rs =>
        rename_i vs
        have s' := Stp.write S (u := .lst (vs.set j (.int z))) e1 (ns_lst hh)
        exact ⟨p, vs, k, j, rfl, rfl, hh, by rw [rs.length]; exact h1, s', S.write e1 (ns_lst hh) (.lst ((rs.mono s').set (.v (.int _)) j))⟩
    · cases h
  · cases h
theorem aug_plain {i : Expr} (h : notSlice i = true) : ∀ ov iv new, augStore i ov iv new = (do holding [new, ov, iv] (setItem ov iv new); release [new, ov, iv] []; pure .next) := by
  cases i <;> first | (intros; rfl) | (simp [notSlice] at h)
theorem s_augS (O : Okx c C X) {o i e : Expr} {a b d : E} {op op' : Operator} {tpos pos : Pos} (hns : notSlice i = true) (hop : opB op op' = true) (ho : PE X o (tX false X.K C a)) (hi : PE X i (tX false X.K C b)) (he : PE X e (tX false X.K C d)) : PS X (.AugAssign (.Subscript o i tpos) op e pos) (sX X.K C W (.augS a b op' d)) := by
  refine ⟨fun pins s σ H D I q => ?_⟩
  obtain ⟨ρ, A, env, st, fl, env', st', er, sr, ev, post⟩ := q
  simp only [exS] at ev
  obtain ⟨⟨x, st1⟩, e1, ev⟩ := R.bind_eq ev
  obtain ⟨⟨y, st2⟩, e2, ev⟩ := R.bind_eq ev
  obtain ⟨n, e3, ev⟩ := R.bind_eq ev
  obtain ⟨⟨w, st3⟩, e4, ev⟩ := R.bind_eq ev
  dsimp only at ev e2 e4
  have e3 : getI st2 x y = some n := R.of_eq e3

  have key : ∀ {tip : TIp} {z : Int} {m : Int}, w = .v (.int m) → PIp X op tip → (∀ H1 (R1 : VK), R1 (.int z) H1 → tip (.int n) (.int m) H1 R1) → setI st3 x y z = some st' → fl = .nx → env' = env →
      wpAny (model X.prog X.w) X.A (exec (.AugAssign (.Subscript o i tpos) op e pos) X.env) (SP X pins D) X.xe s := by
    intro tip z m hw hp ht hs hfl henv
    subst hw hfl henv
    refine (ps_augS ho hi get_list he hp set_list (aug_plain hns)).run pins s σ H D I ?_
    refine one_tX er sr e1 fun v H1 ρ1 A1 s1 S1 r1 => ?_
    refine one_tX (er.mono s1) S1 e2 fun u H2 ρ2 A2 s2 S2 r2 => ?_
    obtain ⟨p, vs, k, rfl, rfl, hh, hg⟩ := getI_at S2 (r1.mono s2) r2 e3
    refine ⟨p, vs, k, _, rfl, rfl, SqL.of hh, hg, ?_⟩
    refine one_tX ((er.mono s1).mono s2) S2 e4 fun t H3 ρ3 A3 s3 S3 r3 => ?_
    cases r3.int_eq
    refine ht _ _ ?_
    obtain ⟨p', vs', k', j, k1, k2, k3, k4, k5, k6⟩ := setI_at S3 ((r1.mono s2).mono s3) (r2.mono s3) hs
    cases k1
    cases k2
    have s13 := (s1.trans s2).trans s3
    exact ⟨p, vs', k, j, rfl, rfl, k3, k4, post σ _ ρ3 A3 (s13.trans k5) k6 ((er.mono s13).mono k5)⟩
  split at ev
  · rename_i m
    split at ev
    · obtain ⟨st4, e5, ev⟩ := R.bind_eq ev
      simp only [R.ok.injEq, Prod.mk.injEq] at ev
      obtain ⟨rfl, rfl, rfl⟩ := ev
      cases op <;> first | (exfalso; simp [opB] at hop; done) | skip
      exact key rfl ip_add (fun H1 R1 r => ⟨_, _, rfl, rfl, r⟩) (R.of_eq e5) rfl rfl
    · obtain ⟨st4, e5, ev⟩ := R.bind_eq ev
      simp only [R.ok.injEq, Prod.mk.injEq] at ev
      obtain ⟨rfl, rfl, rfl⟩ := ev
      cases op <;> first | (exfalso; simp [opB] at hop; done) | skip
      exact key rfl ip_sub (fun H1 R1 r => ⟨_, _, rfl, rfl, r⟩) (R.of_eq e5) rfl rfl
    · cases ev
  · cases ev
/-! ### exceptions of one class -/
def spX (K : PySem.W.Frag) (C : Cfg) (f : Nat) (Ca : Addr) (vs : List V) (H : Hp) (Q : VK) (E : XK) : Prop :=
  ∃ (ρ : List Addr) (A : AS) (ds : List Vi.D) (st : Sto) (o : Option Vi.D) (st' : Sto), SR K ρ A st H ∧ RDs K ρ A H vs ds ∧ C.callX f ds st = .ok (o, st') ∧
    match o with
    | some d => ∀ v H' ρ' A', Stp ρ A H ρ' A' H' → SR K ρ' A' st' H' → RD K ρ' A' H' v d → Q v H'
    | none => ∀ H' ρ' A', Stp ρ A H ρ' A' H' → SR K ρ' A' st' H' → E (.ref Ca) none H'
structure FnGX (P : Program) (w : World) (K : PySem.W.Frag) (mg : Str → Option Value) (base : Heap) (k : Nat) (f : Addr) (fd : FuncData) (ps : List Str) (sp : List V → Hp → VK → XK → Prop) : Prop where
  len : ∀ vs H Q E, sp vs H Q E → vs.length = ps.length
  run : ∀ (A : Around) (outer : List Env) (s : Shared) (H : Hp) (args : Args) (us : List Value) (vs : List V) (Q : VK) (E : XK), Room k A → A.guards = some [] → Env0 P w K mg base A outer s H → BindsTo s fd args (ps.zip us) → Vals vs us → sp vs H Q E →
    codeAny (model P w) A (.call (.ref f) args) (CR (L2.CX P w) outer P w H s Q E) s
structure ExcAt (K : PySem.W.Frag) (mg : Str → Option Value) (x : Str) (Ca : Addr) : Prop where
  glo : mg x = some (.ref Ca)
  exc : PySem.W.excIn K Ca [.type "ValueError", .type "Exception", .type "BaseException", .type "object"] "ValueError.__new__" = true
  kp : PySem.W.keepIn K (.ref Ca) = true
  sub : PySem.W.subIn K (.ref Ca) (.type "BaseException") = some true
  ty : PySem.W.typeIn K (.ref Ca) = some (.type "type")
  exm : PySem.W.exmOne K (.ref Ca) (.ref Ca) = some true
structure OkS (c : CC) (C : Cfg) (X : Cx) (W : L2.St → Hp → Prop) : Prop where
  fr : X.stack = X.env :: X.outer ∧ X.env.frame = some X.env.locals
  exc : ∀ x, c.exc = some x → ∃ Ca, ExcAt X.K X.mg x Ca ∧ Takes X (fun cls d σ H => cls = .ref Ca ∧ d = none ∧ W σ H) ∧
    ∀ (f : Nat) (y : Str), c.fns[f]? = some y → ∃ (k : Nat) (fa : Addr) (fd : FuncData) (ps : List Str), X.mg y = some (.ref fa) ∧ PySem.W.keepIn X.K (.ref fa) = true ∧ Room k X.A ∧ Binds X.K fd ps [] ∧
      FnGX X.prog X.w X.K X.mg X.base k fa fd ps (spX X.K C f Ca)
theorem pmk_own0 {Ca : Addr} {bmB : List Value} {B newId initId : String} {x : Str} {p pos : Pos} (F : ExcBaseFacts B newId initId bmB) (q : PySem.W.excIn X.K Ca bmB newId = true) (gC : X.mg x = some (.ref Ca)) (kC : PySem.W.keepIn X.K (.ref Ca) = true) (r : Raises X (.ref Ca)) (hg : Gl X x)
    (hdb : (x == ("__debug__" : Str)) = false) : PMk X (.Call (.Name x p) [] [] pos) (fun _ H Q => Q (.ref Ca) none H) := by
  intro pins s σ H Q I h
  refine wpAny_Call_Name_kw (ld_glob I hg gC ?_ hdb)
  refine PySem.W.callWith_K0 I.kIn kC ?_
  show wpAny _ _ (call (.ref Ca) []) _ _ _
  obtain ⟨bm, N, nm, qn, bs, hdct, sn, sub, ab, col, dd, k0, k1, k2, k3, k5, mN, hC, hN, hni, T⟩ := exc_obj I.kIn q
  refine wpAny_call_exc_subT F T hC hN hni (fun h' e hm => ?_) (by show 0 ≤ sizeLine; omega)
  exact mk_of I hm r h (I.hok.gone hm.new)
theorem s_raise (O : Okx c C X) (S : OkS c C X W) {y : Str} {p p1 pos : Pos} (hy : c.exc = some y) (hg : glB c y = true) (hd : (y == dbg) = false) : PS X (.Raise (some (.Call (.Name y p) [] [] p1)) none pos) (sX X.K C W .raise) := by
  obtain ⟨Ca, E, tk, _⟩ := S.exc y hy
  refine ⟨fun pins s σ H D I q => ?_⟩
  obtain ⟨ρ, A, env, st, fl, env', st', er, sr, ev, post⟩ := q
  simp only [exS, R.ok.injEq, Prod.mk.injEq] at ev
  obtain ⟨rfl, rfl, rfl⟩ := ev
  exact (ps_raise O.calm tk (pmk_own0 PySem.F.excBase_ValueError E.exc E.glo E.kp (raises_own E.sub E.ty) (gl_of O hg) hd)).run pins s σ H D I ⟨rfl, rfl, post σ H ρ A .refl sr er⟩
/-! ### a call that may raise, in a try -/
theorem run_GX {k : Nat} {f : Addr} {fd : FuncData} {ps : List Str} {sp : List V → Hp → VK → XK → Prop} {pins : List (Addr × Obj)} {σ : L2.St} {H : Hp} {s : Shared} {Q : VK} {W' : WX} {us : List Value} {vs : List V}
    (F : FnGX X.prog X.w X.K X.mg X.base k f fd ps sp) (hr : Room k X.A) (hu : X.A.guards = some []) (hb : Binds X.K fd ps []) (tk : Takes X W') (I : Inv X pins σ H s) (r : Vals vs us) (h : sp vs H Q (WE W' σ)) : wpAny (model X.prog X.w) X.A (call (.ref f) us) (EP X pins σ Q) X.xe s := by
  have hl : (us ++ ([] : List Value)).length = ps.length := by rw [List.append_nil, ← r.length]; exact F.len _ _ _ _ h
  have hb' := hb s us I.kIn hl
  rw [List.append_nil] at hb'
  refine wpAny_call (codeAny_mono (F.run X.A X.stack s H ⟨us, []⟩ us vs Q _ hr hu I.env0 hb' r h) fun r s' hq => ?_)
  cases r with
  | error e => exact passAt tk σ pins H s e s' I hq
  | ok fl =>
    cases fl with
    | ret u => exact I.after hq
    | next => exact False.elim hq
    | brk => exact False.elim hq
    | cont => exact False.elim hq
theorem okx_tr (O : Okx c C X) {pn : List (Addr × Obj)} {xe : Value → Shared → Prop} (hp : PassesOwn (model X.prog X.w) X.A X.env xe) : Okx c C (X.tr pn xe) where
  sc := O.sc
  N := O.N
  nd := O.nd
  calm := O.calm
  st := O.st
  bl := O.bl
  un := O.un
  gu := O.gu
  pass := hp
  gi := O.gi
  call := O.call
/-- the call -/
def tCX (K : PySem.W.Frag) (C : Cfg) (f : Nat) (Ca : Addr) (as : List E) (W' : WX) : TE := fun σ H Q => tXs K C as σ H fun vs H1 => spX K C f Ca vs H1 Q (WE W' σ)
theorem pe_callX (O : Okx c C X) {x : Str} {f : Nat} {e : Expr} {es : List Expr} {as : List E} {p pos : Pos} {W' : WX} {k : Nat} {fa Ca : Addr} {fd : FuncData} {ps : List Str} (tk : Takes X W') (hg : glB c x = true) (hd : (x == dbg) = false) (hn : (e :: es).all notStar = true) (h : PA X (e :: es) (tXs X.K C as))
    (hm : X.mg x = some (.ref fa)) (hk : PySem.W.keepIn X.K (.ref fa) = true) (hr : Room k X.A) (hb : Binds X.K fd ps []) (F : FnGX X.prog X.w X.K X.mg X.base k fa fd ps (spX X.K C f Ca)) : PE X (.Call (.Name x p) (e :: es) [] pos) (tCX X.K C f Ca as W') := by
  refine ⟨fun pins s σ H Q I q => ?_⟩
  refine wpAny_Call_Name_kw (ld_glob I (gl_of O hg) hm ?_ hd)
  rw [List.all_cons] at hn
  obtain ⟨h1, h2⟩ := and2 hn
  refine PySem.W.callWith_K (h₀ := X.base) I.ok.mod.kin hk (thn (h.run pos pins s σ H _ I q) fun us s1 hus => ?_) (star_cons h1) (back_star h2)
  obtain ⟨vs, H1, I1, r, q⟩ := hus
  exact ⟨I1.kIn, run_GX F hr O.gu hb tk I1 r q⟩
theorem s_try0 (O : Okx c C X) (S : OkS c C X W) {x y : Str} {f : Nat} {es : List Expr} {as : List E} {p p1 p2 p3 p4 p5 p6 pos : Pos} {k0 : Nat} (hf : c.fns[f]? = some x) (hg : glB c x = true) (hd : (x == dbg) = false) (hn : es.all notStar = true) (hne : es.isEmpty = false) (h : ∀ pn xe, PassesOwn (model X.prog X.w) X.A X.env xe → PA (X.tr pn xe) es (tXs X.K C as))
    (hy : c.exc = some y) (hgy : glB c y = true) (hdy : (y == dbg) = false) :
    PS X (.Try [.Return (some (.Call (.Name x p) es [] p1)) p2] [.ExceptHandler (some (.Name y p3)) none [.Return (some (.Constant .none k0 p4)) p5] p6] [] [] pos) (sX X.K C W (.tryR false f as)) := by
  obtain ⟨Ca, E, tk, hcall⟩ := S.exc y hy
  obtain ⟨k, fa, fd, ps, hm, hk, hr, hb, F⟩ := hcall f x hf
  obtain ⟨e, es', rfl⟩ : ∃ e es', es = e :: es' := by
    cases es with
    | nil => cases hne
    | cons e es' => exact ⟨e, es', rfl⟩
  refine ⟨fun pins s σ H D I q => ?_⟩
  obtain ⟨ρ, A, env, st, fl, env', st', er, sr, ev, post⟩ := q
  simp only [exS] at ev
  obtain ⟨⟨ds, st1⟩, e1, ev⟩ := R.bind_eq ev
  obtain ⟨⟨o, st2⟩, e2, ev⟩ := R.bind_eq ev
  dsimp only at e2 ev
  refine (ps_try_only (Wout := fun cls d σ H => cls = Value.ref Ca ∧ d = none ∧ W σ H) (c := Value.ref Ca) (tb := fun W' D σ H => tCX X.K C f Ca as W' σ H D.rt) (ts := fun _ _ _ D σ H => tC .non σ H D.rt) S.fr.1 S.fr.2 ⟨gl_of O hgy, hdy, .inl E.glo⟩ tk (fun W' pn xe tk' hp => pss_one (ps_ret (pe_callX (okx_tr O hp) tk' hg hd hn (h pn xe hp) hm hk hr hb F))) (fun a oe cls d pn hz hf => pss_one (ps_ret pe_non))).run pins s σ H D I ?_
  refine ⟨ρ, A, env, st, ds, st1, er, sr, e1, fun vs H1 ρ1 A1 s1 S1 r1 => ⟨ρ1, A1, ds, st1, o, st2, S1, r1, e2, ?_⟩⟩
  cases o with
  | some d =>
    simp only [Bool.false_eq_true, if_false, R.ok.injEq, Prod.mk.injEq] at ev
    obtain ⟨rfl, rfl, rfl⟩ := ev
    exact fun v H2 ρ2 A2 s2 S2 r2 => post σ H2 ρ2 A2 (s1.trans s2) S2 (er.mono (s1.trans s2)) v r2
  | none =>
    simp only [Bool.false_eq_true, if_false, R.ok.injEq, Prod.mk.injEq] at ev
    obtain ⟨rfl, rfl, rfl⟩ := ev
    exact fun H2 ρ2 A2 s2 S2 => ⟨true, E.exm, fun _ a ha => post σ H2 ρ2 A2 (s1.trans s2) S2 (er.mono (s1.trans s2)) .non (.v .non), fun z => nomatch z⟩
theorem s_try1 (O : Okx c C X) (S : OkS c C X W) {x y : Str} {f : Nat} {es : List Expr} {as : List E} {p p0 p1 p2 p3 p4 p5 p6 pos : Pos} (hf : c.fns[f]? = some x) (hg : glB c x = true) (hd : (x == dbg) = false) (hn : es.all notStar = true) (hne : es.isEmpty = false) (h : ∀ pn xe, PassesOwn (model X.prog X.w) X.A X.env xe → PA (X.tr pn xe) es (tXs X.K C as))
    (hy : c.exc = some y) (hgy : glB c y = true) (hdy : (y == dbg) = false) :
    PS X (.Try [.Return (some (.List [.Call (.Name x p) es [] p1] p0)) p2] [.ExceptHandler (some (.Name y p3)) none [.Return (some (.List [] p4)) p5] p6] [] [] pos) (sX X.K C W (.tryR true f as)) := by
  obtain ⟨Ca, E, tk, hcall⟩ := S.exc y hy
  obtain ⟨k, fa, fd, ps, hm, hk, hr, hb, F⟩ := hcall f x hf
  obtain ⟨e, es', rfl⟩ : ∃ e es', es = e :: es' := by
    cases es with
    | nil => cases hne
    | cons e es' => exact ⟨e, es', rfl⟩
  refine ⟨fun pins s σ H D I q => ?_⟩
  obtain ⟨ρ, A, env, st, fl, env', st', er, sr, ev, post⟩ := q
  simp only [exS] at ev
  obtain ⟨⟨ds, st1⟩, e1, ev⟩ := R.bind_eq ev
  obtain ⟨⟨o, st2⟩, e2, ev⟩ := R.bind_eq ev
  dsimp only at e2 ev
  refine (ps_try_only (Wout := fun cls d σ H => cls = Value.ref Ca ∧ d = none ∧ W σ H) (c := Value.ref Ca) (tb := fun W' D σ H => tLst (tCons (tCX X.K C f Ca as W') tNil) σ H D.rt) (ts := fun _ _ _ D σ H => tLst tNil σ H D.rt) S.fr.1 S.fr.2 ⟨gl_of O hgy, hdy, .inl E.glo⟩ tk (fun W' pn xe tk' hp => pss_one (ps_ret (pe_lst (pa_cons (pe_callX (okx_tr O hp) tk' hg hd hn (h pn xe hp) hm hk hr hb F) pa_nil)))) (fun a oe cls d pn hz hf => pss_one (ps_ret (pe_lst pa_nil)))).run pins s σ H D I ?_
  have newl : ∀ {H1 : Hp} {ρ1 : List Addr} {A1 : AS} {vs : List V} {ps : List PyData}, Stp ρ A H ρ1 A1 H1 → SR X.K ρ1 A1 st' H1 → RPs A1 H1 vs ps → fl = .rt (.v (.list ps)) → env' = env → ∀ p, H1 p = none → D.rt (.ref p) (upd H1 p (.lst vs)) := by
    intro H1 ρ1 A1 vs ps s1 S1 rs hfl henv p hp
    subst hfl henv
    have l : Stp ρ1 A1 H1 ρ1 (addA A1 p) (upd H1 p (.lst vs)) := Stp.laid S1 hp
    exact post σ _ ρ1 (addA A1 p) (s1.trans l) (S1.laid hp) (er.mono (s1.trans l)) (.ref p) (.v (.lst (.inr rfl) upd_same (rs.mono l.sub l.ka)))
  refine ⟨ρ, A, env, st, ds, st1, er, sr, e1, fun vs H1 ρ1 A1 s1 S1 r1 => ⟨ρ1, A1, ds, st1, o, st2, S1, r1, e2, ?_⟩⟩
  cases o with
  | some d =>
    simp only [if_true] at ev
    obtain ⟨d', e3, ev⟩ := R.bind_eq ev
    simp only [R.ok.injEq, Prod.mk.injEq] at ev
    obtain ⟨hfl, henv, rfl⟩ := ev
    intro v H2 ρ2 A2 s2 S2 r2
    obtain ⟨ps', rfl, hp, hz⟩ := mkLst_eq e3
    refine ⟨by show 1 ≤ sizeLine; decide, newl (s1.trans s2) S2 ?_ hfl.symm henv.symm⟩
    exact RDs.plains (K := X.K) (ρ := ρ2) (.cons r2 .nil) hp
  | none =>
    simp only [if_true, R.ok.injEq, Prod.mk.injEq] at ev
    obtain ⟨hfl, henv, rfl⟩ := ev
    exact fun H2 ρ2 A2 s2 S2 => ⟨true, E.exm, fun _ a ha => ⟨by decide, newl (s1.trans s2) S2 .nil hfl.symm henv.symm⟩, fun z => nomatch z⟩
end
end Vi
set_option Elab.async false
set_option linter.all false
set_option maxRecDepth 100000
set_option maxHeartbeats 4000000
set_option autoImplicit false
/-! Vx: a body that the look holds against a term does what the interpreter says. -/
namespace Vi
open PySem L2 PySem.Spec PyProof.Rows
def PSok (C : Cfg) (a : S) : Prop := ∀ (c : CC) (X : Cx) (W : L2.St → Hp → Prop) (e : Stmt), Okx c C X → OkS c C X W → chS c e a = true → PS X e (sX X.K C W a)
section
variable {C : Cfg} {n : Nat} {X : Cx} {c : CC} {W : L2.St → Hp → Prop}
theorem ss_ok (O : Okx c C X) (OS : OkS c C X W) : ∀ {as : List S} {es : List Stmt}, (∀ a ∈ as, PSok C a) → chSs c es as = true → PSs X es (sXs X.K C W as) := by
  intro as
  induction as with
  | nil =>
    intro es _ h
    cases es with
    | nil => exact ss_nil
    | cons _ _ => simp [chSs] at h
  | cons a as ih =>
    intro es ha h
    cases es with
    | nil => simp [chSs] at h
    | cons e es =>
      simp only [chSs] at h
      obtain ⟨h1, h2⟩ := and2 h
      exact ss_cons (ha a (by simp) c X W e O OS h1) (ih (fun b hb => ha b (by simp [hb])) h2)
theorem comp_parts (O : Okx c C X) {elt tg iter : Expr} {ifs : List Expr} {scope : Scope} {elt' : E} {own : List Nat} {t : T} {it : It} {g : Option E}
    (h : (blkC c.N c.sc scope (ownOf c own) && (tNames t).all (fun i => own.contains i) && notSet iter && chI c tg iter it && chT (blkCC c scope) tg t && chG (blkCC c scope) ifs g && chE (blkCC c scope) elt elt') = true) :
    blkC c.N c.sc scope (ownOf c own) = true ∧ (tNames t).all (fun i => own.contains i) = true ∧ notSet iter = true ∧ PI X tg iter (iX X.K C t it) ∧ (∀ (s : Shared) (H : Hp) (Ca : Addr) (cl : List (Str × Addr)) (fp : List Addr), PG (X.blk s H scope (compEnvC scope cl Ca X.env) fp) tg (gX X.K C t)) ∧
    (∀ (s : Shared) (H : Hp) (Ca : Addr) (cl : List (Str × Addr)) (fp : List Addr), PTs (X.blk s H scope (compEnvC scope cl Ca X.env) fp) ifs (tXG X.K C g)) ∧
    (∀ (s : Shared) (H : Hp) (Ca : Addr) (cl : List (Str × Addr)) (fp : List Addr), PE (X.blk s H scope (compEnvC scope cl Ca X.env) fp) elt (tX false X.K C elt')) := by
  obtain ⟨h, h7⟩ := and2 h
  obtain ⟨h, h6⟩ := and2 h
  obtain ⟨h, h5⟩ := and2 h
  obtain ⟨h, h4⟩ := and2 h
  obtain ⟨h, h3⟩ := and2 h
  obtain ⟨h1, h2⟩ := and2 h
  refine ⟨h1, h2, h3, all_i it c X _ _ t O h4 (chT_tup h5), fun s Hh Ca cl fp => all_g t _ _ _ (okx_blk O scope s Hh Ca cl fp) h5, fun s Hh Ca cl fp => ?_, fun s Hh Ca cl fp => (all_e elt').w (okx_blk O scope s Hh Ca cl fp) h7⟩
  unfold chG at h6
  split at h6
  · exact g_none
  · exact g_some (all_t _ _ _ _ (okx_blk O scope s Hh Ca cl fp) h6)
  · cases h6
theorem chE_lc {elt : Expr} {gens : List Comprehension} {scope : Scope} {pos : Pos} {a : E} (h : chE c (.ListComp elt gens scope pos) a = true) :
    ∃ tg iter ifs elt' own t it g, gens = [⟨tg, iter, ifs, 0⟩] ∧ (a = .comp elt' own t it g ∨ a = .new (.comp elt' own t it g)) ∧
      (blkC c.N c.sc scope (ownOf c own) && (tNames t).all (fun i => own.contains i) && notSet iter && chI c tg iter it && chT (blkCC c scope) tg t && chG (blkCC c scope) ifs g && chE (blkCC c scope) elt elt') = true := by
  have one : ∀ {a : E}, chE c (.ListComp elt gens scope pos) a = true → (∀ e', a ≠ .new e') → ∃ tg iter ifs elt' own t it g, gens = [⟨tg, iter, ifs, 0⟩] ∧ a = .comp elt' own t it g ∧
      (blkC c.N c.sc scope (ownOf c own) && (tNames t).all (fun i => own.contains i) && notSet iter && chI c tg iter it && chT (blkCC c scope) tg t && chG (blkCC c scope) ifs g && chE (blkCC c scope) elt elt') = true := by
    intro a h hne
    generalize he : Expr.ListComp elt gens scope pos = e at h
    unfold chE at h
    split at h
    all_goals try (exfalso; cases he; done)
    · cases he
      exact ⟨_, _, _, _, _, _, _, _, rfl, rfl, h⟩
    · exact absurd rfl (hne _)
    · cases h
  by_cases hn : ∃ e', a = .new e'
  · obtain ⟨e', rfl⟩ := hn
    have h' : (isNew e' && chE c (.ListComp elt gens scope pos) e') = true := by
      generalize he : Expr.ListComp elt gens scope pos = e at h ⊢
      generalize ha : E.new e' = a at h
      unfold chE at h
      split at h
      all_goals first
        | (exfalso; cases ha; done)
        | (cases ha; exact h)
        | (cases h; done)
    obtain ⟨h1, h2⟩ := and2 h'
    obtain ⟨tg, iter, ifs, elt', own, t, it, g, k1, rfl, k3⟩ := one h2 (fun e'' z => by subst z; simp [isNew] at h1)
    exact ⟨tg, iter, ifs, elt', own, t, it, g, k1, .inr rfl, k3⟩
  · obtain ⟨tg, iter, ifs, elt', own, t, it, g, k1, k2, k3⟩ := one h (fun e' z => hn ⟨e', z⟩)
    exact ⟨tg, iter, ifs, elt', own, t, it, g, k1, .inl k2, k3⟩
theorem chT_name {y : Str} {py : Pos} {t : T} (h : chT c (.Name y py) t = true) : ∃ i, t = .name i ∧ c.N[i]? = some y ∧ locB c y = true := by
  unfold chT at h
  split at h
  · rename_i heq
    cases heq
    obtain ⟨l1, l2⟩ := and2 h
    exact ⟨_, rfl, beqt l1, l2⟩
  · rename_i heq; cases heq
  · rename_i heq; cases heq
  · cases h
theorem s_step (H : ∀ a : S, sizeOf a < n → PSok C a) (a : S) (ha : sizeOf a < n + 1) : PSok C a := by
  intro c X W e O OS h
  have mem : ∀ {as : List S}, sizeOf as ≤ n → ∀ a ∈ as, PSok C a := fun hz a hm => H a (by have := List.sizeOf_lt_of_mem hm; omega)
  unfold chS at h
  split at h
  all_goals try (exfalso; cases h; done)
  · rename_i tg e pos t a
    obtain ⟨h, h4⟩ := and2 h
    obtain ⟨h, h3⟩ := and2 h
    obtain ⟨h1, h2⟩ := and2 h
    by_cases hc : notComp e = true ∨ isName tg = false
    · exact s_asg O h1 hc h2 (all_g t c X _ O h3) ((all_e a).w O h4)
    · have hc1 : notComp e = false := by
        cases q : notComp e
        · rfl
        · exact absurd (.inl q) hc
      cases tg with
      | Name y py =>
        cases e with
        | ListComp elt gens scope pos2 =>
          obtain ⟨tg, iter, ifs, elt', own, t', it, g, rfl, ea, k⟩ := chE_lc h4
          obtain ⟨k1, k2, k3, k4, k5, k6, k7⟩ := comp_parts O k
          obtain ⟨i, rfl, l1, l2⟩ := chT_name h3
          refine s_lc O l1 l2 k1 k2 k3 (fun Q q => ?_) k4 k5 k6 k7 ((all_e a).w O h4)
          rcases ea with rfl | rfl
          · exact weak_imp q
          · exact new_imp q
        | _ => first | (simp [notComp] at hc1; done) | (simp [setB, notComp] at h1)
      | _ => exact absurd (.inr rfl) hc
  · rename_i x px y py _ _ a b _ _ _ i j a' b'
    obtain ⟨h, h2⟩ := and2 h
    obtain ⟨h, h1⟩ := and2 h
    rcases Bool.or_eq_true_iff.mp h with h | h
    · exact s_par2 O h ((all_e a').w O h1) ((all_e b').w O h2)
    · exact s_parT O h ((all_e a').w O h1) ((all_e b').w O h2)
  · rename_i x px y py z pz _ _ a b d _ _ _ i j l a' b' d'
    obtain ⟨h, h3⟩ := and2 h
    obtain ⟨h, h2⟩ := and2 h
    obtain ⟨h, h1⟩ := and2 h
    exact s_par3 O h ((all_e a').w O h1) ((all_e b').w O h2) ((all_e d').w O h3)
  · obtain ⟨h, h4⟩ := and2 h
    obtain ⟨h, h3⟩ := and2 h
    obtain ⟨h1, h2⟩ := and2 h
    exact s_aug O (beqt h1) h2 h3 ((all_e _).w O h4)
  · obtain ⟨h, h5⟩ := and2 h
    obtain ⟨h, h4⟩ := and2 h
    obtain ⟨h, h3⟩ := and2 h
    obtain ⟨h1, h2⟩ := and2 h
    exact s_augS O h1 h2 ((all_e _).w O h3) ((all_e _).w O h4) ((all_e _).w O h5)
  · obtain ⟨h, h9⟩ := and2 h
    obtain ⟨h, h8⟩ := and2 h
    obtain ⟨h, h7⟩ := and2 h
    obtain ⟨h, h6⟩ := and2 h
    obtain ⟨h, h5⟩ := and2 h
    obtain ⟨h, h4⟩ := and2 h
    obtain ⟨h, h3⟩ := and2 h
    obtain ⟨h1, h2⟩ := and2 h
    exact s_try0 O OS (beqt h1) h2 (bang h3) h4 (bang h5) (fun pn xe hp => es_ok (okx_tr O hp) (fun a hm => all_e a) h6 h4) (beqt h7) h8 (bang h9)
  · obtain ⟨h, h9⟩ := and2 h
    obtain ⟨h, h8⟩ := and2 h
    obtain ⟨h, h7⟩ := and2 h
    obtain ⟨h, h6⟩ := and2 h
    obtain ⟨h, h5⟩ := and2 h
    obtain ⟨h, h4⟩ := and2 h
    obtain ⟨h, h3⟩ := and2 h
    obtain ⟨h1, h2⟩ := and2 h
    exact s_try1 O OS (beqt h1) h2 (bang h3) h4 (bang h5) (fun pn xe hp => es_ok (okx_tr O hp) (fun a hm => all_e a) h6 h4) (beqt h7) h8 (bang h9)
  · obtain ⟨h, h3⟩ := and2 h
    obtain ⟨h1, h2⟩ := and2 h
    exact s_raise O OS (beqt h1) h2 (bang h3)
  · obtain ⟨h1, h2⟩ := and2 h
    exact s_expr O h1 ((all_e _).w O h2)
  · exact s_ret ((all_e _).w O h)
  · exact s_retN
  · simp at ha
    obtain ⟨h, h3⟩ := and2 h
    obtain ⟨h1, h2⟩ := and2 h
    exact s_if (all_t _ c X _ O h1) (ss_ok O OS (mem (by omega)) h2) (ss_ok O OS (mem (by omega)) h3)
  · simp at ha
    obtain ⟨h, h4⟩ := and2 h
    obtain ⟨h, h3⟩ := and2 h
    obtain ⟨h1, h2⟩ := and2 h
    exact s_for O h1 (all_i _ c X _ _ _ O h2 (chT_tup h3)) (all_g _ c X _ O h3) (ss_ok O OS (mem (by omega)) h4)
  · simp at ha
    obtain ⟨h, h2⟩ := and2 h
    obtain ⟨h, h1⟩ := and2 h
    exact s_forK O h (all_g _ c X _ O h1) (ss_ok O OS (mem (by omega)) h2)
  · exact s_bad
  · simp at ha
    obtain ⟨h1, h2⟩ := and2 h
    exact s_while O (all_t _ c X _ O h1) (ss_ok O OS (mem (by omega)) h2)
  · exact s_pass
  · exact s_brk
  · exact s_cont
theorem all_s' (C : Cfg) : ∀ n (a : S), sizeOf a < n → PSok C a
  | 0, _, h => absurd h (Nat.not_lt_zero _)
  | n + 1, a, h => s_step (all_s' C n) a h
theorem all_s (a : S) : PSok C a := all_s' C (sizeOf a + 1) a (Nat.lt_succ_self _)
theorem all_ss (O : Okx c C X) (OS : OkS c C X W) {as : List S} {es : List Stmt} (h : chSs c es as = true) : PSs X es (sXs X.K C W as) := ss_ok O OS (fun a _ => all_s a) h
end
end Vi
set_option Elab.async false
set_option linter.all false
set_option maxRecDepth 100000
set_option maxHeartbeats 4000000
set_option autoImplicit false
/-! Vy: defs. -/
namespace Vi
open PySem L2 PySem.Spec PyProof.Rows
/-! ### leaving a def -/
theorem mapM_plain {K : PySem.W.Frag} {ρ : List Addr} {A A2 : AS} {H : Hp} {m : Nat} {st : Sto} {k : Nat} (ih : ∀ {v : V} {d d' : D}, RD K ρ A H v d → frz1 m st k d = some d' → RD K (ρ.take m) A2 H v d') :
    ∀ {vs : List V} {xs : List D} {ps : List PyData}, RDs K ρ A H vs xs → (xs.mapM fun x => (frz1 m st k x).bind plain1) = some ps → RPs A2 H vs ps := by
  intro vs xs
  induction xs generalizing vs with
  | nil =>
    intro ps r h
    cases r
    simp at h
    subst h
    exact .nil
  | cons x xs ihx =>
    intro ps r h
    cases r with
    | cons r rs =>
      rw [List.mapM_cons] at h
      cases e : frz1 m st k x with
      | none => rw [e] at h; simp at h
      | some d =>
        rw [e] at h
        cases d with
        | v p =>
          simp only [Option.bind_some, plain1] at h
          cases e2 : (xs.mapM fun x => (frz1 m st k x).bind plain1) with
          | none => simp [e2] at h
          | some qs =>
            simp [e2] at h
            subst h
            have r2 := ih r e
            cases r2 with
            | v r2 => exact .cons r2 (ihx rs e2)
        | ref _ => simp [plain1] at h
        | scr _ => simp [plain1] at h
theorem frz1_ok {K : PySem.W.Frag} {ρ : List Addr} {A A2 : AS} {H : Hp} {m : Nat} {st : Sto} (S : SR K ρ A st H) (sub : ∀ a, A a → A2 a) (nw : ∀ (n : Nat) (a : Addr), m ≤ n → ρ[n]? = some a → A2 a) : ∀ (k : Nat) {v : V} {d d' : D}, RD K ρ A H v d → frz1 m st k d = some d' → RD K (ρ.take m) A2 H v d' := by
  have low : ∀ {n : Nat} {a : Addr}, n < m → ρ[n]? = some a → (ρ.take m)[n]? = some a := fun {n a} h e => by
    rw [List.getElem?_take_of_lt h]; exact e
  have pl : ∀ {v : V} {p : PyData}, RD K ρ A H v (.v p) → RD K (ρ.take m) A2 H v (.v p) := fun {v p} r => by
    cases r with
    | v r => exact .v (r.mono sub (Kp.refl _ _))
  have sc : ∀ {v : V} {ns : List Int}, RD K ρ A H v (.scr ns) → RD K (ρ.take m) A2 H v (.scr ns) := fun {v ns} r => by
    cases r with
    | scr h =>
      refine .scr ?_
      rcases h with ⟨o, a, h⟩ | h
      · exact .inl ⟨o, sub _ a, h⟩
      · exact .inr h
  intro k
  induction k with
  | zero =>
    intro v d d' r h
    cases d with
    | v p => simp only [frz1, Option.some.injEq] at h; subst h; exact pl r
    | scr ns => simp only [frz1, Option.some.injEq] at h; subst h; exact sc r
    | ref n =>
      simp only [frz1] at h
      split at h
      · rename_i hn
        simp only [Option.some.injEq] at h
        subst h
        cases r with
        | ref e => exact .ref (low hn e)
      · cases h
  | succ k ih =>
    intro v d d' r h
    cases d with
    | v p => simp only [frz1, Option.some.injEq] at h; subst h; exact pl r
    | scr ns => simp only [frz1, Option.some.injEq] at h; subst h; exact sc r
    | ref n =>
      simp only [frz1] at h
      split at h
      · rename_i hn
        simp only [Option.some.injEq] at h
        subst h
        cases r with
        | ref e => exact .ref (low hn e)
      · rename_i hn
        split at h
        · rename_i xs hs
          rw [Option.map_eq_some_iff] at h
          obtain ⟨ps, h, rfl⟩ := h
          obtain ⟨a, u, rfl, h1, h2, h3, h4⟩ := ref_at S r hs
          cases h4 with
          | lst h4 => exact .v (.lst (nw n a (by omega) h1) h3 (mapM_plain ih h4 h))
        · cases h
theorem leave_ok {K : PySem.W.Frag} {ρ ρ' : List Addr} {A A' : AS} {H H' : Hp} {st st' st2 : Sto} {keep : Bool} {v : V} {d d2 : D} (S0 : SR K ρ A st H) (s : Stp ρ A H ρ' A' H') (S : SR K ρ' A' st' H') (r : RD K ρ' A' H' v d) (h : leave keep st.length d st' = .ok (d2, st2)) :
    ∃ ρ2 A2, Stp ρ A H ρ2 A2 H' ∧ SR K ρ2 A2 st2 H' ∧ RD K ρ2 A2 H' v d2 := by
  unfold leave at h
  split at h
  · cases h
    exact ⟨ρ', A', s, S, r⟩
  · split at h
    · rename_i d' hd
      split at h
      · rename_i hb
        simp only [R.ok.injEq, Prod.mk.injEq] at h
        obtain ⟨rfl, rfl⟩ := h
        have hl : ρ.length = st.length := S0.len
        have hρ : ρ'.take st.length = ρ := by
          obtain ⟨t, rfl⟩ := s.pre
          rw [← hl, List.take_left]
        have sub : ∀ a, A' a → A' a ∨ (a ∈ ρ' ∧ a ∉ ρ) := fun a h => .inl h
        have off : ∀ (n : Nat) (a : Addr), st.length ≤ n → ρ'[n]? = some a → A' a ∨ (a ∈ ρ' ∧ a ∉ ρ) := fun n a hn e => by
          refine .inr ⟨List.mem_of_getElem? e, fun z => ?_⟩
          obtain ⟨j, hj, ej⟩ := List.getElem_of_mem z
          have e2 : ρ'[j]? = some a := pre_get s.pre (by rw [List.getElem?_eq_getElem hj, ej])
          obtain ⟨hx, ex⟩ := List.getElem?_eq_some_iff.mp e
          obtain ⟨hy, ey⟩ := List.getElem?_eq_some_iff.mp e2
          have : n = j := (List.getElem_inj S.nd).mp (ex.trans ey.symm)
          omega
        have r2 := frz1_ok (A2 := fun a => A' a ∨ (a ∈ ρ' ∧ a ∉ ρ)) S sub off 8 r hd
        rw [hρ] at r2
        refine ⟨ρ, fun a => A' a ∨ (a ∈ ρ' ∧ a ∉ ρ), ⟨List.prefix_refl _, fun a h => .inl (s.sub a h), s.ka, s.kp, fun a h n => absurd h n, fun a h n => ?_, s.fz⟩, ?_, r2⟩
        · rcases h with h | ⟨h1, h2⟩
          · exact s.an a h n
          · exact ⟨h2, s.nw a h1 h2⟩
        · have hle : st.length ≤ st'.length := by
            rw [← S0.len, ← S.len]
            obtain ⟨t, rfl⟩ := s.pre
            simp
          refine ⟨by rw [List.length_take, hl]; omega, S0.nd, fun a ha h => ?_, fun a h z => ?_, fun n o a h e => ?_⟩
          · rcases h with h | ⟨_, h⟩
            · exact S.off a (s.pre.subset ha) h
            · exact h ha
          · rcases h with h | ⟨h, _⟩
            · exact S.al a h z
            · obtain ⟨j, hj, ej⟩ := List.getElem_of_mem h
              have hj' : j < st'.length := by rw [← S.len]; exact hj
              obtain ⟨u, q, _⟩ := S.ob j st'[j] a (List.getElem?_eq_getElem hj') (by rw [List.getElem?_eq_getElem hj, ej])
              rw [z] at q; cases q
          · have hn : n < st.length := by
              have := (List.getElem?_eq_some_iff.mp e).1
              omega
            rw [List.getElem?_take_of_lt hn] at h
            obtain ⟨u, q1, q2⟩ := S.ob n o a h (pre_get s.pre e)
            have ob : belowO st.length o = true := List.all_eq_true.mp hb o (List.mem_of_getElem? (by rw [List.getElem?_take_of_lt hn]; exact h))
            have rd : ∀ {v : V} {d : D}, RD K ρ' A' H' v d → belowD st.length d = true → RD K ρ (fun a => A' a ∨ (a ∈ ρ' ∧ a ∉ ρ)) H' v d := fun {v d} r b => by
              have := frz1_ok (A2 := fun a => A' a ∨ (a ∈ ρ' ∧ a ∉ ρ)) (d' := d) S sub off 0 r (by
                cases d with
                | v p => rfl
                | scr ns => rfl
                | ref n =>
                  simp only [belowD] at b
                  simp only [frz1, if_pos (of_decide_eq_true b)])
              rw [hρ] at this
              exact this
            refine ⟨u, q1, ?_⟩
            cases q2 with
            | lst q2 =>
              refine .lst ?_
              simp only [belowO] at ob
              clear h q1 e
              induction q2 with
              | nil => exact .nil
              | cons r _ ih =>
                rw [List.all_cons] at ob
                obtain ⟨o1, o2⟩ := and2 ob
                exact .cons (rd r o1) (ih o2)
            | dct q2 =>
              refine .dct ?_
              simp only [belowO] at ob
              clear h q1 e
              induction q2 with
              | nil => exact .nil
              | cons r _ ih =>
                rw [List.all_cons] at ob
                obtain ⟨o1, o2⟩ := and2 ob
                exact .cons (rd r o1) (ih o2)
            | dk q2 =>
              refine .dk ?_
              simp only [belowO, Bool.not_false, Bool.true_and] at ob
              clear h q1 e
              induction q2 with
              | nil => exact .nil
              | cons r _ ih =>
                rw [List.all_cons] at ob
                obtain ⟨o1, o2⟩ := and2 ob
                exact .cons (rd r o1) (ih o2)
            | dkl q2 => simp [belowO] at ob
            | dt q2 =>
              refine .dt ?_
              simp only [belowO, Bool.not_false, Bool.true_and] at ob
              clear h q1 e
              induction q2 with
              | nil => exact .nil
              | cons r _ ih =>
                rw [List.all_cons] at ob
                obtain ⟨o1, o2⟩ := and2 ob
                exact .cons (rd r o1) (ih o2)
            | dtl q2 => simp [belowO] at ob
      · cases h
    · cases h
/-! ### a def by its term -/
structure DefIn (K : PySem.W.Frag) (mg : Str → Option Value) (fns : List Str) (gi : List (Str × Int)) (exc : Option Str) (Pr : List FDef) (f : Nat) (x : Str) (fa : Addr) (fd : FuncData) (ps : List Str) : Prop where
  glo : mg x = some (.ref fa)
  bd : Binds K fd ps []
  ex : ∃ (name qual : Str) (params : Arguments) (body : List Stmt) (scope : Scope) (N : List Str) (d : FDef), FunD K name qual params body scope [] [] fa fd ∧ FnScope N ps scope ∧ Pr[f]? = some d ∧ d.np = ps.length ∧ d.nv = N.length ∧ chSs ⟨scope, scope.names, N, fns, gi, exc⟩ body d.body = true
theorem er_start {K : PySem.W.Frag} {ρ : List Addr} {A : AS} {H : Hp} {vs : List V} {ds : List D} {N : List Str} {n : Nat} (r : RDs K ρ A H vs ds) (hn : n = N.length - vs.length) : ER K ρ A H (L2.start N vs) (ds.map some ++ List.replicate n none) := by
  subst hn
  have hl := r.length
  refine ⟨by unfold L2.start; simp [hl], fun i d h => ?_⟩
  by_cases hi : i < ds.length
  · rw [List.getElem?_append_left (by simpa using hi), List.getElem?_map] at h
    cases e : ds[i]? with
    | none => rw [e] at h; cases h
    | some d' =>
      rw [e] at h
      simp only [Option.map_some, Option.some.injEq] at h
      subst h
      obtain ⟨v, hv, rv⟩ := r.get e
      refine ⟨v, ?_, rv⟩
      unfold L2.start
      rw [List.getElem?_append_left (by rw [List.length_map, hl]; exact hi), List.getElem?_map, hv]; rfl
  · rw [List.getElem?_append_right (by simpa using hi), List.getElem?_replicate] at h
    split at h <;> cases h
section
variable {P : Program} {w : World} {K : PySem.W.Frag} {mg : Str → Option Value} {base : Heap} {fns : List Str} {gi : List (Str × Int)} {exc : Option Str} {Pr : List FDef} {lim : Nat}
theorem fnG_of {k : Nat} {f : Addr} {name qual : Str} {params : Arguments} {body : List Stmt} {scope : Scope} {N ps : List Str} {fd : FuncData} {sp : List V → Hp → VK → Prop} (F : FunD K name qual params body scope [] [] f fd) (S : FnScope N ps scope)
    (len : ∀ vs H Q, sp vs H Q → vs.length = ps.length)
    (hbody : ∀ (cdv : Value) (A : Around) (outer : List Env) (s : Shared) (H : Hp) (vs : List V) (Q : VK), Room k (A.deeper (envOfC qual scope s.heap.objs.size f cdv)) → A.guards = some [] → sp vs H Q →
      ∃ t, PSs (cxOf CX0 P w K mg base N qual scope f cdv A outer s H E0) body t ∧ t { nx := fun _ H' => Q .non H', rt := Q } (L2.start N vs) H) : FnG P w K mg base (k + 1) f fd ps sp := by
  obtain ⟨oc, od, dV, kV, doc, pm, an, cdv, ct, osl, rfl, lk, hcd, _, _⟩ := F.ex
  refine ⟨len, fun A outer s H args us vs Q hr hg e0 hb r hsp => ?_⟩
  have inK : K.In s.heap := e0.mod.kin.keeps fun b o e => (e0.bs b o e).1
  have nolim : s.heap.NoLimit := e0.mod.nolimit.keeps fun b o e => (e0.bs b o e).1
  refine codeAny_call_function hr.depth (inK _ _ lk) rfl S.co S.gen rfl (PySem.W.codeRec_of inK hcd) (hb _ _ _ _ ?_)
  refine wpAny_newFunctionEnv_cells S.kind (fun ⟨n, v⟩ hy => ?_) fun env he s1 x => ?_
  · rcases S.par n (List.of_mem_zip hy).1 with q | q
    · exact .inl q
    · exact .inr ⟨q, PySem.W.cellsFrom_some _ _ _ (.inl q)⟩
  · subst he
    obtain ⟨t, ht, hq⟩ := hbody cdv A outer s H vs Q (hr.deeper _) hg hsp
    refine ⟨nolim.keeps x.toInCall.keep, codeAny_func (wpAny_mono (ht.run [] s1 (L2.start N vs) H _ (inv_start S hr.hd e0 (len _ _ _ hsp) r x) hq) (fun fl s' hs => ?_) fun e s' hs => hs)⟩
    cases fl with
    | ret u =>
      obtain ⟨v, σ', H', J, rv, q⟩ := hs
      exact ⟨v, H', J.os, J.bare, J.base, J.hok, rv, q⟩
    | next =>
      obtain ⟨σ', H', J, q⟩ := hs
      exact ⟨.non, H', J.os, J.bare, J.base, J.hok, rfl, q⟩
    | brk =>
      obtain ⟨_, _, _, q⟩ := hs
      exact q.elim
    | cont =>
      obtain ⟨_, _, _, q⟩ := hs
      exact q.elim
theorem fnGX_of {k : Nat} {f : Addr} {name qual : Str} {params : Arguments} {body : List Stmt} {scope : Scope} {N ps : List Str} {fd : FuncData} {sp : List V → Hp → VK → XK → Prop} (F : FunD K name qual params body scope [] [] f fd) (S : FnScope N ps scope)
    (len : ∀ vs H Q E, sp vs H Q E → vs.length = ps.length)
    (hbody : ∀ (cdv : Value) (A : Around) (outer : List Env) (s : Shared) (H : Hp) (vs : List V) (Q : VK) (E : XK), Room k (A.deeper (envOfC qual scope s.heap.objs.size f cdv)) → A.guards = some [] → sp vs H Q E →
      ∃ t, PSs (cxOf (L2.CX P w) P w K mg base N qual scope f cdv A outer s H E) body t ∧ t { nx := fun _ H' => Q .non H', rt := Q } (L2.start N vs) H) : FnGX P w K mg base (k + 1) f fd ps sp := by
  obtain ⟨oc, od, dV, kV, doc, pm, an, cdv, ct, osl, rfl, lk, hcd, _, _⟩ := F.ex
  refine ⟨len, fun A outer s H args us vs Q E hr hg e0 hb r hsp => ?_⟩
  have inK : K.In s.heap := e0.mod.kin.keeps fun b o e => (e0.bs b o e).1
  have nolim : s.heap.NoLimit := e0.mod.nolimit.keeps fun b o e => (e0.bs b o e).1
  refine codeAny_call_function hr.depth (inK _ _ lk) rfl S.co S.gen rfl (PySem.W.codeRec_of inK hcd) (hb _ _ _ _ ?_)
  refine wpAny_newFunctionEnv_cells S.kind (fun ⟨n, v⟩ hy => ?_) fun env he s1 x => ?_
  · rcases S.par n (List.of_mem_zip hy).1 with q | q
    · exact .inl q
    · exact .inr ⟨q, PySem.W.cellsFrom_some _ _ _ (.inl q)⟩
  · subst he
    obtain ⟨t, ht, hq⟩ := hbody cdv A outer s H vs Q E (hr.deeper _) hg hsp
    refine ⟨nolim.keeps x.toInCall.keep, codeAny_func (wpAny_mono (ht.run [] s1 (L2.start N vs) H _ (inv_start S hr.hd e0 (len _ _ _ _ hsp) r x) hq) (fun fl s' hs => ?_) fun e s' hs => hs)⟩
    cases fl with
    | ret u =>
      obtain ⟨v, σ', H', J, rv, q⟩ := hs
      exact ⟨v, H', J.os, J.bare, J.base, J.hok, rv, q⟩
    | next =>
      obtain ⟨σ', H', J, q⟩ := hs
      exact ⟨.non, H', J.os, J.bare, J.base, J.hok, rfl, q⟩
    | brk =>
      obtain ⟨_, _, _, q⟩ := hs
      exact q.elim
    | cont =>
      obtain ⟨_, _, _, q⟩ := hs
      exact q.elim
theorem spC_zero {f : Nat} {vs : List V} {H : Hp} {Q : VK} {lim : Nat} (h : spC K (cfg Pr lim 0) f vs H Q) : False := by
  obtain ⟨ρ, A, ds, st, d, st', _, _, e, _⟩ := h
  simp [callF] at e
theorem spC_len {f : Nat} {vs : List V} {H : Hp} {Q : VK} {n m : Nat} {d : FDef} (hd : Pr[f]? = some d) (hm : d.np = m) (h : spC K (cfg Pr lim n) f vs H Q) : vs.length = m := by
  obtain ⟨ρ, A, ds, st, d', st', _, r, e, _⟩ := h
  cases n with
  | zero => simp [callF] at e
  | succ n =>
    have e : callF Pr lim (n + 1) f ds st = .ok (d', st') := e
    simp only [callF, hd, runDef] at e
    split at e
    · rename_i hl
      rw [r.length, hl, hm]
    · cases e
theorem spX_zero {f : Nat} {vs : List V} {H : Hp} {Q : VK} {E : XK} {Ca : Addr} {lim : Nat} (h : spX K (cfg Pr lim 0) f Ca vs H Q E) : False := by
  obtain ⟨ρ, A, ds, st, d, st', _, _, e, _⟩ := h
  simp [callX] at e
theorem spX_len {f : Nat} {vs : List V} {H : Hp} {Q : VK} {E : XK} {Ca : Addr} {n m : Nat} {d : FDef} (hd : Pr[f]? = some d) (hm : d.np = m) (h : spX K (cfg Pr lim n) f Ca vs H Q E) : vs.length = m := by
  obtain ⟨ρ, A, ds, st, d', st', _, r, e, _⟩ := h
  cases n with
  | zero => simp [callX] at e
  | succ n =>
    have e : callX Pr lim (n + 1) f ds st = .ok (d', st') := e
    simp only [callX, hd, runDefX] at e
    split at e
    · rename_i hl
      rw [r.length, hl, hm]
    · cases e
theorem all_defs (hbl : ∀ x, x ∈ bltNames → mg x = none) (hgi : ∀ x i, gi.lookup x = some i → ∃ t, mg x = some (.int i t)) (hexc : ∀ x, exc = some x → ∃ Ca, ExcAt K mg x Ca) (hdef : ∀ (f : Nat) (x : Str), fns[f]? = some x → ∃ fa fd ps, DefIn K mg fns gi exc Pr f x fa fd ps) :
    ∀ (n : Nat) (f : Nat) (x : Str) (fa : Addr) (fd : FuncData) (ps : List Str), DefIn K mg fns gi exc Pr f x fa fd ps → FnG P w K mg base n fa fd ps (spC K (cfg Pr lim n) f) ∧ ∀ y Ca, exc = some y → ExcAt K mg y Ca → FnGX P w K mg base n fa fd ps (spX K (cfg Pr lim n) f Ca) := by
  intro n
  induction n with
  | zero =>
    intro f x fa fd ps D
    exact ⟨⟨fun vs H Q h => (spC_zero h).elim, fun A outer s H args us vs Q _ _ _ _ _ h => (spC_zero h).elim⟩, fun y Ca _ _ => ⟨fun vs H Q E h => (spX_zero h).elim, fun A outer s H args us vs Q E _ _ _ _ _ h => (spX_zero h).elim⟩⟩
  | succ n ih =>
    intro f x fa fd ps D
    obtain ⟨name, qual, params, body, scope, N, d, F, S, hd, hnp, hnv, hch⟩ := D.ex
    have okx : ∀ {CXo : CXT} {E : XK} (cdv : Value) (A : Around) (outer : List Env) (s : Shared) (H : Hp), Room n (A.deeper (envOfC qual scope s.heap.objs.size fa cdv)) → A.guards = some [] →
        PassesOwn (model P w) (A.deeper (envOfC qual scope s.heap.objs.size fa cdv)) (envOfC qual scope s.heap.objs.size fa cdv) (cxOf CXo P w K mg base N qual scope fa cdv A outer s H E).xe →
        Okx ⟨scope, scope.names, N, fns, gi, exc⟩ (cfg Pr lim n) (cxOf CXo P w K mg base N qual scope fa cdv A outer s H E) := fun {CXo E} cdv A outer s H hr hg hpass => {
        sc := rfl
        N := rfl
        nd := S.nd
        calm := rfl
        st := fun x h => by
          unfold locB at h
          show Loc scope x ∧ _
          refine ⟨?_, .inl rfl⟩
          have h : (match scope.names.lookup x with
            | some .local => true
            | some .cell => true
            | _ => false) = true := h
          split at h
          · rename_i e; exact .inl e
          · rename_i e; exact .inr e
          · cases h
        bl := hbl
        un := by have := hr.un; show (A.deeper (envOfC qual scope s.heap.objs.size fa cdv)).units + 200 < cLine; omega
        gu := hg
        pass := hpass
        gi := hgi
        call := fun g y hy => by
          obtain ⟨fa', fd', ps', D'⟩ := hdef g y hy
          obtain ⟨_, _, _, _, _, _, _, F', _⟩ := D'.ex
          exact ⟨n, fa', fd', ps', D'.glo, F'.kp, hr, D'.bd, (ih g y fa' fd' ps' D').1⟩ }
    have oks : ∀ {CXo : CXT} {E : XK} {W : L2.St → Hp → Prop} (cdv : Value) (A : Around) (outer : List Env) (s : Shared) (H : Hp), Room n (A.deeper (envOfC qual scope s.heap.objs.size fa cdv)) →
        (∀ y Ca, exc = some y → ExcAt K mg y Ca → Takes (cxOf CXo P w K mg base N qual scope fa cdv A outer s H E) (fun cls d σ H => cls = .ref Ca ∧ d = none ∧ W σ H)) →
        OkS ⟨scope, scope.names, N, fns, gi, exc⟩ (cfg Pr lim n) (cxOf CXo P w K mg base N qual scope fa cdv A outer s H E) W := fun {CXo E W} cdv A outer s H hr htk => {
        fr := ⟨rfl, rfl⟩
        exc := fun y hy => by
          obtain ⟨Ca, EA⟩ := hexc y hy
          refine ⟨Ca, EA, htk y Ca hy EA, fun g z hz => ?_⟩
          obtain ⟨fa', fd', ps', D'⟩ := hdef g z hz
          obtain ⟨_, _, _, _, _, _, _, F', _⟩ := D'.ex
          exact ⟨n, fa', fd', ps', D'.glo, F'.kp, hr, D'.bd, (ih g z fa' fd' ps' D').2 y Ca hy EA⟩ }
    refine ⟨?_, fun y Ca hy EA => ?_⟩
    · refine fnG_of F S (fun vs H Q h => spC_len hd hnp h) fun cdv A outer s H vs Q hr hg hsp => ⟨sXs K (cfg Pr lim n) (fun _ _ => False) d.body, all_ss (c := ⟨scope, scope.names, N, fns, gi, exc⟩) (okx cdv A outer s H hr hg (passes_of rfl)) (oks cdv A outer s H hr fun y Ca _ _ u s' z => ?_) hch, ?_⟩
      · obtain ⟨_, _, _, _, _, _, _, _, _, _, _, _, _, _, _, _, _, _, z⟩ := z
        exact z.elim
      · obtain ⟨ρ, A1, ds, st, dd, st', S1, r1, ev, post⟩ := hsp
        have ev : callF Pr lim (n + 1) f ds st = .ok (dd, st') := ev
        simp only [callF, hd, runDef] at ev
        split at ev
        · rename_i hl
          obtain ⟨⟨fl, env', st1⟩, e1, ev⟩ := R.bind_eq ev
          refine ⟨ρ, A1, _, st, fl, env', st1, er_start r1 (by rw [hnv, r1.length, hl]), S1, e1, fun σ' H' ρ' A' s' S' er' => ?_⟩
          dsimp only at ev
          cases fl with
          | nx =>
            obtain ⟨ρ2, A2, s2, S2, r2⟩ := leave_ok (v := .non) S1 s' S' (.v .non) ev
            exact post .non H' ρ2 A2 s2 S2 r2
          | bk => cases ev
          | ct => cases ev
          | ex => cases ev
          | rt d0 =>
            intro v rv
            obtain ⟨ρ2, A2, s2, S2, r2⟩ := leave_ok S1 s' S' rv ev
            exact post v H' ρ2 A2 s2 S2 r2
        · cases ev
    · refine fnGX_of F S (fun vs H Q E h => spX_len hd hnp h) fun cdv A outer s H vs Q E hr hg hsp => ⟨sXs K (cfg Pr lim n) (fun _ H' => E (.ref Ca) none H') d.body, all_ss (c := ⟨scope, scope.names, N, fns, gi, exc⟩) (okx cdv A outer s H hr hg (passes_of rfl)) (oks cdv A outer s H hr fun y' Ca' hy' EA' => ?_) hch, ?_⟩
      · have e : Ca' = Ca := by
          rw [hy] at hy'
          cases hy'
          have := EA'.glo.symm.trans EA.glo
          cases this
          rfl
        subst e
        refine Takes.imp (takes_of rfl rfl rfl rfl) fun cls dd σ H' h => ?_
        obtain ⟨rfl, rfl, h⟩ := h
        exact h
      · obtain ⟨ρ, A1, ds, st, dd, st', S1, r1, ev, post⟩ := hsp
        have ev : callX Pr lim (n + 1) f ds st = .ok (dd, st') := ev
        simp only [callX, hd, runDefX] at ev
        split at ev
        · rename_i hl
          obtain ⟨⟨fl, env', st1⟩, e1, ev⟩ := R.bind_eq ev
          refine ⟨ρ, A1, _, st, fl, env', st1, er_start r1 (by rw [hnv, r1.length, hl]), S1, e1, fun σ' H' ρ' A' s' S' er' => ?_⟩
          dsimp only at ev
          cases fl with
          | nx =>
            obtain ⟨⟨d1, st2⟩, e2, ev⟩ := R.bind_eq ev
            cases ev
            obtain ⟨ρ2, A2, s2, S2, r2⟩ := leave_ok (v := .non) S1 s' S' (.v .non) e2
            exact post .non H' ρ2 A2 s2 S2 r2
          | bk => cases ev
          | ct => cases ev
          | ex =>
            obtain ⟨⟨d1, st2⟩, e2, ev⟩ := R.bind_eq ev
            cases ev
            obtain ⟨ρ2, A2, s2, S2, r2⟩ := leave_ok (v := .non) S1 s' S' (.v .non) e2
            exact post H' ρ2 A2 s2 S2
          | rt d0 =>
            obtain ⟨⟨d1, st2⟩, e2, ev⟩ := R.bind_eq ev
            cases ev
            intro v rv
            obtain ⟨ρ2, A2, s2, S2, r2⟩ := leave_ok S1 s' S' rv e2
            exact post v H' ρ2 A2 s2 S2 r2
        · cases ev
end
end Vi
set_option Elab.async false
set_option linter.all false
set_option maxRecDepth 100000
set_option maxHeartbeats 4000000
set_option autoImplicit false
/-! Vza: the law is called. -/
namespace Vi
open PySem L2 PySem.Spec PyProof.Rows
/-- what is tracked at the law's entry: the script, unless it is an object of the module -/
def scrH (K : PySem.W.Frag) (a : Addr) (vs : List Value) (ns : List Int) : Hp := fun b =>
  if b = a ∧ K.lookup a = none then some (.frz { cls := .type "list", data := .seq vs.toArray } (.lst (ns.map V.int))) else none
theorem scrH_eq {K : PySem.W.Frag} {a b : Addr} {vs : List Value} {ns : List Int} {u : HO} (h : scrH K a vs ns b = some u) : b = a ∧ K.lookup a = none ∧ u = .frz { cls := .type "list", data := .seq vs.toArray } (.lst (ns.map V.int)) := by
  unfold scrH at h
  split at h
  · rename_i hb
    cases h
    exact ⟨hb.1, hb.2, rfl⟩
  · cases h
theorem end_law {P : Program} {w : World} {K : PySem.W.Frag} {mg mb : Str → Option Value} {k : Nat} {fa a : Addr} {fd : FuncData} {x : Str} {sp : List V → Hp → VK → Prop} {s₁ : Shared} {vs : List Value} {ns : List Int}
    (inK : K.In s₁.heap) (hg : s₁.heap.Ns mainGlobals mg) (hb : s₁.heap.Ns builtinsNs mb) (hbb : ∀ x : Str, x ≠ "__name__" → mb x = bootBuiltins x) (hlim : s₁.heap.NoLimit) (gens : s₁.gens = #[])
    (ha : s₁.heap.get? a = some { cls := .type "list", data := .seq vs.toArray }) (hi : IntsAre vs ns) (hl : ns.length ≤ sizeLine) (room : Room k callerA)
    (F : ∀ base : Heap, K.In base → base.Ns mainGlobals mg → FnG P w K mg base k fa fd [x] sp) (bind : ∀ (s : Shared) (u : Value), BindsTo s fd ⟨[u], []⟩ [(x, u)])
    (hsp : ∀ H : Hp, Only H → SqL K H a (ns.map V.int) → sp [.ref a] H fun v _ => v = .bl true) :
    codeAny (model P w) callerA (.call (.ref fa) ⟨[.ref a], []⟩) (fun r s' => r = .ok (.ret (.bool true)) ∧ OldK s₁.heap s'.heap ∧ s'.os = s₁.os ∧ AllBare s'.gens) s₁ := by
  have vi : Vals (ns.map V.int) vs := vals_ints hi
  have only : Only (scrH K a vs ns) := fun b => by
    cases e : scrH K a vs ns b with
    | none => exact .inl rfl
    | some u => exact .inr ⟨_, _, congrArg some (scrH_eq e).2.2⟩
  have here : SqL K (scrH K a vs ns) a (ns.map V.int) := by
    cases e : K.lookup a with
    | none => exact .inl (.inr ⟨{ cls := .type "list", data := .seq vs.toArray }, if_pos ⟨rfl, e⟩⟩)
    | some o =>
      have o1 := inK a o e
      rw [ha] at o1
      cases o1
      exact .inr ⟨_, vs.toArray, _, e, rfl, rfl, rfl, by rw [List.size_toArray, hi.length]; exact hl, by simpa using vi⟩
  have ok : HOk P w (scrH K a vs ns) s₁.heap := fun b u e => by
    obtain ⟨rfl, _, rfl⟩ := scrH_eq e
    exact ⟨ha, by rw [List.length_map]; exact hl, vs, _, vi, ha⟩
  generalize hH : scrH K a vs ns = H at only here ok
  have get : ∀ {b : Addr} {o : Obj}, s₁.heap.get? b = some o → H b = none → (hidT s₁.heap H).get? b = some o := hidT_get
  have untracked : ∀ {b : Addr} {o : Obj}, s₁.heap.get? b = some o → (∀ vs n, o.data ≠ .seq vs n) → H b = none := fun {b o} e d => by
    cases q : H b with
    | none => rfl
    | some u =>
      rw [← hH] at q
      obtain ⟨rfl, _, _⟩ := scrH_eq q
      rw [ha] at e
      cases e
      exact absurd rfl (d _ _)
  have ns' : ∀ {b : Addr} {m : Str → Option Value}, s₁.heap.Ns b m → (hidT s₁.heap H).Ns b m := fun ⟨o, es, ep, e, d, r⟩ => ⟨o, es, ep, get e (untracked e fun vs n z => by rw [d] at z; cases z), d, r⟩
  have inB : K.In (hidT s₁.heap H) := fun b o e => get (inK b o e) (by
    cases q : H b with
    | none => rfl
    | some u =>
      rw [← hH] at q
      obtain ⟨rfl, z, _⟩ := scrH_eq q
      rw [z] at e; cases e)
  have md : Mod K mg (hidT s₁.heap H) := ⟨inB, ns' hg, ⟨mb, ns' hb, hbb⟩, hlim.elim fun mc h => ⟨mc, ns' h.1, h.2⟩⟩
  have env : Env0 P w K mg (hidT s₁.heap H) callerA [] s₁ H := ⟨rfl, md, fun b o e => of_hidT e, Nat.le_of_eq (hidT_size _ _), trivial, fun b z => absurd (show b ∈ ([] : List Addr) from z) (by simp), ok, .of_eq gens⟩
  refine codeAny_mono ((F _ inB (ns' hg)).run callerA [] s₁ H ⟨[.ref a], []⟩ [.ref a] [.ref a] _ room rfl env (bind s₁ (.ref a)) (.cons rfl .nil) (hsp H only here)) fun r s' h => ?_
  match r, h with
  | .error _, h => exact h.elim
  | .ok .next, h => exact h.elim
  | .ok .brk, h => exact h.elim
  | .ok .cont, h => exact h.elim
  | .ok (.ret u), ⟨v, H', os, bare, un, ok', ru, hv⟩ =>
    cases (show v = .bl true from hv)
    cases (show u = Value.bool true from ru)
    refine ⟨rfl, .of_keep fun b o e => ?_, os, bare⟩
    rcases only b with z | ⟨ob, xs, z⟩
    · exact un.keep b o e z (fun q => absurd (show b ∈ ([] : List Addr) from q) (by simp)) (by simp)
    · obtain ⟨e1, _⟩ := ok b _ z
      obtain ⟨e2, _⟩ := ok' b _ (un.frzs b ob _ z)
      rw [e] at e1
      cases e1
      exact e2
theorem walk_G {l : PySem.W.OpenLaw} {n k : Nat} {q : Program} {loose : List Str} {XP : (Str → Option Value) → Heap → Prop} {YP : World → Heap → Prop} {d : DefRec} {x : Str}
    (hn : l.most = some n) (hn2 : n ≤ sizeLine) (hdf : d.params.defaults = []) (hr : Room k callerA)
    (F : ∀ (w : World) (mg : Str → Option Value) (fa : Addr) (h : Heap), YP w h → h.Ns mainGlobals mg → mg d.name = some (.ref fa) →
      ∃ (K : PySem.W.Frag) (fd : FuncData) (sp : List V → Hp → VK → Prop), K.In h ∧ (∀ (s : Shared) (u : Value), BindsTo s fd ⟨[u], []⟩ [(x, u)]) ∧
        (∀ (H : Hp) (a : Addr) (ns : List Int), ns.length ≤ n → Only H → SqL K H a (ns.map V.int) → sp [.ref a] H fun v _ => v = .bl true) ∧
        ∀ base : Heap, K.In base → base.Ns mainGlobals mg → FnG l.prog w K mg base k fa fd [x] sp) :
    PySem.W.WalkO q loose XP YP l.row.toRowW d [] (fun f vs => PySem.call f vs) := by
  refine Att.attach_call hn hdf fun w s₀ s₁ mg mb fa o pm cd doc a vs ns G Y ho hd hcd hmg hobj hints hlen hg => ?_
  obtain ⟨K, fd, sp, inK, bind, hsp, hF⟩ := F w mg fa _ Y G.T.g hmg
  exact end_law inK G.T.g G.T.b G.T.builtins G.T.nolimit hg hobj hints (Nat.le_trans hlen hn2) hr hF bind fun H hO hS => hsp H a ns hlen hO hS
/-- the law's promise, by the interpreter -/
theorem sp_law {K : PySem.W.Frag} {Pr : List FDef} {lim n f : Nat} {a : Addr} {ns : List Int} {H : Hp} (hO : Only H) (hS : SqL K H a (ns.map V.int)) (h : ∃ st', callF Pr lim n f [.scr ns] [] = .ok (.v (.bool true), st')) : spC K (cfg Pr lim n) f [.ref a] H fun v _ => v = .bl true := by
  obtain ⟨st', h⟩ := h
  refine ⟨[], fun b => ∃ o xs, H b = some (.frz o (.lst xs)), [.scr ns], [], _, st', ⟨rfl, List.nodup_nil, fun a h => absurd h (by simp), fun b h z => ?_, fun n o a h _ => by simp at h⟩, .cons (.scr ?_) .nil, h, fun v H' ρ' A' _ _ r => r.bl_eq⟩
  · obtain ⟨o, xs, e⟩ := h
    rw [z] at e; cases e
  · rcases hS with (hS | ⟨o, hS⟩) | hS
    · rcases hO a with z | ⟨o, xs, z⟩
      · rw [z] at hS; cases hS
      · rw [z] at hS; cases hS
    · exact .inl ⟨o, ⟨o, _, hS⟩, hS⟩
    · exact .inr fun H' => .inr hS
theorem lk_mem {x : Str} {i : Int} : ∀ {l : List (Str × Int)}, l.lookup x = some i → (x, i) ∈ l
  | [], h => by cases h
  | (y, j) :: l, h => by
    rw [List.lookup_cons] at h
    by_cases e : x = y
    · subst e
      rw [beq_self_eq_true] at h
      cases h
      exact List.mem_cons_self
    · rw [beq_eq_false_iff_ne.mpr e] at h
      exact List.mem_cons_of_mem _ (lk_mem h)
end Vi
set_option Elab.async false
set_option linter.all false
set_option maxRecDepth 100000
set_option maxHeartbeats 4000000
set_option autoImplicit false
/-! Wa: working with the interpreter. -/
namespace Vi
open PySem L2
/-- it comes to something that ... -/
def Ok {α : Type} (r : R α) (P : α → Prop) : Prop := ∃ a, r = .ok a ∧ P a
theorem Ok.ret {α : Type} {a : α} {P : α → Prop} (h : P a) : Ok (.ok a) P := ⟨a, rfl, h⟩
theorem Ok.bind {α β : Type} {r : R α} {f : α → R β} {P : α → Prop} {Q : β → Prop} (h : Ok r P) (k : ∀ a, P a → Ok (f a) Q) : Ok (r.bind f) Q := by
  obtain ⟨a, rfl, p⟩ := h
  exact k a p
theorem Ok.mono {α : Type} {r : R α} {P Q : α → Prop} (h : Ok r P) (k : ∀ a, P a → Q a) : Ok r Q := by
  obtain ⟨a, rfl, p⟩ := h
  exact ⟨a, rfl, k a p⟩
theorem Ok.eq {α : Type} {r : R α} {a : α} (h : Ok r fun b => b = a) : r = .ok a := by
  obtain ⟨b, e, rfl⟩ := h
  exact e
theorem Ok.of {α : Type} {r : R α} {a : α} {P : α → Prop} (e : r = .ok a) (h : P a) : Ok r P := ⟨a, e, h⟩
theorem R.bind_assoc {α β γ : Type} (r : R α) (f : α → R β) (g : β → R γ) : (r.bind f).bind g = r.bind fun a => (f a).bind g := by cases r <;> rfl
theorem callF_at {P : List FDef} {f : Nat} {fd : FDef} (h : P[f]? = some fd) (lim n : Nat) (ds : List D) (st : Sto) : callF P lim (n + 1) f ds st = runDef (cfg P lim n) fd ds st := by
  rw [callF, h]
theorem run_ok {C : Cfg} {fd : FDef} {ds : List D} {st : Sto} {Q : D × Sto → Prop} (hl : ds.length = fd.np)
    (h : Ok (exSs C fd.body (ds.map some ++ List.replicate (fd.nv - fd.np) none) st) fun x => ∃ d, x.1 = .rt d ∧ Ok (leave fd.keep st.length d x.2.2) Q) : Ok (runDef C fd ds st) Q := by
  unfold runDef
  rw [if_pos hl]
  refine h.bind ?_
  rintro ⟨fl, env, st1⟩ ⟨d, e, q⟩
  simp only at e q
  subst e
  exact q
theorem leave_same {keep : Bool} {m : Nat} {d : D} {st : Sto} (h : st.length ≤ m) : leave keep m d st = .ok (d, st) := by
  unfold leave
  simp [h]
theorem leave_keep {m : Nat} {d : D} {st : Sto} : leave true m d st = .ok (d, st) := rfl
theorem leave_v {m : Nat} {p : PyData} {st : Sto} (h : (st.take m).all (belowO m) = true) : leave false m (.v p) st = .ok (.v p, if st.length ≤ m then st else st.take m) := by
  unfold leave
  by_cases hl : st.length ≤ m
  · simp [hl]
  · simp [hl, frz1, h]
/-! ### turns -/
section
variable {α : Type}
theorem compL_map {turn : D → Sto → R (Option D × Sto)} {st : Sto} {e : α → D} {g : α → PyData} : ∀ (xs : List α) (acc : List PyData), (∀ x ∈ xs, turn (e x) st = .ok (some (.v (g x)), st)) → acc.length + xs.length ≤ 16777216 → compL turn (xs.map e) st acc = .ok (.v (.list (acc ++ xs.map g)), st)
  | [], acc, _, _ => by simp [compL]
  | x :: xs, acc, h, hl => by
    simp only [List.length_cons] at hl
    have hl' : acc.length < sizeLine := by show acc.length < 16777216; omega
    simp only [List.map_cons, compL]
    rw [h x (by simp)]
    simp only [R.bind_ok, hl', if_true]
    rw [compL_map xs (acc ++ [g x]) (fun y hy => h y (by simp [hy])) (by simp; omega)]
    simp
theorem compL_filter {turn : D → Sto → R (Option D × Sto)} {st : Sto} {e : α → D} {p : α → Bool} {g : α → PyData} : ∀ (xs : List α) (acc : List PyData), (∀ x ∈ xs, turn (e x) st = .ok (if p x then some (.v (g x)) else none, st)) → acc.length + xs.length ≤ 16777216 → compL turn (xs.map e) st acc = .ok (.v (.list (acc ++ (xs.filter p).map g)), st)
  | [], acc, _, _ => by simp [compL]
  | x :: xs, acc, h, hl => by
    simp only [List.length_cons] at hl
    have hl' : acc.length < sizeLine := by show acc.length < 16777216; omega
    simp only [List.map_cons, compL]
    rw [h x (by simp)]
    cases hp : p x with
    | true =>
      simp only [R.bind_ok, hl', if_true]
      rw [compL_filter xs (acc ++ [g x]) (fun y hy => h y (by simp [hy])) (by simp; omega)]
      simp [hp]
    | false =>
      simp only [R.bind_ok, Bool.false_eq_true, if_false]
      rw [compL_filter xs acc (fun y hy => h y (by simp [hy])) (by omega)]
      simp [hp]
theorem compL_inv {turn : D → Sto → R (Option D × Sto)} {e : α → D} (I : List PyData → List α → Sto → Prop) : ∀ (xs : List α) (acc : List PyData) (st : Sto),
    (∀ x r acc st, I acc (x :: r) st → Ok (turn (e x) st) fun z => ∃ p, z.1 = some (.v p) ∧ I (acc ++ [p]) r z.2) → I acc xs st → acc.length + xs.length ≤ 16777216 → Ok (compL turn (xs.map e) st acc) fun z => ∃ ps, z.1 = .v (.list ps) ∧ ps.length = acc.length + xs.length ∧ I ps [] z.2
  | [], acc, st, _, hi, _ => ⟨(.v (.list acc), st), by simp [compL], acc, rfl, by simp, hi⟩
  | x :: xs, acc, st, h, hi, hl => by
    simp only [List.length_cons] at hl
    have hl' : acc.length < sizeLine := by show acc.length < 16777216; omega
    simp only [List.map_cons, compL]
    refine (h x xs acc st hi).bind ?_
    rintro ⟨o, st2⟩ ⟨p, e1, hi2⟩
    simp only at e1 hi2
    subst e1
    simp only [hl', if_true]
    refine (compL_inv I xs (acc ++ [p]) st2 h hi2 (by simp; omega)).mono ?_
    rintro ⟨d, st3⟩ ⟨ps, e2, h2, h3⟩
    exact ⟨ps, e2, by simp at h2 ⊢; omega, h3⟩
theorem forL_inv {body : D → En → Sto → R (Flow × En × Sto)} {e : α → D} (I : List α → En → Sto → Prop) : ∀ (xs : List α) (env : En) (st : Sto),
    (∀ x r env st, I (x :: r) env st → Ok (body (e x) env st) fun z => z.1 = .nx ∧ I r z.2.1 z.2.2) → I xs env st → Ok (forL body (xs.map e) env st) fun z => z.1 = .nx ∧ I [] z.2.1 z.2.2
  | [], env, st, _, hi => ⟨(.nx, env, st), by simp [forL], rfl, hi⟩
  | x :: xs, env, st, h, hi => by
    simp only [List.map_cons, forL]
    refine (h x xs env st hi).bind ?_
    rintro ⟨fl, env2, st2⟩ ⟨e1, hi2⟩
    simp only at e1 hi2
    subst e1
    exact forL_inv I xs env2 st2 h hi2
theorem whileL_inv {test : En → Sto → R (Bool × Sto)} {body : En → Sto → R (Flow × En × Sto)} (I : Nat → En → Sto → Prop) (Q : En → Sto → Prop) : ∀ (k m : Nat) (env : En) (st : Sto), m < k →
    (∀ m env st, I m env st → Ok (test env st) fun z => (z.1 = false → Q env z.2) ∧ (z.1 = true → Ok (body env z.2) fun w => w.1 = .nx ∧ ∃ m', m' < m ∧ I m' w.2.1 w.2.2)) → I m env st →
    Ok (whileL test body k env st) fun z => z.1 = .nx ∧ Q z.2.1 z.2.2
  | 0, m, env, st, hm, _, _ => absurd hm (by omega)
  | k + 1, m, env, st, hm, h, hi => by
    simp only [whileL]
    refine (h m env st hi).bind ?_
    rintro ⟨b, st2⟩ ⟨h1, h2⟩
    cases b with
    | false => exact ⟨_, rfl, rfl, h1 rfl⟩
    | true =>
      simp only [if_true]
      refine (h2 rfl).bind ?_
      rintro ⟨fl, env3, st3⟩ ⟨e1, m', hm', hi3⟩
      simp only at e1 hi3
      subst e1
      exact whileL_inv I Q k m' env3 st3 (by omega) h hi3
end
theorem small_le {n : Nat} (h : n ≤ 16777216) : small n = true := by
  unfold small
  exact decide_eq_true h
theorem mkTup_map {ps : List PyData} (h : ps.length ≤ 16777216) : mkTup (ps.map .v) = .ok (.v (.tuple ps)) := by
  unfold mkTup
  rw [plains_map]
  simp [small_le h]
theorem mkLst_mapV {ps : List PyData} (h : ps.length ≤ 16777216) : mkLst (ps.map .v) = .ok (.v (.list ps)) := by
  unfold mkLst
  rw [plains_map]
  simp [small_le h]
theorem blt_tuple_l {st : Sto} {ps : List PyData} (h : ps.length ≤ 16777216) : blt st .tuple [.v (.list ps)] = .ok (.v (.tuple ps)) := by
  simp [blt, seqOf, mkTup_map h]
theorem blt_tuple_t {st : Sto} {ps : List PyData} (h : ps.length ≤ 16777216) : blt st .tuple [.v (.tuple ps)] = .ok (.v (.tuple ps)) := by
  simp [blt, seqOf, mkTup_map h]
theorem blt_list_t {st : Sto} {ps : List PyData} (h : ps.length ≤ 16777216) : blt st .list [.v (.tuple ps)] = .ok (.v (.list ps)) := by
  simp [blt, seqOf, mkLst_mapV h]
theorem blt_list_l {st : Sto} {ps : List PyData} (h : ps.length ≤ 16777216) : blt st .list [.v (.list ps)] = .ok (.v (.list ps)) := by
  simp [blt, seqOf, mkLst_mapV h]
theorem rngI_zero (n : Nat) : rngI 0 (n : Int) = (List.range n).map fun i => D.v (.int (i : Nat)) := by
  unfold rngI
  simp
theorem atI_nat {β : Type} (xs : List β) (k : Nat) : atI xs (k : Int) = xs[k]? := by
  unfold atI ixN
  by_cases h : k < xs.length
  · simp [h]
  · simp [h, List.getElem?_eq_none (Nat.le_of_not_lt h)]
end Vi
set_option Elab.async false
set_option linter.all false
set_option maxRecDepth 100000
set_option maxHeartbeats 4000000
set_option autoImplicit false
/-! We: rules for walking through the interpreter. -/
namespace Vi
open PySem L2
def Ok2 {α β : Type} (r : R (α × β)) (Q : α → β → Prop) : Prop := ∃ a b, r = .ok (a, b) ∧ Q a b
def Ok3 {α β γ : Type} (r : R (α × β × γ)) (Q : α → β → γ → Prop) : Prop := ∃ a b c, r = .ok (a, b, c) ∧ Q a b c
def OkT (st : Sto) (x : D) (Q : Bool → Prop) : Prop := ∃ k, truthOf st x = some k ∧ Q k
inductive GetE : En → Nat → D → Prop
  | z {d : D} {env : En} : GetE (some d :: env) 0 d
  | s {d : D} {x : Option D} {env : En} {i : Nat} : GetE env i d → GetE (x :: env) (i + 1) d
inductive SetE : En → Nat → Option D → En → Prop
  | z {d x : Option D} {env : En} : SetE (x :: env) 0 d (d :: env)
  | s {d x : Option D} {env env' : En} {i : Nat} : SetE env i d env' → SetE (x :: env) (i + 1) d (x :: env')
inductive WipeE : En → List Nat → En → Prop
  | z {env : En} : WipeE env [] env
  | s {env env' env'' : En} {v : Nat} {vs : List Nat} : WipeE env vs env' → SetE env' v none env'' → WipeE env (v :: vs) env''
theorem GetE.eq {env : En} {i : Nat} {d : D} (h : GetE env i d) : getV env i = .ok d := by
  induction h with
  | z => rfl
  | s _ ih => unfold getV at ih ⊢; rw [List.getElem?_cons_succ]; exact ih
theorem SetE.eq {env env' : En} {i : Nat} {d : Option D} (h : SetE env i d env') : env.set i d = env' ∧ i < env.length := by
  induction h with
  | z => exact ⟨rfl, by simp⟩
  | s _ ih => exact ⟨by rw [List.set_cons_succ, ih.1], by have := ih.2; simp; omega⟩
theorem WipeE.eq {env env' : En} {vs : List Nat} (h : WipeE env vs env') : wipeE env vs = env' := by
  induction h with
  | z => rfl
  | s _ h ih => rw [wipeE, ih, h.eq.1]
variable {α β γ : Type}
theorem Ok2.mono {r : R (α × β)} {P Q : α → β → Prop} (h : Ok2 r P) (k : ∀ a b, P a b → Q a b) : Ok2 r Q := by
  obtain ⟨a, b, e, p⟩ := h
  exact ⟨a, b, e, k a b p⟩
theorem Ok3.mono {r : R (α × β × γ)} {P Q : α → β → γ → Prop} (h : Ok3 r P) (k : ∀ a b c, P a b c → Q a b c) : Ok3 r Q := by
  obtain ⟨a, b, c, e, p⟩ := h
  exact ⟨a, b, c, e, k a b c p⟩
theorem Ok2.of {r : R (α × β)} {a : α} {b : β} {Q : α → β → Prop} (e : r = .ok (a, b)) (q : Q a b) : Ok2 r Q := ⟨a, b, e, q⟩
theorem Ok2.eq {r : R (α × β)} {a : α} {b : β} (h : Ok2 r fun x y => x = a ∧ y = b) : r = .ok (a, b) := by
  obtain ⟨x, y, e, rfl, rfl⟩ := h
  exact e
theorem b22 {δ ε : Type} {r : R (α × β)} {f : α × β → R (δ × ε)} {Q : δ → ε → Prop} (h : Ok2 r fun a b => Ok2 (f (a, b)) Q) : Ok2 (r.bind f) Q := by
  obtain ⟨a, b, rfl, h⟩ := h
  exact h
theorem b12 {δ ε : Type} {r : R α} {f : α → R (δ × ε)} {Q : δ → ε → Prop} (h : Ok r fun a => Ok2 (f a) Q) : Ok2 (r.bind f) Q := by
  obtain ⟨a, rfl, h⟩ := h
  exact h
theorem b23 {δ ε ζ : Type} {r : R (α × β)} {f : α × β → R (δ × ε × ζ)} {Q : δ → ε → ζ → Prop} (h : Ok2 r fun a b => Ok3 (f (a, b)) Q) : Ok3 (r.bind f) Q := by
  obtain ⟨a, b, rfl, h⟩ := h
  exact h
theorem b13 {δ ε ζ : Type} {r : R α} {f : α → R (δ × ε × ζ)} {Q : δ → ε → ζ → Prop} (h : Ok r fun a => Ok3 (f a) Q) : Ok3 (r.bind f) Q := by
  obtain ⟨a, rfl, h⟩ := h
  exact h
theorem b33 {δ ε ζ : Type} {r : R (α × β × γ)} {f : α × β × γ → R (δ × ε × ζ)} {Q : δ → ε → ζ → Prop} (h : Ok3 r fun a b c => Ok3 (f (a, b, c)) Q) : Ok3 (r.bind f) Q := by
  obtain ⟨a, b, c, rfl, h⟩ := h
  exact h
theorem r2 {a : α} {b : β} {Q : α → β → Prop} (h : Q a b) : Ok2 (.ok (a, b)) Q := ⟨a, b, rfl, h⟩
theorem r3 {a : α} {b : β} {c : γ} {Q : α → β → γ → Prop} (h : Q a b c) : Ok3 (.ok (a, b, c)) Q := ⟨a, b, c, rfl, h⟩
theorem bT2 {δ ε : Type} {st : Sto} {x : D} {f : Bool → R (δ × ε)} {Q : δ → ε → Prop} (h : OkT st x fun k => Ok2 (f k) Q) : Ok2 ((R.of (truthOf st x)).bind f) Q := by
  obtain ⟨k, e, h⟩ := h
  rw [e]
  exact h
theorem ok_ret {r : R α} {a : α} {Q : α → Prop} (e : r = .ok a) (h : Q a) : Ok r Q := ⟨a, e, h⟩
section
variable {C : Cfg} {env env' : En} {st st' : Sto} {Q : D → Sto → Prop}
theorem ok_var {i : Nat} {d : D} (h : GetE env i d) (q : Q d st) : Ok2 (evE C (.var i) env st) Q := by
  rw [evE, h.eq]
  exact r2 q
theorem ok_cst {p : PyData} (q : Q (.v p) st) : Ok2 (evE C (.cst p) env st) Q := r2 q
theorem ok_tup {es : List Ar} (h : Ok2 (evAs C es env st) fun ds st => Ok (mkTup ds) fun d => Q d st) : Ok2 (evE C (.tup es) env st) Q := b22 (h.mono fun _ _ h => b12 (h.mono fun _ q => r2 q))
theorem ok_lst {es : List Ar} (h : Ok2 (evAs C es env st) fun ds st => Ok (mkLst ds) fun d => Q d st) : Ok2 (evE C (.lst es) env st) Q := b22 (h.mono fun _ _ h => b12 (h.mono fun _ q => r2 q))
theorem ok_bin {op : Operator} {a b : E} (h : Ok2 (evE C a env st) fun x st => Ok2 (evE C b env st) fun y st => Ok (binop st op x y) fun d => Q d st) : Ok2 (evE C (.bin op a b) env st) Q :=
  b22 (h.mono fun _ _ h => b22 (h.mono fun _ _ h => b12 (h.mono fun _ q => r2 q)))
theorem ok_neg {a : E} (h : Ok2 (evE C a env st) fun x st => ∃ i, x = .v (.int i) ∧ Q (.v (.int (-i))) st) : Ok2 (evE C (.neg a) env st) Q := b22 (h.mono fun _ _ ⟨i, e, q⟩ => by subst e; exact r2 q)
theorem ok_not {a : E} (h : Ok2 (evE C a env st) fun x st => OkT st x fun k => Q (.v (.bool (!k))) st) : Ok2 (evE C (.not a) env st) Q :=
  b22 (h.mono fun _ _ ⟨k, e, q⟩ => bT2 ⟨k, e, r2 q⟩)
theorem ok_and {es : List E} (h : Ok2 (evAnd C es env st) Q) : Ok2 (evE C (.and es) env st) Q := h
theorem ok_or {es : List E} (h : Ok2 (evOr C es env st) Q) : Ok2 (evE C (.or es) env st) Q := h
theorem ok_and1 {a : E} (h : Ok2 (evE C a env st) Q) : Ok2 (evAnd C [a] env st) Q := h
theorem ok_or1 {a : E} (h : Ok2 (evE C a env st) Q) : Ok2 (evOr C [a] env st) Q := h
theorem ok_and2 {a b : E} {es : List E} (h : Ok2 (evE C a env st) fun x st => OkT st x fun k => (k = true → Ok2 (evAnd C (b :: es) env st) Q) ∧ (k = false → Q x st)) : Ok2 (evAnd C (a :: b :: es) env st) Q := by
  rw [evAnd]
  refine b22 (h.mono fun x st ⟨k, e, h1, h2⟩ => bT2 ⟨k, e, ?_⟩)
  cases k with
  | true => exact h1 rfl
  | false => exact r2 (h2 rfl)
theorem ok_or2 {a b : E} {es : List E} (h : Ok2 (evE C a env st) fun x st => OkT st x fun k => (k = true → Q x st) ∧ (k = false → Ok2 (evOr C (b :: es) env st) Q)) : Ok2 (evOr C (a :: b :: es) env st) Q := by
  rw [evOr]
  refine b22 (h.mono fun x st ⟨k, e, h1, h2⟩ => bT2 ⟨k, e, ?_⟩)
  cases k with
  | true => exact r2 (h1 rfl)
  | false => exact h2 rfl
theorem ok_cmp {op : CmpOp} {a b : E} (h : Ok2 (evE C a env st) fun x st => Ok2 (evE C b env st) fun y st => Ok (cmpop st op x y) fun k => Q (.v (.bool k)) st) : Ok2 (evE C (.cmp op a b) env st) Q :=
  b22 (h.mono fun _ _ h => b22 (h.mono fun _ _ h => b12 (h.mono fun _ q => r2 q)))
theorem ok_chain {op op' : CmpOp} {a b c : E} (h : Ok2 (evE C a env st) fun x st => Ok2 (evE C b env st) fun y st => Ok (cmpop st op x y) fun k =>
    (k = true → Ok2 (evE C c env st) fun z st => Ok (cmpop st op' y z) fun k => Q (.v (.bool k)) st) ∧ (k = false → Q (.v (.bool false)) st)) : Ok2 (evE C (.chain op op' a b c) env st) Q := by
  rw [evE]
  refine b22 (h.mono fun _ _ h => b22 (h.mono fun _ _ h => b12 (h.mono fun k ⟨h1, h2⟩ => ?_)))
  cases k with
  | true => exact b22 ((h1 rfl).mono fun _ _ h => b12 (h.mono fun _ q => r2 q))
  | false => exact r2 (h2 rfl)
theorem ok_isN {neg : Bool} {a : E} (h : Ok2 (evE C a env st) fun x st => Q (.v (.bool (if neg then !isNone x else isNone x))) st) : Ok2 (evE C (.isN neg a) env st) Q := b22 (h.mono fun _ _ q => r2 q)
theorem ok_ite {c a b : E} (h : Ok2 (evE C c env st) fun x st => OkT st x fun k => (k = true → Ok2 (evE C a env st) Q) ∧ (k = false → Ok2 (evE C b env st) Q)) : Ok2 (evE C (.ite c a b) env st) Q := by
  rw [evE]
  refine b22 (h.mono fun x st ⟨k, e, h1, h2⟩ => bT2 ⟨k, e, ?_⟩)
  cases k with
  | true => exact h1 rfl
  | false => exact h2 rfl
theorem ok_idx {a i : E} (h : Ok2 (evE C a env st) fun x st => Ok2 (evE C i env st) fun y st => Ok (index st x y) fun d => Q d st) : Ok2 (evE C (.idx a i) env st) Q :=
  b22 (h.mono fun _ _ h => b22 (h.mono fun _ _ h => b12 (h.mono fun _ q => r2 q)))
theorem ok_slice {a : E} {lo hi : Option E} (h : Ok2 (evE C a env st) fun x st => Ok2 (evO C lo env st) fun l st => Ok2 (evO C hi env st) fun u st => Ok (sliced st x l u) fun d => Q d st) : Ok2 (evE C (.slice a lo hi) env st) Q :=
  b22 (h.mono fun _ _ h => b22 (h.mono fun _ _ h => b22 (h.mono fun _ _ h => b12 (h.mono fun _ q => r2 q))))
theorem ok_o0 {Q : Option Int → Sto → Prop} (q : Q none st) : Ok2 (evO C none env st) Q := r2 q
theorem ok_o1 {e : E} {Q : Option Int → Sto → Prop} (h : Ok2 (evE C e env st) fun x st => ∃ i, x = .v (.int i) ∧ Q (some i) st) : Ok2 (evO C (some e) env st) Q := b22 (h.mono fun _ _ ⟨i, e, q⟩ => by subst e; exact r2 q)
theorem ok_rev {a : E} (h : Ok2 (evE C a env st) fun x st => Ok (reversed st x) fun d => Q d st) : Ok2 (evE C (.rev a) env st) Q := b22 (h.mono fun _ _ h => b12 (h.mono fun _ q => r2 q))
theorem ok_call {f : Nat} {es : List E} (h : Ok2 (evEs C es env st) fun ds st => Ok2 (C.call f ds st) Q) : Ok2 (evE C (.call f es) env st) Q := b22 h
theorem ok_blt {b : Bl} {es : List E} (h : Ok2 (evEs C es env st) fun ds st => Ok (blt st b ds) fun d => Q d st) : Ok2 (evE C (.blt b es) env st) Q := b22 (h.mono fun _ _ h => b12 (h.mono fun _ q => r2 q))
theorem ok_lrng {es : List E} (h : Ok2 (evEs C es env st) fun ds st => Ok (rngOf ds) fun xs => Ok (mkLst xs) fun d => Q d st) : Ok2 (evE C (.lrng es) env st) Q := b22 (h.mono fun _ _ h => b12 (h.mono fun _ h => b12 (h.mono fun _ q => r2 q)))
theorem ok_sorted {rev : Bool} {a : E} (h : Ok2 (evE C a env st) fun x st => Ok (sortedOf st rev x) fun d => Q d st) : Ok2 (evE C (.sorted rev a) env st) Q := b22 (h.mono fun _ _ h => b12 (h.mono fun _ q => r2 q))
theorem ok_isa {t : Ty} {a : E} (h : Ok2 (evE C a env st) fun x st => ∃ k, isTy st t x = some k ∧ Q (.v (.bool k)) st) : Ok2 (evE C (.isa t a) env st) Q := by
  rw [evE]
  refine b22 (h.mono fun _ _ ⟨k, e, q⟩ => ?_)
  dsimp only
  rw [e]
  exact r2 q
theorem ok_mt {m : Mt} {o : E} {es : List E} (h : Ok2 (evE C o env st) fun x st => (∃ ds, seqOf st x = some (mtTup m, ds)) ∧ Ok2 (evEs C es env st) fun ds st => Ok2 (meth st m x ds) Q) : Ok2 (evE C (.mt m o es) env st) Q := by
  rw [evE]
  refine b22 (h.mono fun x st ⟨⟨ds, e⟩, h⟩ => ?_)
  dsimp only
  rw [e]
  simp only [R.of_some, R.bind_ok, beq_self_eq_true, if_true]
  exact b22 h
def turnOf (C : Cfg) (elt : E) (t : T) (c : Option E) (env : En) : D → Sto → R (Option D × Sto) := fun x st => (asT C t x env st).bind fun (env', st) => match c with
        | none => (evE C elt env' st).bind fun (d, st) => .ok (some d, st)
        | some c => (evE C c env' st).bind fun (x, st) => (R.of (truthOf st x)).bind fun k =>
            if k then (evE C elt env' st).bind fun (d, st) => .ok (some d, st) else .ok (none, st)
def compOf (C : Cfg) (turn : D → Sto → R (Option D × Sto)) : Src → Sto → R (D × Sto)
  | .items ds, st => compL turn ds st []
  | .live n, st => compV turn n C.lim 0 st []
theorem ok_comp {elt : E} {own : List Nat} {t : T} {it : It} {c : Option E} (hw : WipeE env own env') (h : Ok2 (evIt C it env st) fun src st => Ok2 (compOf C (turnOf C elt t c env') src st) Q) : Ok2 (evE C (.comp elt own t it c) env st) Q := by
  rw [evE]
  refine b22 (h.mono fun src st h => ?_)
  rw [← hw.eq] at h
  cases src with
  | items ds => exact h
  | live n => exact h
theorem ok_turn0 {elt : E} {t : T} {x : D} {Q : Option D → Sto → Prop} (h : Ok2 (asT C t x env st) fun env st => Ok2 (evE C elt env st) fun d st => Q (some d) st) : Ok2 (turnOf C elt t none env x st) Q := b22 (h.mono fun _ _ h => b22 (h.mono fun _ _ q => r2 q))
theorem ok_turn1 {elt c : E} {t : T} {x : D} {Q : Option D → Sto → Prop} (h : Ok2 (asT C t x env st) fun env st => Ok2 (evE C c env st) fun x st => OkT st x fun k => (k = true → Ok2 (evE C elt env st) fun d st => Q (some d) st) ∧ (k = false → Q none st)) : Ok2 (turnOf C elt t (some c) env x st) Q := by
  unfold turnOf
  refine b22 (h.mono fun _ _ h => b22 (h.mono fun x st ⟨k, e, h1, h2⟩ => bT2 ⟨k, e, ?_⟩))
  cases k with
  | true => exact b22 ((h1 rfl).mono fun _ _ q => r2 q)
  | false => exact r2 (h2 rfl)
theorem ok_new {e : E} (h : Ok2 (evE C e env st) fun d st => ∃ xs, d = .v (.list xs) ∧ Q (.ref st.length) (st ++ [.lst (xs.map .v)])) : Ok2 (evE C (.new e) env st) Q := b22 (h.mono fun _ _ ⟨xs, e, q⟩ => by subst e; exact r2 q)
theorem ok_ndct {kvs : List (Str × E)} (h : Ok2 (evKs C kvs env st) fun kvs st => Q (.ref st.length) (st ++ [.dct kvs])) : Ok2 (evE C (.ndct kvs) env st) Q := b22 (h.mono fun _ _ q => r2 q)
theorem ok_k0 {Q : List (Str × D) → Sto → Prop} (q : Q [] st) : Ok2 (evKs C [] env st) Q := r2 q
theorem ok_k1 {k : Str} {e : E} {r : List (Str × E)} {Q : List (Str × D) → Sto → Prop} (h : Ok2 (evE C e env st) fun d st => Ok2 (evKs C r env st) fun ds st => Q ((k, d) :: ds) st) : Ok2 (evKs C ((k, e) :: r) env st) Q := b22 (h.mono fun _ _ h => b22 (h.mono fun _ _ q => r2 q))
theorem ok_es0 {Q : List D → Sto → Prop} (q : Q [] st) : Ok2 (evEs C [] env st) Q := r2 q
theorem ok_es1 {e : E} {r : List E} {Q : List D → Sto → Prop} (h : Ok2 (evE C e env st) fun d st => Ok2 (evEs C r env st) fun ds st => Q (d :: ds) st) : Ok2 (evEs C (e :: r) env st) Q := b22 (h.mono fun _ _ h => b22 (h.mono fun _ _ q => r2 q))
theorem ok_as0 {Q : List D → Sto → Prop} (q : Q [] st) : Ok2 (evAs C [] env st) Q := r2 q
theorem ok_as1 {e : E} {r : List Ar} {Q : List D → Sto → Prop} (h : Ok2 (evE C e env st) fun d st => Ok2 (evAs C r env st) fun ds st => Q (d :: ds) st) : Ok2 (evAs C (.one e :: r) env st) Q := by
  rw [evAs, evA]
  exact b22 (b22 (h.mono fun _ _ h => r2 (b22 (h.mono fun _ _ q => r2 q))))
theorem ok_as2 {e : E} {r : List Ar} {Q : List D → Sto → Prop} (h : Ok2 (evE C e env st) fun x st => ∃ b xs, seqOf st x = some (b, xs) ∧ Ok2 (evAs C r env st) fun ds st => Q (xs ++ ds) st) : Ok2 (evAs C (.star e :: r) env st) Q := by
  rw [evAs, evA]
  refine b22 (b22 (h.mono fun _ _ ⟨b, xs, e, h⟩ => ?_))
  dsimp only
  rw [e]
  exact r2 (b22 (h.mono fun _ _ q => r2 q))
/-! ### what is gone through -/
variable {P : Src → Sto → Prop}
def itOf (st : Sto) : D → R Src
  | .v (.tuple xs) => .ok (.items (xs.map .v))
  | .v (.list xs) => .ok (.items (xs.map .v))
  | .scr ns => .ok (.items (ns.map fun n => .v (.int n)))
  | .ref n => match st[n]? with
    | some (.lst _) => .ok (.live n)
    | _ => .no
  | _ => .no
theorem ok_val {e : E} (h : Ok2 (evE C e env st) fun x st => Ok (itOf st x) fun s => P s st) : Ok2 (evIt C (.val e) env st) P := by
  rw [evIt]
  refine b22 (h.mono fun x st ⟨s, e, p⟩ => ?_)
  unfold itOf at e
  split at e
  · cases e; exact r2 p
  · cases e; exact r2 p
  · cases e; exact r2 p
  · split at e
    · rename_i hx
      cases e
      simp only [hx]
      exact r2 p
    · cases e
  · cases e
theorem ok_rng {es : List E} (h : Ok2 (evEs C es env st) fun ds st => Ok (rngOf ds) fun xs => P (.items xs) st) : Ok2 (evIt C (.rng es) env st) P := b22 (h.mono fun _ _ h => b12 (h.mono fun _ q => r2 q))
theorem ok_enumT {e : E} (h : Ok2 (evE C e env st) fun x st => ∃ xs, (x = .v (.tuple xs) ∨ x = .v (.list xs)) ∧ P (.items (xs.zipIdx.map fun p => .v (.tuple [.int (p.2 : Nat), p.1]))) st) : Ok2 (evIt C (.enum e) env st) P := by
  rw [evIt]
  refine b22 (h.mono fun x st ⟨xs, e, p⟩ => ?_)
  rcases e with rfl | rfl
  · exact r2 p
  · exact r2 p
theorem ok_zip {a b : E} (h : Ok2 (evE C a env st) fun x st => Ok2 (evE C b env st) fun y st => ∃ xs ys, ((x = .v (.tuple xs) ∧ y = .v (.tuple ys)) ∨ (x = .v (.list xs) ∧ y = .v (.list ys))) ∧ P (.items ((xs.zip ys).map fun p => .v (.tuple [p.1, p.2]))) st) : Ok2 (evIt C (.zip a b) env st) P := by
  rw [evIt]
  refine b22 (h.mono fun x st h => b22 (h.mono fun y st ⟨xs, ys, e, p⟩ => ?_))
  rcases e with ⟨rfl, rfl⟩ | ⟨rfl, rfl⟩
  · exact r2 p
  · exact r2 p
/-! ### targets -/
variable {W : En → Sto → Prop}
theorem ok_name {i : Nat} {d : D} (h : SetE env i (some d) env') (q : W env' st) : Ok2 (asT C (.name i) d env st) W := by
  rw [asT, if_pos h.eq.2, h.eq.1]
  exact r2 q
theorem ok_ttup {ts : List T} {xs : List PyData} (hl : xs.length = ts.length) (h : Ok2 (asTs C ts (xs.map .v) env st) W) : Ok2 (asT C (.tup ts) (.v (.tuple xs)) env st) W := by
  rw [asT]
  rw [if_pos hl]
  exact h
theorem ok_sub {o i : E} {d : D} (h : Ok2 (evE C o env st) fun x st => Ok2 (evE C i env st) fun y st => Ok (store st x y d) fun st => W env st) : Ok2 (asT C (.sub o i) d env st) W := b22 (h.mono fun _ _ h => b22 (h.mono fun _ _ h => b12 (h.mono fun _ q => r2 q)))
theorem ok_ts0 (q : W env st) : Ok2 (asTs C [] [] env st) W := r2 q
theorem ok_ts1 {t : T} {ts : List T} {d : D} {ds : List D} (h : Ok2 (asT C t d env st) fun env st => Ok2 (asTs C ts ds env st) W) : Ok2 (asTs C (t :: ts) (d :: ds) env st) W := b22 h
/-! ### statements -/
variable {F : Flow → En → Sto → Prop}
theorem ok_set {t : T} {e : E} (h : Ok2 (evE C e env st) fun d st => Ok2 (asT C t d env st) fun env st => F .nx env st) : Ok3 (exS C (.set t e) env st) F := b23 (h.mono fun _ _ h => b23 (h.mono fun _ _ q => r3 q))
theorem ok_par {ts : List T} {es : List E} (h : Ok2 (evEs C es env st) fun ds st => Ok2 (asTs C ts ds env st) fun env st => F .nx env st) : Ok3 (exS C (.par ts es) env st) F := b23 (h.mono fun _ _ h => b23 (h.mono fun _ _ q => r3 q))
theorem ok_augA {i : Nat} {e : E} {a : Int} (hg : GetE env i (.v (.int a))) (h : Ok2 (evE C e env st) fun y st => ∃ b, y = .v (.int b) ∧ ∃ env', SetE env i (some (.v (.int (a + b)))) env' ∧ F .nx env' st) : Ok3 (exS C (.aug i .Add e) env st) F := by
  rw [exS, hg.eq]
  show Ok3 ((evE C e env st).bind _) F
  refine b23 (h.mono fun _ _ ⟨b, e, env', h, q⟩ => ?_)
  subst e
  simp only
  rw [h.eq.1]
  exact r3 q
theorem ok_expr {e : E} (h : Ok2 (evE C e env st) fun _ st => F .nx env st) : Ok3 (exS C (.expr e) env st) F := b23 (h.mono fun _ _ q => r3 q)
theorem ok_sret {e : E} (h : Ok2 (evE C e env st) fun d st => F (.rt d) env st) : Ok3 (exS C (.ret e) env st) F := b23 (h.mono fun _ _ q => r3 q)
theorem ok_sretN (q : F (.rt (.v .none)) env st) : Ok3 (exS C .retN env st) F := r3 q
theorem ok_site {c : E} {a b : List S} (h : Ok2 (evE C c env st) fun x st => OkT st x fun k => (k = true → Ok3 (exSs C a env st) F) ∧ (k = false → Ok3 (exSs C b env st) F)) : Ok3 (exS C (.ite c a b) env st) F := by
  rw [exS, evT, R.bind_assoc]
  refine b23 (h.mono fun x st ⟨k, e, h1, h2⟩ => ?_)
  dsimp only
  rw [e]
  show Ok3 (if k then _ else _) F
  cases k with
  | true => exact h1 rfl
  | false => exact h2 rfl
def bodyOf (C : Cfg) (t : T) (b : List S) : D → En → Sto → R (Flow × En × Sto) := fun x env st => (asT C t x env st).bind fun (env, st) => exSs C b env st
def forOf (C : Cfg) (body : D → En → Sto → R (Flow × En × Sto)) : Src → En → Sto → R (Flow × En × Sto)
  | .items ds, env, st => forL body ds env st
  | .live n, env, st => forV body n C.lim 0 env st
theorem ok_for {t : T} {it : It} {b : List S} (h : Ok2 (evIt C it env st) fun src st => Ok3 (forOf C (bodyOf C t b) src env st) F) : Ok3 (exS C (.forS t it b) env st) F := by
  rw [exS]
  refine b23 (h.mono fun src st h => ?_)
  cases src with
  | items ds => exact h
  | live n => exact h
theorem ok_body {t : T} {b : List S} {x : D} (h : Ok2 (asT C t x env st) fun env st => Ok3 (exSs C b env st) F) : Ok3 (bodyOf C t b x env st) F := b23 h
theorem ok_while {c : E} {b : List S} (h : Ok3 (whileL (evT C c) (exSs C b) C.lim env st) F) : Ok3 (exS C (.whileS c b) env st) F := h
theorem ok_pass (q : F .nx env st) : Ok3 (exS C .pass env st) F := r3 q
def AndThen (C : Cfg) (r : List S) (F : Flow → En → Sto → Prop) : Flow → En → Sto → Prop
  | .nx, env, st => Ok3 (exSs C r env st) F
  | fl, env, st => F fl env st
theorem ok_s0 (q : F .nx env st) : Ok3 (exSs C [] env st) F := r3 q
theorem ok_s1 {s : S} {r : List S} (h : Ok3 (exS C s env st) (AndThen C r F)) : Ok3 (exSs C (s :: r) env st) F := by
  rw [exSs]
  refine b33 (h.mono fun fl env st h => ?_)
  cases fl with
  | nx => exact h
  | bk => exact r3 h
  | ct => exact r3 h
  | rt d => exact r3 h
  | ex => exact r3 h
theorem at_ex {r : List S} (h : F .ex env st) : AndThen C r F .ex env st := h
theorem at_nx {r : List S} (h : Ok3 (exSs C r env st) F) : AndThen C r F .nx env st := h
theorem at_rt {r : List S} {d : D} (h : F (.rt d) env st) : AndThen C r F (.rt d) env st := h
/-! ### truth -/
variable {B : Bool → Prop}
theorem okt_b {b : Bool} (h : B b) : OkT st (.v (.bool b)) B := ⟨b, rfl, h⟩
theorem okt_i {i : Int} (h : B (i != 0)) : OkT st (.v (.int i)) B := ⟨_, rfl, h⟩
theorem okt_t {xs : List PyData} (h : B (!xs.isEmpty)) : OkT st (.v (.tuple xs)) B := ⟨_, by simp [truthOf, seqOf], h⟩
theorem okt_l {xs : List PyData} (h : B (!xs.isEmpty)) : OkT st (.v (.list xs)) B := ⟨_, by simp [truthOf, seqOf], h⟩
/-! ### small operators -/
variable {G : D → Prop}
theorem op_add {i j : Int} (h : G (.v (.int (i + j)))) : Ok (binop st .Add (.v (.int i)) (.v (.int j))) G := ⟨_, rfl, h⟩
theorem op_sub {i j : Int} (h : G (.v (.int (i - j)))) : Ok (binop st .Sub (.v (.int i)) (.v (.int j))) G := ⟨_, rfl, h⟩
theorem op_mod {i j : Int} (hj : j ≠ 0) (h : G (.v (.int (i.fmod j)))) : Ok (binop st .Mod (.v (.int i)) (.v (.int j))) G := ⟨_, by simp [binop, binI, hj], h⟩
theorem op_and {i j : Int} (h : G (.v (.int (Builtin.bitAnd i j)))) : Ok (binop st .BitAnd (.v (.int i)) (.v (.int j))) G := ⟨_, rfl, h⟩
theorem op_lt2 {i j : Int} (h : B (decide (i < j))) : Ok (cmpop st .Lt (.v (.int i)) (.v (.int j))) B := ⟨_, rfl, h⟩
theorem op_le2 {i j : Int} (h : B (decide (i ≤ j))) : Ok (cmpop st .LtE (.v (.int i)) (.v (.int j))) B := ⟨_, rfl, h⟩
theorem op_gt2 {i j : Int} (h : B (decide (j < i))) : Ok (cmpop st .Gt (.v (.int i)) (.v (.int j))) B := ⟨_, rfl, h⟩
theorem op_ge2 {i j : Int} (h : B (decide (j ≤ i))) : Ok (cmpop st .GtE (.v (.int i)) (.v (.int j))) B := ⟨_, rfl, h⟩
theorem shaped_int (i : Int) : SeqAt.shaped (.int i) = true := rfl
theorem op_eq2 {i j : Int} (h : B (decide (i = j))) : Ok (cmpop st .Eq (.v (.int i)) (.v (.int j))) B := ⟨_, by
  have : cmpop st .Eq (.v (.int i)) (.v (.int j)) = .ok (i == j) := rfl
  rw [this]
  congr 1, h⟩
theorem op_ne2 {i j : Int} (h : B (!decide (i = j))) : Ok (cmpop st .NotEq (.v (.int i)) (.v (.int j))) B := ⟨_, by
  have : cmpop st .NotEq (.v (.int i)) (.v (.int j)) = .ok (!(i == j)) := rfl
  rw [this]
  congr 2, h⟩
theorem op_eqS {s t : Str} (h : B (decide (s = t))) : Ok (cmpop st .Eq (.v (.str s)) (.v (.str t))) B := ⟨_, rfl, h⟩
theorem op_neS {s t : Str} (h : B (!decide (s = t))) : Ok (cmpop st .NotEq (.v (.str s)) (.v (.str t))) B := ⟨_, rfl, h⟩
theorem bl_intb {b : Bool} (h : G (.v (.int (if b then 1 else 0)))) : Ok (blt st .int [.v (.bool b)]) G := ⟨_, rfl, h⟩
theorem bl_inti {i : Int} (h : G (.v (.int i))) : Ok (blt st .int [.v (.int i)]) G := ⟨_, rfl, h⟩
theorem bl_lenT {xs : List PyData} (h : G (.v (.int (xs.length : Nat)))) : Ok (blt st .len [.v (.tuple xs)]) G := ⟨_, by simp [blt, lenOf, seqOf], h⟩
theorem bl_lenL {xs : List PyData} (h : G (.v (.int (xs.length : Nat)))) : Ok (blt st .len [.v (.list xs)]) G := ⟨_, by simp [blt, lenOf, seqOf], h⟩
theorem bl_abs {i : Int} (h : G (.v (.int (if i < 0 then -i else i)))) : Ok (blt st .abs [.v (.int i)]) G := ⟨_, rfl, h⟩
theorem bl_max {i j : Int} (h : G (.v (.int (if j > i then j else i)))) : Ok (blt st .max2 [.v (.int i), .v (.int j)]) G := ⟨_, rfl, h⟩
theorem bl_min {i j : Int} (h : G (.v (.int (if j < i then j else i)))) : Ok (blt st .min2 [.v (.int i), .v (.int j)]) G := ⟨_, rfl, h⟩
theorem bl_tupL {xs : List PyData} (hs : xs.length ≤ 16777216) (h : G (.v (.tuple xs))) : Ok (blt st .tuple [.v (.list xs)]) G := ⟨_, blt_tuple_l hs, h⟩
theorem bl_lisT {xs : List PyData} (hs : xs.length ≤ 16777216) (h : G (.v (.list xs))) : Ok (blt st .list [.v (.tuple xs)]) G := ⟨_, blt_list_t hs, h⟩
theorem bl_lisL {xs : List PyData} (hs : xs.length ≤ 16777216) (h : G (.v (.list xs))) : Ok (blt st .list [.v (.list xs)]) G := ⟨_, blt_list_l hs, h⟩
theorem mk_tup {ps : List PyData} {ds : List D} (e : plains ds = some ps) (hs : ps.length ≤ 16777216) (h : G (.v (.tuple ps))) : Ok (mkTup ds) G := ⟨_, by simp [mkTup, e, small_le hs], h⟩
theorem mk_lst {ps : List PyData} {ds : List D} (e : plains ds = some ps) (hs : ps.length ≤ 16777216) (h : G (.v (.list ps))) : Ok (mkLst ds) G := ⟨_, by simp [mkLst, e, small_le hs], h⟩
theorem ix_ref {n : Nat} {kvs : List (Str × D)} {s : Str} {d : D} (h1 : st[n]? = some (.dct kvs)) (h2 : kvs.lookup s = some d) (h : G d) : Ok (index st (.ref n) (.v (.str s))) G := ⟨d, by simp [index, index0, dAt, objOf, dGet, h1, h2], h⟩
theorem it_tup {xs : List PyData} {P : Src → Prop} (h : P (.items (xs.map .v))) : Ok (itOf st (.v (.tuple xs))) P := ⟨_, rfl, h⟩
theorem it_lst {xs : List PyData} {P : Src → Prop} (h : P (.items (xs.map .v))) : Ok (itOf st (.v (.list xs))) P := ⟨_, rfl, h⟩
theorem rng_one {n : Nat} {P : List D → Prop} (hn : n < 2 ^ 60) (h : P ((List.range n).map fun i => D.v (.int (i : Nat)))) : Ok (rngOf [.v (.int (n : Nat))]) P := by
  refine ⟨_, ?_, h⟩
  have : rngOk (n : Int) = true := by simp [rngOk]; omega
  simp [rngOf, this, rngI_zero]
theorem op_addT {xs ys : List PyData} (hs : xs.length + ys.length ≤ 16777216) (h : G (.v (.tuple (xs ++ ys)))) : Ok (binop st .Add (.v (.tuple xs)) (.v (.tuple ys))) G := ⟨_, by simp [binop, small_le hs], h⟩
theorem op_addL {xs ys : List PyData} (hs : xs.length + ys.length ≤ 16777216) (h : G (.v (.list (xs ++ ys)))) : Ok (binop st .Add (.v (.list xs)) (.v (.list ys))) G := ⟨.v (.list (xs ++ ys)), by
  have e : binop st .Add (.v (.list xs)) (.v (.list ys)) = if small ((xs.map D.v).length + (ys.map D.v).length) then mkLst (xs.map D.v ++ ys.map D.v) else .no := rfl
  rw [e, List.length_map, List.length_map, if_pos (small_le hs), ← List.map_append, mkLst_mapV (by simpa using hs)], h⟩
/-! ### comprehensions over plain items -/
theorem co_map {ι : Type} {turn : D → Sto → R (Option D × Sto)} {e : ι → D} {g : ι → PyData} {xs : List ι} (hl : xs.length ≤ 16777216) (ht : ∀ x ∈ xs, Ok2 (turn (e x) st) fun o st' => o = some (.v (g x)) ∧ st' = st) (h : Q (.v (.list (xs.map g))) st) : Ok2 (compOf C turn (.items (xs.map e)) st) Q := by
  refine .of ?_ h
  show compL turn (xs.map e) st [] = _
  rw [compL_map (g := g) xs [] (fun x hx => (ht x hx).eq) (by simpa using hl)]
  rfl
theorem co_filter {ι : Type} {turn : D → Sto → R (Option D × Sto)} {e : ι → D} {p : ι → Bool} {g : ι → PyData} {xs : List ι} (hl : xs.length ≤ 16777216) (ht : ∀ x ∈ xs, Ok2 (turn (e x) st) fun o st' => o = (if p x then some (.v (g x)) else none) ∧ st' = st) (h : Q (.v (.list ((xs.filter p).map g))) st) : Ok2 (compOf C turn (.items (xs.map e)) st) Q := by
  refine .of ?_ h
  show compL turn (xs.map e) st [] = _
  rw [compL_filter (g := g) (p := p) xs [] (fun x hx => (ht x hx).eq) (by simpa using hl)]
  rfl
theorem co_inv {ι : Type} {turn : D → Sto → R (Option D × Sto)} {e : ι → D} {xs : List ι} (I : List PyData → List ι → Sto → Prop) (hl : xs.length ≤ 16777216) (ht : ∀ x r acc st, I acc (x :: r) st → Ok2 (turn (e x) st) fun o st' => ∃ p, o = some (.v p) ∧ I (acc ++ [p]) r st') (hi : I [] xs st) (h : ∀ ps st, ps.length = xs.length → I ps [] st → Q (.v (.list ps)) st) : Ok2 (compOf C turn (.items (xs.map e)) st) Q := by
  have := compL_inv (turn := turn) (e := e) I xs [] st (fun x r acc st hi => by
    obtain ⟨o, st', e1, p, e2, hi2⟩ := ht x r acc st hi
    exact ⟨(o, st'), e1, p, e2, hi2⟩) hi (by simpa using hl)
  obtain ⟨⟨d, st'⟩, e1, ps, e2, e3, hi2⟩ := this
  simp only at e2
  subst e2
  exact .of e1 (h ps st' (by simpa using e3) hi2)
theorem fo_inv {ι : Type} {body : D → En → Sto → R (Flow × En × Sto)} {e : ι → D} {xs : List ι} (I : List ι → En → Sto → Prop) (ht : ∀ x r env st, I (x :: r) env st → Ok3 (body (e x) env st) fun fl env st => fl = .nx ∧ I r env st) (hi : I xs env st) (h : ∀ env st, I [] env st → F .nx env st) : Ok3 (forOf C body (.items (xs.map e)) env st) F := by
  have := forL_inv (body := body) (e := e) I xs env st (fun x r env st hi => by
    obtain ⟨fl, env', st', e1, e2, hi2⟩ := ht x r env st hi
    exact ⟨(fl, env', st'), e1, e2, hi2⟩) hi
  obtain ⟨⟨fl, env', st'⟩, e1, e2, hi2⟩ := this
  simp only at e2
  subst e2
  exact ⟨_, _, _, e1, h env' st' hi2⟩
theorem wh_inv {test : En → Sto → R (Bool × Sto)} {body : En → Sto → R (Flow × En × Sto)} (I : Nat → En → Sto → Prop) {k : Nat} (m : Nat) (hm : m < k)
    (ht : ∀ m env st, I m env st → Ok2 (test env st) fun b st' => (b = false → F .nx env st') ∧ (b = true → Ok3 (body env st') fun fl env st => fl = .nx ∧ ∃ m', m' < m ∧ I m' env st)) (hi : I m env st) : Ok3 (whileL test body k env st) F := by
  have := whileL_inv (test := test) (body := body) I (F .nx) k m env st hm (fun m env st hi => by
    obtain ⟨b, st', e1, h1, h2⟩ := ht m env st hi
    refine ⟨(b, st'), e1, h1, fun h => ?_⟩
    obtain ⟨fl, env', st'', e2, e3, h3⟩ := h2 h
    exact ⟨(fl, env', st''), e2, e3, h3⟩) hi
  obtain ⟨⟨fl, env', st'⟩, e1, e2, q⟩ := this
  simp only at e2
  subst e2
  exact ⟨_, _, _, e1, q⟩
theorem ok_evT {c : E} {Q : Bool → Sto → Prop} (h : Ok2 (evE C c env st) fun x st => OkT st x fun k => Q k st) : Ok2 (evT C c env st) Q := b22 (h.mono fun _ _ ⟨k, e, q⟩ => bT2 ⟨k, e, r2 q⟩)
end
theorem run_of {P : List FDef} {f : Nat} {fd : FDef} {lim n : Nat} {ds : List D} {st : Sto} {Q : D → Sto → Prop} (hp : P[f]? = some fd) (hl : ds.length = fd.np)
    (h : Ok3 (exSs (cfg P lim n) fd.body (ds.map some ++ List.replicate (fd.nv - fd.np) none) st) fun fl _ st' => ∃ d, fl = .rt d ∧ Ok2 (leave fd.keep st.length d st') Q) : Ok2 (callF P lim (n + 1) f ds st) Q := by
  rw [callF_at hp]
  unfold runDef
  rw [if_pos hl]
  obtain ⟨fl, env, st', e, d, rfl, q⟩ := h
  rw [e]
  exact q
theorem lv_same {m : Nat} {d : D} {st : Sto} {Q : D → Sto → Prop} {keep : Bool} (h : st.length ≤ m) (q : Q d st) : Ok2 (leave keep m d st) Q := .of (leave_same h) q
theorem en_tup {xs : List PyData} {P : List PyData → Prop} (h : P xs) : ∃ ys, (D.v (.tuple xs) = .v (.tuple ys) ∨ D.v (.tuple xs) = .v (.list ys)) ∧ P ys := ⟨xs, .inl rfl, h⟩
theorem en_lst {xs : List PyData} {P : List PyData → Prop} (h : P xs) : ∃ ys, (D.v (.list xs) = .v (.tuple ys) ∨ D.v (.list xs) = .v (.list ys)) ∧ P ys := ⟨xs, .inr rfl, h⟩
theorem zi_tup {xs ys : List PyData} {P : List PyData → List PyData → Prop} (h : P xs ys) : ∃ us vs, ((D.v (.tuple xs) = .v (.tuple us) ∧ D.v (.tuple ys) = .v (.tuple vs)) ∨ (D.v (.tuple xs) = .v (.list us) ∧ D.v (.tuple ys) = .v (.list vs))) ∧ P us vs := ⟨xs, ys, .inl ⟨rfl, rfl⟩, h⟩
theorem is_int {i : Int} {P : Int → Prop} (h : P i) : ∃ j, D.v (.int i) = .v (.int j) ∧ P j := ⟨i, rfl, h⟩
theorem sq_tup {st : Sto} {xs : List PyData} {P : Bool → List D → Prop} (h : P true (xs.map .v)) : ∃ b ds, seqOf st (.v (.tuple xs)) = some (b, ds) ∧ P b ds := ⟨_, _, rfl, h⟩
theorem sq_lst {st : Sto} {xs : List PyData} {P : Bool → List D → Prop} (h : P false (xs.map .v)) : ∃ b ds, seqOf st (.v (.list xs)) = some (b, ds) ∧ P b ds := ⟨_, _, rfl, h⟩
theorem ok_tt2 {C : Cfg} {env : En} {st : Sto} {W : En → Sto → Prop} {t u : T} {a b : PyData} (h : Ok2 (asT C t (.v a) env st) fun env st => Ok2 (asT C u (.v b) env st) W) : Ok2 (asT C (.tup [t, u]) (.v (.tuple [a, b])) env st) W :=
  ok_ttup rfl (ok_ts1 (h.mono fun _ _ h => ok_ts1 (h.mono fun _ _ q => ok_ts0 q)))
theorem ok_tt3 {C : Cfg} {env : En} {st : Sto} {W : En → Sto → Prop} {t u v : T} {a b c : PyData} (h : Ok2 (asT C t (.v a) env st) fun env st => Ok2 (asT C u (.v b) env st) fun env st => Ok2 (asT C v (.v c) env st) W) : Ok2 (asT C (.tup [t, u, v]) (.v (.tuple [a, b, c])) env st) W :=
  ok_ttup rfl (ok_ts1 (h.mono fun _ _ h => ok_ts1 (h.mono fun _ _ h => ok_ts1 (h.mono fun _ _ q => ok_ts0 q))))
theorem qx_tup {st : Sto} {xs : List PyData} {k : Nat} {p : PyData} {G : D → Prop} (h : xs[k]? = some p) (g : G (.v p)) : Ok (index st (.v (.tuple xs)) (.v (.int (k : Nat)))) G := by
  refine ⟨_, ?_, g⟩
  have e : index st (.v (.tuple xs)) (.v (.int (k : Nat))) = R.of (atI (xs.map D.v) (k : Int)) := rfl
  rw [e, Vi.atI_nat]
  simp [h]
theorem qx_lst {st : Sto} {xs : List PyData} {k : Nat} {p : PyData} {G : D → Prop} (h : xs[k]? = some p) (g : G (.v p)) : Ok (index st (.v (.list xs)) (.v (.int (k : Nat)))) G := by
  refine ⟨_, ?_, g⟩
  have e : index st (.v (.list xs)) (.v (.int (k : Nat))) = R.of (atI (xs.map D.v) (k : Int)) := rfl
  rw [e, Vi.atI_nat]
  simp [h]
section
variable {C : Cfg} {env env' : En} {st : Sto} {Q : D → Sto → Prop} {G : D → Prop} {F : Flow → En → Sto → Prop} {B : Bool → Prop}
theorem ok_gint {x : Str} {i : Int} (q : Q (.v (.int i)) st) : Ok2 (evE C (.gint x i) env st) Q := r2 q
theorem ok_ndT (q : Q (.ref st.length) (st ++ [.dt false []])) : Ok2 (evE C (.nd true) env st) Q := r2 q
theorem ok_ndK (q : Q (.ref st.length) (st ++ [.dk false []])) : Ok2 (evE C (.nd false) env st) Q := r2 q
theorem ok_nd1T {k v : E} (h : Ok2 (evE C k env st) fun x st => Ok2 (evE C v env st) fun y st => ∃ p ks, x = .v p ∧ toKeys p = some ks ∧ Q (.ref st.length) (st ++ [.dt false [(ks, y)]])) : Ok2 (evE C (.nd1 true k v) env st) Q := by
  rw [evE]
  refine b22 (h.mono fun x st h => b22 (h.mono fun y st ⟨p, ks, e, hk, q⟩ => ?_))
  subst e
  simp only [if_true, hk, R.of_some, R.bind_ok]
  exact r2 q
theorem ok_dpairs {e : E} (h : Ok2 (evE C e env st) fun x st => ∃ ps kvs, x = .v (.list ps) ∧ pairKs ps = some kvs ∧ Q (.ref st.length) (st ++ [.dk false (kmerge kvs)])) : Ok2 (evE C (.dpairs e) env st) Q := by
  rw [evE]
  refine b22 (h.mono fun x st ⟨ps, kvs, e, hk, q⟩ => ?_)
  subst e
  simp only [seqOf, plains_map, hk, R.of_some, R.bind_ok]
  exact r2 q
theorem ok_augM {i : Nat} {e : E} {a : Int} (hg : GetE env i (.v (.int a))) (h : Ok2 (evE C e env st) fun y st => ∃ b, y = .v (.int b) ∧ mulOk a b = true ∧ ∃ env', SetE env i (some (.v (.int (a * b)))) env' ∧ F .nx env' st) : Ok3 (exS C (.aug i .Mult e) env st) F := by
  rw [exS, hg.eq]
  show Ok3 ((evE C e env st).bind _) F
  refine b23 (h.mono fun _ _ ⟨b, e, hm, env', h, q⟩ => ?_)
  subst e
  simp only [hm, if_true]
  rw [h.eq.1]
  exact r3 q
theorem ok_tl2 {W : En → Sto → Prop} {t u : T} {a b : PyData} (h : Ok2 (asT C t (.v a) env st) fun env st => Ok2 (asT C u (.v b) env st) W) : Ok2 (asT C (.tup [t, u]) (.v (.list [a, b])) env st) W := by
  have e : [a, b].length = [t, u].length := rfl
  rw [asT, if_pos e]
  exact ok_ts1 (h.mono fun _ _ h => ok_ts1 (h.mono fun _ _ q => ok_ts0 q))
/-- a loop over a dict's keys -/
theorem ok_forK {ι : Type} {t : T} {i n : Nat} {b : List S} {ks : List (List L2.Key)} {kvs : List (List L2.Key × D)} (I : List (List L2.Key) → En → Sto → Prop) (hg : GetE env i (.ref n)) (hs : st[n]? = some (.dt false kvs))
    (ht : ∀ x r env st, I (x :: r) env st → Ok3 (bodyOf C t b (.v (keyT x)) env st) fun fl env st => fl = .nx ∧ I r env st) (hi : I (kvs.map (·.1)) env (st.set n (.dt true kvs))) (h : ∀ env st, I [] env st → ∃ kvs', st[n]? = some (.dt true kvs') ∧ F .nx env (st.set n (.dt false kvs'))) : Ok3 (exS C (.forK t i b) env st) F := by
  have e : (kvs.map fun kv => keyT kv.1).map D.v = (kvs.map (·.1)).map fun k => D.v (keyT k) := by rw [List.map_map, List.map_map]; rfl
  have := forL_inv (body := bodyOf C t b) (e := fun k => D.v (keyT k)) I (kvs.map (·.1)) env _ (fun x r env st hi => by
    obtain ⟨fl, env', st', e1, e2, hi2⟩ := ht x r env st hi
    exact ⟨(fl, env', st'), e1, e2, hi2⟩) hi
  obtain ⟨⟨fl, env', st'⟩, e1, e2, hi2⟩ := this
  simp only at e2
  subst e2
  obtain ⟨kvs', h1, h2⟩ := h env' st' hi2
  refine ⟨.nx, env', st'.set n (.dt false kvs'), ?_, h2⟩
  rw [exS, hg.eq]
  simp only [R.bind_ok, hs, Option.bind_some, lockO, e]
  show ((forL (bodyOf C t b) _ env _).bind _) = _
  rw [e1]
  simp only [R.bind_ok, h1, Option.bind_some, unlockO, notEx, if_true]
theorem to_dt {n : Nat} {kvs : List (List L2.Key × D)} {p : PyData} {k : List L2.Key} {d : D} {P : Sto → Prop} (hx : st[n]? = some (.dt false kvs)) (hk : toKeys p = some k) (hl : kvs.length < 16777216) (h : P (st.set n (.dt false (kput kvs k d)))) : Ok (store st (.ref n) (.v p) d) P := by
  refine ⟨_, ?_, h⟩
  have : kvs.length < sizeLine := hl
  simp [store, hx, dPut, hk, this]
theorem bl_lenDT {n : Nat} {kvs : List (List L2.Key × D)} (hx : st[n]? = some (.dt false kvs)) (h : G (.v (.int (kvs.length : Nat)))) : Ok (blt st .len [.ref n]) G := ⟨_, by simp [blt, lenOf, seqOf, hx, keysOf, objOf, dKeys], h⟩
theorem bl_lenDK {n : Nat} {kvs : List (L2.Key × D)} (hx : st[n]? = some (.dk false kvs)) (h : G (.v (.int (kvs.length : Nat)))) : Ok (blt st .len [.ref n]) G := ⟨_, by simp [blt, lenOf, seqOf, hx, keysOf, objOf, dKeys], h⟩
theorem so_dt {n : Nat} {kvs : List (List L2.Key × D)} {ps : List PyData} (hx : st[n]? = some (.dt false kvs)) (hp : ps = kvs.map fun kv => keyT kv.1) (hs : sortOk ps = true) (h : G (.v (.list (ps.mergeSort (PySem.W.dataLe false id))))) : Ok (sortedOf st false (.ref n)) G := by
  refine ⟨_, ?_, h⟩
  have e : keysT st (.ref n) = some ps := by simp [keysT, objOf, hx, tKeys, hp]
  have e0 : keysI st (.ref n) = none := by simp [keysI, objOf, hx]
  unfold sortedOf
  rw [e0]
  simp only
  unfold sortedOf0
  rw [e]
  simp [hs]
theorem bl_sum {ns : List Int} (h : G (.v (.int ns.sum))) : Ok (blt st .sum [.v (.list (ns.map .int))]) G := by
  refine ⟨_, ?_, h⟩
  have : ∀ ns : List Int, intsOf (ns.map .int) = some ns := by
    intro ns
    induction ns with
    | nil => rfl
    | cons n ns ih => simp [intsOf, ih]
  simp only [blt, seqOf, plains_map, this, R.of_some, R.bind_ok]
theorem op_repT {xs : List PyData} {k : Nat} (h1 : 1 ≤ k) (h2 : k ≤ 1000) (h3 : xs.length ≤ 1000) (h : G (.v (.tuple (List.replicate k xs).flatten))) : Ok (binop st .Mult (.v (.tuple xs)) (.v (.int (k : Nat)))) G := by
  refine ⟨_, ?_, h⟩
  have e : binop st .Mult (.v (.tuple xs)) (.v (.int (k : Nat))) = if decide (0 ≤ (k : Int)) && decide ((k : Int) ≤ 1000) && decide (xs.length ≤ 1000) then .ok (.v (.tuple (List.replicate (k : Int).toNat xs).flatten)) else .no := rfl
  rw [e, if_pos (by simp; omega), Int.toNat_natCast]
theorem ok_trng {es : List E} (h : Ok2 (evEs C es env st) fun ds st => Ok (rngOf ds) fun xs => Ok (mkTup xs) fun d => Q d st) : Ok2 (evE C (.trng es) env st) Q :=
  b22 (h.mono fun _ _ h => b12 (h.mono fun _ h => b12 (h.mono fun _ q => r2 q)))
theorem ok_rngD {a b : E} {P : Src → Sto → Prop} (h : Ok2 (evE C a env st) fun x st => Ok2 (evE C b env st) fun y st => Ok (rngDOf [x, y]) fun xs => P (.items xs) st) : Ok2 (evIt C (.rngD a b) env st) P :=
  b22 (h.mono fun _ _ h => b22 (h.mono fun _ _ h => b12 (h.mono fun _ q => r2 q)))
theorem ok_raise (q : F .ex env st) : Ok3 (exS C .raise env st) F := r3 q
theorem ok_augS {o i e : E} {op : Operator} (h : Ok2 (evE C o env st) fun x st => Ok2 (evE C i env st) fun y st => ∃ a, getI st x y = some a ∧ Ok2 (evE C e env st) fun w st => ∃ b, w = .v (.int b) ∧ ((op = .Add ∧ ∃ st', setI st x y (a + b) = some st' ∧ F .nx env st') ∨ (op = .Sub ∧ ∃ st', setI st x y (a - b) = some st' ∧ F .nx env st'))) : Ok3 (exS C (.augS o i op e) env st) F := by
  rw [exS]
  refine b23 (h.mono fun x st h => b23 (h.mono fun y st h => ?_))
  obtain ⟨a, ha, h⟩ := h
  dsimp only
  rw [ha]
  simp only [R.of_some, R.bind_ok]
  refine b23 (h.mono fun w st h => ?_)
  obtain ⟨b, rfl, h⟩ := h
  dsimp only
  rcases h with ⟨rfl, st', hs, q⟩ | ⟨rfl, st', hs, q⟩
  · simp only [hs, R.of_some, R.bind_ok]; exact r3 q
  · simp only [hs, R.of_some, R.bind_ok]; exact r3 q
theorem gi_ref {n k : Nat} {xs : List D} {a : Int} (hx : st[n]? = some (.lst xs)) (h : xs[k]? = some (.v (.int a))) : getI st (.ref n) (.v (.int (k : Nat))) = some a := by
  simp [getI, hx, atI_nat, h, toInt]
theorem si_ref {n k : Nat} {xs : List D} {z : Int} (hx : st[n]? = some (.lst xs)) (h : k < xs.length) : setI st (.ref n) (.v (.int (k : Nat))) z = some (st.set n (.lst (xs.set k (.v (.int z))))) := by
  have : ixN xs.length (k : Int) = some k := by
    unfold ixN
    simp [h]
  simp [setI, hx, this]
/-- xs[k] += b -/
theorem ok_augL {o i e : E} {n k : Nat} {xs : List D} {a : Int} (ho : Ok2 (evE C o env st) fun x s => x = .ref n ∧ s = st) (hi : Ok2 (evE C i env st) fun x s => x = .v (.int (k : Nat)) ∧ s = st) (hx : st[n]? = some (.lst xs)) (ha : xs[k]? = some (.v (.int a)))
    (he : Ok2 (evE C e env st) fun w s => s = st ∧ ∃ b, w = .v (.int b) ∧ F .nx env (st.set n (.lst (xs.set k (.v (.int (a + b))))))) : Ok3 (exS C (.augS o i .Add e) env st) F := by
  refine ok_augS (ho.mono fun x s h => ?_)
  obtain ⟨rfl, rfl⟩ := h
  refine hi.mono fun y s h => ?_
  obtain ⟨rfl, rfl⟩ := h
  refine ⟨a, gi_ref hx ha, he.mono fun w s h => ?_⟩
  obtain ⟨rfl, b, rfl, q⟩ := h
  exact ⟨b, rfl, .inl ⟨rfl, _, si_ref hx (List.getElem?_eq_some_iff.mp ha).1, q⟩⟩
theorem ok_try {w : Bool} {f : Nat} {es : List E} (h : Ok2 (evEs C es env st) fun ds st => Ok2 (C.callX f ds st) fun o st => match o with
    | some d => if w then Ok (mkLst [d]) fun d => F (.rt d) env st else F (.rt d) env st
    | none => F (.rt (.v (if w then .list [] else .none))) env st) : Ok3 (exS C (.tryR w f es) env st) F := by
  rw [exS]
  refine b23 (h.mono fun ds st h => b23 (h.mono fun o st h => ?_))
  cases o with
  | some d =>
    cases w with
    | true =>
      obtain ⟨x, e, q⟩ := h
      simp only [if_true, e, R.bind_ok]
      exact r3 q
    | false => exact r3 h
  | none => exact r3 h
theorem rngDn_map (i j : Int) : rngDn i j = (List.range (i - j).toNat).map fun k => D.v (.int (i - (k : Nat))) := rfl
theorem op_repT0 {xs : List PyData} {k : Nat} (h2 : k ≤ 1000) (h3 : xs.length ≤ 1000) (h : G (.v (.tuple (List.replicate k xs).flatten))) : Ok (binop st .Mult (.v (.tuple xs)) (.v (.int (k : Nat)))) G := by
  refine ⟨_, ?_, h⟩
  have e : binop st .Mult (.v (.tuple xs)) (.v (.int (k : Nat))) = if decide (0 ≤ (k : Int)) && decide ((k : Int) ≤ 1000) && decide (xs.length ≤ 1000) then .ok (.v (.tuple (List.replicate (k : Int).toNat xs).flatten)) else .no := rfl
  rw [e, if_pos (by simp; omega), Int.toNat_natCast]
end
theorem runX_of {P : List FDef} {f : Nat} {fd : FDef} {lim n : Nat} {ds : List D} {st : Sto} {Q : Option D → Sto → Prop} (hp : P[f]? = some fd) (hl : ds.length = fd.np)
    (h : Ok3 (exSs (cfg P lim n) fd.body (ds.map some ++ List.replicate (fd.nv - fd.np) none) st) fun fl _ st' => (∃ d, fl = .rt d ∧ Ok2 (leave fd.keep st.length d st') fun d st => Q (some d) st) ∨ (fl = .ex ∧ Ok2 (leave false st.length (.v .none) st') fun _ st => Q none st)) : Ok2 (callX P lim (n + 1) f ds st) Q := by
  have e : callX P lim (n + 1) f ds st = runDefX (cfg P lim n) fd ds st := by rw [callX, hp]
  rw [e]
  unfold runDefX
  rw [if_pos hl]
  obtain ⟨fl, env, st', e, h⟩ := h
  rw [e]
  rcases h with ⟨d, rfl, x, s, e2, q⟩ | ⟨rfl, x, s, e2, q⟩
  · simp only [R.bind_ok, e2]; exact r2 q
  · simp only [R.bind_ok, e2]; exact r2 q
end Vi
set_option Elab.async false
set_option linter.all false
set_option maxRecDepth 100000
set_option autoImplicit false
/-! Wb: rows of bits, their spans, reduced lots. -/
namespace F2
abbrev Row := List Bool
def bit (a : Row) (p : Nat) : Bool := a.getD p false
def xr (a b : Row) : Row := List.zipWith (fun x y => x ^^ y) a b
def zeros (n : Nat) : Row := List.replicate n false
theorem xr_len {a b : Row} (h : a.length = b.length) : (xr a b).length = a.length := by simp [xr, h]
theorem xr_len' {n : Nat} {a b : Row} (h : a.length = n) (h' : b.length = n) : (xr a b).length = n := by simp [xr, h, h']
theorem bit_xr {a b : Row} (h : a.length = b.length) (p : Nat) : bit (xr a b) p = (bit a p ^^ bit b p) := by
  induction a generalizing b p with
  | nil => cases b with | nil => simp [bit, xr] | cons _ _ => simp at h
  | cons x a ih =>
    cases b with
    | nil => simp at h
    | cons y b =>
      cases p with
      | zero => simp [bit, xr]
      | succ p =>
        have := ih (b := b) (by simpa using h) p
        simpa [bit, xr] using this
theorem bit_zeros (n p : Nat) : bit (zeros n) p = false := by
  unfold bit zeros
  rw [List.getD_eq_getElem?_getD, List.getElem?_replicate]
  split <;> rfl
theorem bit_out {a : Row} {p : Nat} (h : a.length ≤ p) : bit a p = false := by
  simp [bit, List.getElem?_eq_none h]
theorem zeros_len (n : Nat) : (zeros n).length = n := by simp [zeros]
theorem row_ext {a b : Row} (h : a.length = b.length) (e : ∀ p, bit a p = bit b p) : a = b := by
  apply List.ext_getElem h
  intro i h1 h2
  have := e i
  simpa [bit, h1, h2] using this
theorem xr_comm (a b : Row) : xr a b = xr b a := by
  unfold xr
  rw [List.zipWith_comm]
  congr 1
  funext x y
  exact Bool.xor_comm _ _
theorem xr_zeros {n : Nat} {a : Row} (h : a.length = n) : xr a (zeros n) = a := by
  apply row_ext (xr_len (by simp [h, zeros_len]))
  intro p
  rw [bit_xr (by simp [h, zeros_len]), bit_zeros, Bool.xor_false]
theorem zeros_xr {n : Nat} {a : Row} (h : a.length = n) : xr (zeros n) a = a := by rw [xr_comm, xr_zeros h]
theorem xr_self {n : Nat} {a : Row} (h : a.length = n) : xr a a = zeros n := by
  apply row_ext (by rw [xr_len rfl, h, zeros_len])
  intro p
  rw [bit_xr rfl, bit_zeros, Bool.xor_self]
theorem xr_assoc {n : Nat} {a b c : Row} (ha : a.length = n) (hb : b.length = n) (hc : c.length = n) : xr (xr a b) c = xr a (xr b c) := by
  apply row_ext (by simp [xr, ha, hb, hc])
  intro p
  rw [bit_xr (by rw [xr_len' ha hb, hc]), bit_xr (by rw [ha, hb]), bit_xr (by rw [ha, xr_len' hb hc]), bit_xr (by rw [hb, hc]), Bool.xor_assoc]
theorem xr_cancel {n : Nat} {a b : Row} (ha : a.length = n) (hb : b.length = n) : xr (xr a b) b = a := by
  rw [xr_assoc ha hb hb, xr_self hb, xr_zeros ha]
/-! ### parity -/
def par (l : List Bool) : Bool := l.foldr xor false
theorem par_cons (x : Bool) (l : List Bool) : par (x :: l) = (x ^^ par l) := rfl
theorem par_false {α : Type} {l : List α} {f : α → Bool} (h : ∀ x ∈ l, f x = false) : par (l.map f) = false := by
  induction l with
  | nil => rfl
  | cons x l ih =>
    rw [List.map_cons, par_cons, h x (by simp), ih fun y hy => h y (by simp [hy])]
    rfl
theorem par_xor {α : Type} (l : List α) (f g : α → Bool) : par (l.map fun x => f x ^^ g x) = (par (l.map f) ^^ par (l.map g)) := by
  induction l with
  | nil => rfl
  | cons x l ih =>
    simp only [List.map_cons, par_cons, ih]
    cases f x <;> cases g x <;> cases par (l.map f) <;> cases par (l.map g) <;> rfl
theorem par_true {α : Type} {l : List α} {f : α → Bool} (h : par (l.map f) = true) : ∃ x ∈ l, f x = true := by
  induction l with
  | nil => cases h
  | cons x l ih =>
    rw [List.map_cons, par_cons] at h
    cases hx : f x with
    | true => exact ⟨x, by simp, hx⟩
    | false =>
      rw [hx, Bool.false_xor] at h
      obtain ⟨y, hy, e⟩ := ih h
      exact ⟨y, by simp [hy], e⟩
theorem par_filter {α : Type} (l : List α) (c f : α → Bool) : par ((l.filter c).map f) = par (l.map fun x => c x && f x) := by
  induction l with
  | nil => rfl
  | cons x l ih =>
    rw [List.filter_cons]
    cases hc : c x with
    | true => simp only [if_true, List.map_cons, par_cons, ih, hc, Bool.true_and]
    | false => simp only [Bool.false_eq_true, if_false, List.map_cons, par_cons, ih, hc, Bool.false_and, Bool.false_xor]
/-! ### sums -/
def sumFrom (a : Row) (l : List Row) : Row := l.foldl xr a
def sumR (n : Nat) (l : List Row) : Row := sumFrom (zeros n) l
theorem sumFrom_len {n : Nat} {l : List Row} (h : ∀ a ∈ l, a.length = n) : ∀ {z : Row}, z.length = n → (sumFrom z l).length = n := by
  induction l with
  | nil => exact fun h => h
  | cons a l ih => exact fun {z} hz => ih (fun b hb => h b (by simp [hb])) (xr_len' hz (h a (by simp)))
theorem bit_sumFrom {n : Nat} {l : List Row} (h : ∀ a ∈ l, a.length = n) (p : Nat) : ∀ {z : Row}, z.length = n → bit (sumFrom z l) p = (bit z p ^^ par (l.map fun a => bit a p)) := by
  induction l with
  | nil => exact fun {z} _ => by simp [sumFrom, par]
  | cons a l ih =>
    intro z hz
    have ha := h a (by simp)
    have := ih (fun b hb => h b (by simp [hb])) (xr_len' hz ha)
    rw [sumFrom, List.foldl_cons] at *
    rw [this, bit_xr (by rw [hz, ha]), List.map_cons, par_cons, Bool.xor_assoc]
theorem sumR_len {n : Nat} {l : List Row} (h : ∀ a ∈ l, a.length = n) : (sumR n l).length = n := sumFrom_len h (zeros_len n)
theorem bit_sumR {n : Nat} {l : List Row} (h : ∀ a ∈ l, a.length = n) (p : Nat) : bit (sumR n l) p = par (l.map fun a => bit a p) := by
  unfold sumR
  rw [bit_sumFrom h p (zeros_len n), bit_zeros, Bool.false_xor]
/-! ### the first one -/
def has (a : Row) : Prop := true ∈ a
instance (a : Row) : Decidable (has a) := inferInstanceAs (Decidable (true ∈ a))
def lead (a : Row) : Nat := a.idxOf true
theorem lead_lt {a : Row} (h : has a) : lead a < a.length := List.idxOf_lt_length_iff.mpr h
theorem bit_lead {a : Row} (h : has a) : bit a (lead a) = true := by
  have h1 := lead_lt h
  simp only [bit, List.getD_eq_getElem?_getD, List.getElem?_eq_getElem h1, Option.getD_some]
  exact List.getElem_idxOf h1
theorem bit_before {a : Row} {p : Nat} (h : p < lead a) : bit a p = false := by
  by_cases h1 : p < a.length
  · have h2 : a[p] ≠ true := by
      intro e
      have : ¬ ((a[p]) == true) = true := by
        have := List.not_of_lt_findIdx (p := fun x => x == true) (xs := a) (i := p) h
        simpa using this
      exact this (by simp [e])
    simp only [bit, List.getD_eq_getElem?_getD, List.getElem?_eq_getElem h1, Option.getD_some]
    simpa using h2
  · exact bit_out (by omega)
theorem has_of_bit {a : Row} {p : Nat} (h : bit a p = true) : has a := by
  by_cases h1 : p < a.length
  · simp only [bit, List.getD_eq_getElem?_getD, List.getElem?_eq_getElem h1, Option.getD_some] at h
    have := List.getElem_mem h1
    rwa [h] at this
  · rw [bit_out (by omega)] at h
    cases h
theorem lead_le {a : Row} {p : Nat} (h : bit a p = true) : lead a ≤ p := by
  by_cases h1 : p < lead a
  · rw [bit_before h1] at h
    cases h
  · omega
theorem lead_eq {a : Row} {p : Nat} (h : bit a p = true) (hb : ∀ q, q < p → bit a q = false) : lead a = p := by
  have h1 := lead_le h
  by_cases h2 : lead a = p
  · exact h2
  · have := hb (lead a) (by omega)
    rw [bit_lead (has_of_bit h)] at this
    cases this
theorem zeros_of {n : Nat} {a : Row} (h : a.length = n) (hn : ¬ has a) : a = zeros n := by
  apply row_ext (by rw [h, zeros_len])
  intro p
  rw [bit_zeros]
  cases e : bit a p with
  | false => rfl
  | true => exact absurd (has_of_bit e) hn
theorem not_has_zeros (n : Nat) : ¬ has (zeros n) := by
  intro h
  have := bit_lead h
  rw [bit_zeros] at this
  cases this
/-! ### spans -/
inductive Sp (n : Nat) (B : List Row) : Row → Prop
  | zero : Sp n B (zeros n)
  | add {b v : Row} : b ∈ B → Sp n B v → Sp n B (xr b v)
def Len (n : Nat) (B : List Row) : Prop := ∀ b ∈ B, b.length = n
theorem Sp.len {n : Nat} {B : List Row} (h : Len n B) {v : Row} (s : Sp n B v) : v.length = n := by
  induction s with
  | zero => exact zeros_len n
  | add hb _ ih => exact xr_len' (h _ hb) ih
theorem Sp.one {n : Nat} {B : List Row} (h : Len n B) {b : Row} (hb : b ∈ B) : Sp n B b := by
  have := Sp.add (n := n) hb .zero
  rwa [xr_zeros (h b hb)] at this
theorem Sp.xr {n : Nat} {B : List Row} (h : Len n B) {u v : Row} (s : Sp n B u) (t : Sp n B v) : Sp n B (xr u v) := by
  induction s with
  | zero => rw [zeros_xr (t.len h)]; exact t
  | add hb s ih =>
    rw [xr_assoc (h _ hb) (s.len h) (t.len h)]
    exact .add hb ih
theorem Sp.le {n : Nat} {B B' : List Row} (h' : Len n B') (k : ∀ b ∈ B, Sp n B' b) {v : Row} (s : Sp n B v) : Sp n B' v := by
  induction s with
  | zero => exact .zero
  | add hb _ ih => exact (k _ hb).xr h' ih
theorem Sp.sum {n : Nat} {B : List Row} (h : Len n B) {l : List Row} (k : ∀ a ∈ l, Sp n B a) : ∀ {z : Row}, Sp n B z → Sp n B (sumFrom z l) := by
  induction l with
  | nil => exact fun s => s
  | cons a l ih => exact fun {z} s => ih (fun b hb => k b (by simp [hb])) (s.xr h (k a (by simp)))
/-- the same span -/
def Eqv (n : Nat) (B B' : List Row) : Prop := ∀ v, Sp n B v ↔ Sp n B' v
theorem Eqv.of {n : Nat} {B B' : List Row} (h : Len n B) (h' : Len n B') (k : ∀ b ∈ B, Sp n B' b) (k' : ∀ b ∈ B', Sp n B b) : Eqv n B B' := fun v => ⟨Sp.le h' k, Sp.le h k'⟩
theorem Eqv.symm {n : Nat} {B B' : List Row} (e : Eqv n B B') : Eqv n B' B := fun v => (e v).symm
theorem Eqv.trans {n : Nat} {B B' B'' : List Row} (e : Eqv n B B') (e' : Eqv n B' B'') : Eqv n B B'' := fun v => (e v).trans (e' v)
theorem Eqv.perm {n : Nat} {B B' : List Row} (h : Len n B) (p : B.Perm B') : Eqv n B B' := by
  have h' : Len n B' := fun b hb => h b (p.mem_iff.mpr hb)
  exact .of h h' (fun b hb => .one h' (p.mem_iff.mp hb)) fun b hb => .one h (p.mem_iff.mpr hb)
/-! ### reduced lots -/
def Rel (a b : Row) : Prop := bit a (lead b) = false ∧ bit b (lead a) = false
structure Red (n : Nat) (B : List Row) : Prop where
  len : Len n B
  nz : ∀ b ∈ B, has b
  dl : B.Pairwise Rel
theorem Red.nil (n : Nat) : Red n [] := ⟨fun _ h => by simp at h, fun _ h => by simp at h, .nil⟩
theorem Red.perm {n : Nat} {B B' : List Row} (r : Red n B) (p : B.Perm B') : Red n B' :=
  ⟨fun b hb => r.len b (p.mem_iff.mpr hb), fun b hb => r.nz b (p.mem_iff.mpr hb), (p.pairwise_iff fun h => ⟨h.2, h.1⟩).mp r.dl⟩
theorem Red.tail {n : Nat} {b : Row} {B : List Row} (r : Red n (b :: B)) : Red n B :=
  ⟨fun c hc => r.len c (by simp [hc]), fun c hc => r.nz c (by simp [hc]), (List.pairwise_cons.mp r.dl).2⟩
theorem Red.off {n : Nat} {B : List Row} (r : Red n B) {a b : Row} (ha : a ∈ B) (hb : b ∈ B) (h : a ≠ b) : bit a (lead b) = false := by
  induction B with
  | nil => simp at ha
  | cons c B ih =>
    have p := (List.pairwise_cons.mp r.dl).1
    rcases List.mem_cons.mp ha with e1 | h1
    · rcases List.mem_cons.mp hb with e2 | h2
      · exact absurd (e1.trans e2.symm) h
      · rw [e1]
        exact (p b h2).1
    · rcases List.mem_cons.mp hb with e2 | h2
      · rw [e2]
        exact (p a h1).2
      · exact ih r.tail h1 h2
theorem Red.ne_lead {n : Nat} {B : List Row} (r : Red n B) {a b : Row} (ha : a ∈ B) (hb : b ∈ B) (h : lead a = lead b) : a = b := by
  by_cases e : a = b
  · exact e
  · have := r.off ha hb e
    rw [← h, bit_lead (r.nz a ha)] at this
    cases this
theorem Red.single {n : Nat} {B : List Row} (r : Red n B) {b : Row} (hb : b ∈ B) (f : Row → Bool) : par (B.map fun c => bit b (lead c) && f c) = f b := by
  induction B with
  | nil => simp at hb
  | cons c B ih =>
    have p := (List.pairwise_cons.mp r.dl).1
    rw [List.map_cons, par_cons]
    rcases List.mem_cons.mp hb with rfl | hb
    · rw [bit_lead (r.nz b (by simp)), par_false fun d hd => by rw [(p d hd).1]; rfl]
      simp
    · rw [(p b hb).2, ih r.tail hb]
      simp
/-- a row made again from its numbers -/
def cs (n : Nat) (B : List Row) (v : Row) : Row := sumR n (B.filter fun b => bit v (lead b))
theorem cs_len {n : Nat} {B : List Row} (h : Len n B) (v : Row) : (cs n B v).length = n := sumR_len fun a ha => h a (List.mem_filter.mp ha).1
theorem bit_cs {n : Nat} {B : List Row} (h : Len n B) (v : Row) (p : Nat) : bit (cs n B v) p = par (B.map fun b => bit v (lead b) && bit b p) := by
  unfold cs
  rw [bit_sumR fun a ha => h a (List.mem_filter.mp ha).1, par_filter]
theorem Red.cs {n : Nat} {B : List Row} (r : Red n B) {v : Row} (s : Sp n B v) : cs n B v = v := by
  apply row_ext (by rw [cs_len r.len, s.len r.len])
  intro p
  rw [bit_cs r.len]
  induction s with
  | zero => rw [bit_zeros, par_false fun b _ => by rw [bit_zeros]; rfl]
  | add hb s ih =>
    rename_i b v
    have hl : b.length = v.length := by rw [r.len b hb, s.len r.len]
    rw [bit_xr hl, ← ih, ← r.single hb (fun c => bit c p), ← par_xor]
    congr 1
    apply List.map_congr_left
    intro c _
    rw [bit_xr hl]
    cases bit b (lead c) <;> cases bit v (lead c) <;> cases bit c p <;> rfl
theorem Red.lead_mem {n : Nat} {B : List Row} (r : Red n B) {v : Row} (s : Sp n B v) (h : has v) : ∃ b ∈ B, lead b = lead v := by
  have h1 := bit_lead h
  rw [← r.cs s, bit_cs r.len, r.cs s] at h1
  obtain ⟨b, hb, e⟩ := par_true h1
  rw [Bool.and_eq_true] at e
  exact ⟨b, hb, Nat.le_antisymm (lead_le e.2) (lead_le e.1)⟩
theorem Red.zero {n : Nat} {B : List Row} (r : Red n B) {v : Row} (s : Sp n B v) (h : ∀ b ∈ B, bit v (lead b) = false) : v = zeros n := by
  apply zeros_of (s.len r.len)
  intro hv
  obtain ⟨b, hb, e⟩ := r.lead_mem s hv
  have := h b hb
  rw [e, bit_lead hv] at this
  cases this
/-- sorted by their first ones -/
structure Ech (n : Nat) (B : List Row) : Prop extends Red n B where
  up : B.Pairwise fun a b => lead a < lead b
theorem Ech.sub {n : Nat} {B B' : List Row} (r : Red n B) (r' : Red n B') (e : Eqv n B B') {b : Row} (hb : b ∈ B) : b ∈ B' := by
  have sb := Sp.one r.len hb
  obtain ⟨b', hb', e1⟩ := r'.lead_mem ((e b).mp sb) (r.nz b hb)
  have sb' : Sp n B b' := (e b').mpr (.one r'.len hb')
  have hl : b.length = b'.length := by rw [r.len b hb, r'.len b' hb']
  have sw := sb.xr r.len sb'
  have hz := r.zero sw fun c hc => by
    rw [bit_xr hl]
    by_cases h : b = c
    · subst h
      rw [bit_lead (r.nz b hb), ← e1, bit_lead (r'.nz b' hb')]
      rfl
    · rw [r.off hb hc h]
      have sc := Sp.one r.len hc
      obtain ⟨c', hc', e2⟩ := r'.lead_mem ((e c).mp sc) (r.nz c hc)
      rw [← e2, r'.off hb' hc' ?_]
      · rfl
      · rintro rfl
        exact h (r.ne_lead hb hc (by rw [← e1, ← e2]))
  have : b = b' := by
    have h2 := xr_cancel (r.len b hb) (r'.len b' hb')
    rw [hz, zeros_xr (r'.len b' hb')] at h2
    exact h2.symm
  exact this ▸ hb'
theorem up_eq : ∀ {B B' : List Row}, B.Pairwise (fun a b => lead a < lead b) → B'.Pairwise (fun a b => lead a < lead b) → (∀ b, b ∈ B ↔ b ∈ B') → B = B'
  | [], [], _, _, _ => rfl
  | [], b :: B', _, _, h => absurd ((h b).mpr (by simp)) (by simp)
  | b :: B, [], _, _, h => absurd ((h b).mp (by simp)) (by simp)
  | b :: B, b' :: B', u, u', h => by
    have u1 := List.pairwise_cons.mp u
    have u2 := List.pairwise_cons.mp u'
    have e : b = b' := by
      by_cases e : b = b'
      · exact e
      · have h1 := (h b).mp (by simp)
        have h2 := (h b').mpr (by simp)
        rcases List.mem_cons.mp h1 with h1 | h1
        · exact h1
        · rcases List.mem_cons.mp h2 with h2 | h2
          · exact h2.symm
          · have := u1.1 _ h2
            have := u2.1 _ h1
            omega
    subst e
    congr 1
    refine up_eq u1.2 u2.2 fun c => ?_
    constructor
    · intro hc
      rcases List.mem_cons.mp ((h c).mp (by simp [hc])) with e | h1
      · have := u1.1 c hc
        rw [e] at this
        omega
      · exact h1
    · intro hc
      rcases List.mem_cons.mp ((h c).mpr (by simp [hc])) with e | h1
      · have := u2.1 c hc
        rw [e] at this
        omega
      · exact h1
theorem Ech.uniq {n : Nat} {B B' : List Row} (h : Ech n B) (h' : Ech n B') (e : Eqv n B B') : B = B' :=
  up_eq h.up h'.up fun _ => ⟨Ech.sub h.toRed h'.toRed e, Ech.sub h'.toRed h.toRed e.symm⟩
/-- one more row -/
def addR (B : List Row) (h : Row) : List Row := (B.map fun b => if bit b (lead h) then xr b h else b) ++ [h]
theorem addR_mem {B : List Row} {h c : Row} : c ∈ addR B h ↔ (∃ b ∈ B, (if bit b (lead h) then xr b h else b) = c) ∨ c = h := by
  unfold addR
  rw [List.mem_append, List.mem_map, List.mem_singleton]
theorem Red.addR {n : Nat} {B : List Row} (r : Red n B) {h : Row} (hl : h.length = n) (hh : has h) (hz : ∀ b ∈ B, bit h (lead b) = false) :
    Red n (addR B h) ∧ ∀ b ∈ B, lead (if bit b (lead h) then xr b h else b) = lead b := by
  have key : ∀ b ∈ B, lead (if bit b (lead h) then F2.xr b h else b) = lead b ∧ has (if bit b (lead h) then F2.xr b h else b) := by
    intro b hb
    split
    · rename_i e
      have h1 : b.length = h.length := by rw [r.len b hb, hl]
      have h2 : lead b ≠ lead h := by
        intro e2
        have := hz b hb
        rw [e2, bit_lead hh] at this
        cases this
      have h3 := lead_le e
      have h4 : bit (F2.xr b h) (lead b) = true := by rw [bit_xr h1, bit_lead (r.nz b hb), hz b hb]; rfl
      exact ⟨lead_eq h4 fun q hq => by rw [bit_xr h1, bit_before hq, bit_before (by omega)]; rfl, has_of_bit h4⟩
    · exact ⟨rfl, r.nz b hb⟩
  have len : Len n (F2.addR B h) := by
    intro c hc
    rcases addR_mem.mp hc with ⟨b, hb, rfl⟩ | rfl
    · split
      · exact xr_len' (r.len b hb) hl
      · exact r.len b hb
    · exact hl
  refine ⟨⟨len, ?_, ?_⟩, fun b hb => (key b hb).1⟩
  · intro c hc
    rcases addR_mem.mp hc with ⟨b, hb, rfl⟩ | rfl
    · exact (key b hb).2
    · exact hh
  · have tail : ∀ b ∈ B, Rel (if bit b (lead h) then F2.xr b h else b) h := by
      intro b hb
      refine ⟨?_, ?_⟩
      · split
        · rename_i e
          rw [bit_xr (by rw [r.len b hb, hl]), e, bit_lead hh]
          rfl
        · rename_i e
          simpa using e
      · rw [(key b hb).1]
        exact hz b hb
    unfold F2.addR
    rw [List.pairwise_append]
    refine ⟨?_, List.pairwise_singleton _ _, ?_⟩
    · rw [List.pairwise_map]
      refine r.dl.imp_of_mem ?_
      intro a b ha hb hab
      have one : ∀ {a b : Row}, a ∈ B → b ∈ B → bit a (lead b) = false → bit (if bit a (lead h) then F2.xr a h else a) (lead b) = false := by
        intro a b ha hb e
        split
        · rw [bit_xr (by rw [r.len a ha, hl]), e, hz b hb]
          rfl
        · exact e
      exact ⟨by rw [(key b hb).1]; exact one ha hb hab.1, by rw [(key a ha).1]; exact one hb ha hab.2⟩
    · intro a ha b hb
      obtain ⟨c, hc, rfl⟩ := List.mem_map.mp ha
      rw [List.mem_singleton] at hb
      subst hb
      exact tail c hc
theorem addR_len (B : List Row) (h : Row) : (addR B h).length = B.length + 1 := by simp [addR]
theorem addR_eqv {n : Nat} {B : List Row} (hB : Len n B) {h : Row} (hl : h.length = n) : Len n (addR B h) ∧ Eqv n (addR B h) (h :: B) := by
  have l1 : Len n (addR B h) := by
    intro c hc
    rcases addR_mem.mp hc with ⟨b, hb, rfl⟩ | rfl
    · split
      · exact xr_len' (hB b hb) hl
      · exact hB b hb
    · exact hl
  have l2 : Len n (h :: B) := by
    intro c hc
    rcases List.mem_cons.mp hc with rfl | hc
    · exact hl
    · exact hB c hc
  refine ⟨l1, .of l1 l2 ?_ ?_⟩
  · intro c hc
    rcases addR_mem.mp hc with ⟨b, hb, rfl⟩ | rfl
    · split
      · exact (Sp.one l2 (by simp [hb])).xr l2 (.one l2 (by simp))
      · exact .one l2 (by simp [hb])
    · exact .one l2 (by simp)
  · intro c hc
    have sh : Sp n (addR B h) h := .one l1 (addR_mem.mpr (.inr rfl))
    rcases List.mem_cons.mp hc with rfl | hc
    · exact sh
    · have sc : Sp n (addR B h) (if bit c (lead h) then xr c h else c) := .one l1 (addR_mem.mpr (.inl ⟨c, hc, rfl⟩))
      by_cases e : bit c (lead h) = true
      · rw [if_pos e] at sc
        have := sc.xr l1 sh
        rwa [xr_cancel (hB c hc) hl] at this
      · rwa [if_neg e] at sc
theorem Eqv.cons {n : Nat} {B B' : List Row} (hB : Len n B) (hB' : Len n B') (e : Eqv n B B') {h : Row} (hl : h.length = n) : Eqv n (h :: B) (h :: B') := by
  have l1 : Len n (h :: B) := by
    intro c hc
    rcases List.mem_cons.mp hc with rfl | hc
    · exact hl
    · exact hB c hc
  have l2 : Len n (h :: B') := by
    intro c hc
    rcases List.mem_cons.mp hc with rfl | hc
    · exact hl
    · exact hB' c hc
  refine .of l1 l2 ?_ ?_
  · intro c hc
    rcases List.mem_cons.mp hc with rfl | hc
    · exact .one l2 (by simp)
    · exact ((e c).mp (.one hB hc)).le l2 fun b hb => .one l2 (by simp [hb])
  · intro c hc
    rcases List.mem_cons.mp hc with rfl | hc
    · exact .one l1 (by simp)
    · exact ((e c).mpr (.one hB' hc)).le l1 fun b hb => .one l1 (by simp [hb])
end F2
set_option Elab.async false
set_option linter.all false
set_option maxRecDepth 100000
set_option autoImplicit false
/-! Wc: the two ways to the told rows of a code. -/
namespace F2
/-! ### row by row -/
def redu (B : List Row) (v : Row) : Row := B.foldl (fun h one => if bit h (lead one) then xr h one else h) v
theorem redu_ok {n : Nat} : ∀ {B : List Row}, Red n B → ∀ {v : Row}, v.length = n → (redu B v).length = n ∧ (∀ b ∈ B, bit (redu B v) (lead b) = false) ∧ (∀ p, (∀ b ∈ B, bit b p = false) → bit (redu B v) p = bit v p) ∧ ∃ s, Sp n B s ∧ redu B v = xr v s
  | [], _, v, hv => ⟨hv, fun _ h => by simp at h, fun _ _ => rfl, zeros n, .zero, (xr_zeros hv).symm⟩
  | b :: B, r, v, hv => by
    have hb := r.len b (by simp)
    have p0 := (List.pairwise_cons.mp r.dl).1
    have hv1 : (if bit v (lead b) then xr v b else v).length = n := by
      split
      · exact xr_len' hv hb
      · exact hv
    obtain ⟨h1, h2, h3, s, h4, h5⟩ := redu_ok r.tail hv1
    have e : redu (b :: B) v = redu B (if bit v (lead b) then xr v b else v) := rfl
    have l2 : Len n (b :: B) := r.len
    rw [e]
    refine ⟨h1, ?_, ?_, ?_⟩
    · intro c hc
      rcases List.mem_cons.mp hc with hc | hc
      · rw [hc, h3 (lead b) fun d hd => (p0 d hd).2]
        split
        · rename_i e1
          rw [bit_xr (by rw [hv, hb]), e1, bit_lead (r.nz b (by simp))]
          rfl
        · rename_i e1
          simpa using e1
      · exact h2 c hc
    · intro p hp
      rw [h3 p fun d hd => hp d (by simp [hd])]
      split
      · rw [bit_xr (by rw [hv, hb]), hp b (by simp), Bool.xor_false]
      · rfl
    · have h4' : Sp n (b :: B) s := h4.le l2 fun d hd => .one l2 (by simp [hd])
      split at h5
      · rename_i e1
        rw [if_pos e1]
        refine ⟨xr b s, .add (by simp) h4', ?_⟩
        rw [h5, xr_assoc hv hb (h4.len r.tail.len)]
      · rename_i e1
        rw [if_neg e1]
        exact ⟨s, h4', h5⟩
def step1 (B : List Row) (v : Row) : List Row := if has (redu B v) then addR B (redu B v) else B
theorem step1_ok {n : Nat} {B : List Row} (r : Red n B) {v : Row} (hv : v.length = n) : Red n (step1 B v) ∧ Eqv n (step1 B v) (v :: B) := by
  obtain ⟨h1, h2, _, s, h4, h5⟩ := redu_ok r hv
  have l2 : Len n (v :: B) := by
    intro c hc
    rcases List.mem_cons.mp hc with rfl | hc
    · exact hv
    · exact r.len c hc
  have l3 : Len n (redu B v :: B) := by
    intro c hc
    rcases List.mem_cons.mp hc with rfl | hc
    · exact h1
    · exact r.len c hc
  have s2 : Sp n (v :: B) s := h4.le l2 fun d hd => .one l2 (by simp [hd])
  have s3 : Sp n (redu B v :: B) s := h4.le l3 fun d hd => .one l3 (by simp [hd])
  have ev : xr (redu B v) s = v := by rw [h5, xr_cancel hv (h4.len r.len)]
  have eq1 : Eqv n (redu B v :: B) (v :: B) := by
    refine .of l3 l2 ?_ ?_
    · intro c hc
      rcases List.mem_cons.mp hc with rfl | hc
      · rw [h5]
        exact (Sp.one l2 (by simp)).xr l2 s2
      · exact .one l2 (by simp [hc])
    · intro c hc
      rcases List.mem_cons.mp hc with rfl | hc
      · have := (Sp.one l3 (b := redu B c) (by simp)).xr l3 s3
        rwa [ev] at this
      · exact .one l3 (by simp [hc])
  unfold step1
  split
  · rename_i hh
    exact ⟨(r.addR h1 hh h2).1, (addR_eqv r.len h1).2.trans eq1⟩
  · rename_i hh
    refine ⟨r, ?_⟩
    have ez : redu B v = zeros n := zeros_of h1 hh
    refine Eqv.trans ?_ eq1
    refine .of r.len l3 (fun c hc => .one l3 (by simp [hc])) ?_
    intro c hc
    rcases List.mem_cons.mp hc with rfl | hc
    · rw [ez]
      exact .zero
    · exact .one r.len hc
def tr0 (rows : List Row) : List Row := rows.foldl step1 []
theorem tr_from {n : Nat} : ∀ {rows : List Row}, Len n rows → ∀ {B : List Row}, Red n B → Red n (rows.foldl step1 B) ∧ Eqv n (rows.foldl step1 B) (rows ++ B)
  | [], _, B, r => ⟨r, fun _ => Iff.rfl⟩
  | v :: rows, h, B, r => by
    have hv := h v (by simp)
    have ht : Len n rows := fun b hb => h b (by simp [hb])
    obtain ⟨h1, h2⟩ := step1_ok r hv
    obtain ⟨h3, h4⟩ := tr_from ht h1
    rw [List.foldl_cons]
    refine ⟨h3, h4.trans ?_⟩
    have l1 : Len n (rows ++ step1 B v) := fun c hc => by
      rcases List.mem_append.mp hc with hc | hc
      · exact ht c hc
      · exact h1.len c hc
    have l2 : Len n (v :: rows ++ B) := fun c hc => by
      rcases List.mem_append.mp hc with hc | hc
      · exact h c hc
      · exact r.len c hc
    have l3 : Len n (v :: B) := fun c hc => by
      rcases List.mem_cons.mp hc with rfl | hc
      · exact hv
      · exact r.len c hc
    refine .of l1 l2 ?_ ?_
    · intro c hc
      rcases List.mem_append.mp hc with hc | hc
      · exact .one l2 (by simp [hc])
      · exact ((h2 c).mp (.one h1.len hc)).le l2 fun b hb => .one l2 (by
          rcases List.mem_cons.mp hb with rfl | hb
          · simp
          · simp [hb])
    · intro c hc
      have k : ∀ d ∈ v :: B, Sp n (rows ++ step1 B v) d := fun d hd => ((h2 d).mpr (.one l3 hd)).le l1 fun b hb => .one l1 (by simp [hb])
      rcases List.mem_append.mp hc with hc | hc
      · rcases List.mem_cons.mp hc with rfl | hc
        · exact k c (by simp)
        · exact .one l1 (by simp [hc])
      · exact k c (by simp [hc])
theorem tr0_ok {n : Nat} {rows : List Row} (h : Len n rows) : Red n (tr0 rows) ∧ Eqv n (tr0 rows) rows := by
  have := tr_from h (Red.nil n)
  rwa [List.append_nil] at this
theorem step1_len (B : List Row) (v : Row) : (step1 B v).length ≤ B.length + 1 := by
  unfold step1
  split
  · rw [addR_len]; exact Nat.le_refl _
  · omega
theorem tr_from_len : ∀ (rows B : List Row), (rows.foldl step1 B).length ≤ B.length + rows.length
  | [], B => by simp
  | v :: rows, B => by
    have := tr_from_len rows (step1 B v)
    have := step1_len B v
    simp only [List.foldl_cons, List.length_cons]
    omega
theorem tr0_len (rows : List Row) : (tr0 rows).length ≤ rows.length := by
  have := tr_from_len rows []
  simpa [tr0] using this
/-! ### sorted -/
def rI (a : Row) : List Int := a.map fun b => if b then 1 else 0
def leD (a b : Row) : Bool := !decide (rI a < rI b)
def leA (a b : Row) : Bool := !decide (rI b < rI a)
theorem leD_iff {a b : Row} : leD a b = true ↔ rI b ≤ rI a := by
  simp [leD, List.not_lt]
theorem leA_iff {a b : Row} : leA a b = true ↔ rI a ≤ rI b := by
  simp [leA, List.not_lt]
theorem lt_of_bit : ∀ {a b : Row} {p : Nat}, a.length = b.length → (∀ q, q < p → bit a q = bit b q) → bit a p = false → bit b p = true → rI a < rI b
  | [], [], p, _, _, _, h => by simp [bit] at h
  | [], _ :: _, _, h, _, _, _ => by simp at h
  | _ :: _, [], _, h, _, _, _ => by simp at h
  | x :: a, y :: b, 0, _, _, h1, h2 => by
    simp only [bit, List.getD_cons_zero] at h1 h2
    subst h1 h2
    show (0 : Int) :: rI a < (1 : Int) :: rI b
    rw [List.cons_lt_cons_iff]
    exact .inl (by omega)
  | x :: a, y :: b, p + 1, hl, hq, h1, h2 => by
    have e : x = y := by
      have := hq 0 (by omega)
      simpa [bit] using this
    subst e
    have ih := lt_of_bit (a := a) (b := b) (p := p) (by simpa using hl) (fun q hq' => by
      have := hq (q + 1) (by omega)
      simpa [bit] using this) (by simpa [bit] using h1) (by simpa [bit] using h2)
    have e1 : rI (x :: a) = (if x then 1 else 0) :: rI a := rfl
    have e2 : rI (x :: b) = (if x then 1 else 0) :: rI b := rfl
    rw [e1, e2, List.cons_lt_cons_iff]
    exact .inr ⟨rfl, ih⟩
def sortD (l : List Row) : List Row := l.mergeSort leD
theorem leD_trans (a b c : Row) (h1 : leD a b = true) (h2 : leD b c = true) : leD a c = true := by
  rw [leD_iff] at *
  exact List.le_trans h2 h1
theorem leD_total (a b : Row) : (leD a b || leD b a) = true := by
  rw [Bool.or_eq_true, leD_iff, leD_iff]
  exact List.le_total _ _
theorem leA_trans (a b c : Row) (h1 : leA a b = true) (h2 : leA b c = true) : leA a c = true := by
  rw [leA_iff] at *
  exact List.le_trans h1 h2
theorem leA_total (a b : Row) : (leA a b || leA b a) = true := by
  rw [Bool.or_eq_true, leA_iff, leA_iff]
  exact List.le_total _ _
theorem sortD_ech {n : Nat} {B : List Row} (r : Red n B) : Ech n (sortD B) ∧ Eqv n (sortD B) B := by
  have pm : (sortD B).Perm B := List.mergeSort_perm B leD
  have r' : Red n (sortD B) := r.perm pm.symm
  refine ⟨⟨r', ?_⟩, (Eqv.perm r.len pm.symm).symm⟩
  have st := List.pairwise_mergeSort leD_trans leD_total B
  have both : (sortD B).Pairwise fun a b => Rel a b ∧ leD a b = true := r'.dl.and st
  refine both.imp_of_mem ?_
  intro a b ha hb ⟨hr, hl⟩
  have e1 : lead a ≠ lead b := by
    intro e
    have := hr.1
    rw [← e, bit_lead (r'.nz a ha)] at this
    cases this
  by_cases h : lead a < lead b
  · exact h
  · exfalso
    have h3 : lead b < lead a := by omega
    have := lt_of_bit (a := a) (b := b) (p := lead b) (by rw [r'.len a ha, r'.len b hb]) (fun q hq => by rw [bit_before hq, bit_before (by omega)]) hr.1 (bit_lead (r'.nz b hb))
    simp [leD, this] at hl
/-! ### column by column -/
def step2 (p : Nat) (s : List Row × List Row) : List Row × List Row := match s.1.filter (fun r => bit r p) with
  | [] => s
  | h :: _ => ((s.1.filter fun r => r != h).map (fun r => if bit r p then xr r h else r), (s.2.map fun r => if bit r p then xr r h else r) ++ [h])
structure Mid (n : Nat) (rows : List Row) (p : Nat) (s : List Row × List Row) : Prop where
  ll : Len n s.1
  ech : Ech n s.2
  low : ∀ b ∈ s.2, lead b < p
  nul : ∀ r ∈ s.1, ∀ q, q < p → bit r q = false
  eqv : Eqv n (s.2 ++ s.1) rows
  cnt : s.2.length + s.1.length ≤ rows.length
theorem Len.app {n : Nat} {a b : List Row} (h : Len n a) (h' : Len n b) : Len n (a ++ b) := fun c hc => by
  rcases List.mem_append.mp hc with hc | hc
  · exact h c hc
  · exact h' c hc
theorem step2_mid {n : Nat} {rows : List Row} {p : Nat} {s : List Row × List Row} (m : Mid n rows p s) : Mid n rows (p + 1) (step2 p s) := by
  obtain ⟨left, found⟩ := s
  obtain ⟨ll, ech, low, nul, eqv, cnt⟩ := m
  simp only at ll ech low nul eqv cnt
  unfold step2
  simp only
  cases hf : left.filter fun r => bit r p with
  | nil =>
    refine ⟨ll, ech, fun b hb => Nat.lt_succ_of_lt (low b hb), fun r hr q hq => ?_, eqv, cnt⟩
    by_cases h : q < p
    · exact nul r hr q h
    · have e : q = p := by omega
      subst e
      have := List.filter_eq_nil_iff.mp hf r hr
      simpa using this
  | cons h t =>
    simp only
    have hm : h ∈ left.filter fun r => bit r p := by rw [hf]; simp
    obtain ⟨hl, hp⟩ := List.mem_filter.mp hm
    have hn := ll h hl
    have hh := has_of_bit hp
    have hlead : lead h = p := lead_eq hp (nul h hl)
    have hz : ∀ b ∈ found, bit h (lead b) = false := fun b hb => nul h hl _ (low b hb)
    have ea : (found.map fun r => if bit r p then xr r h else r) ++ [h] = addR found h := by
      unfold addR
      rw [hlead]
    rw [ea]
    obtain ⟨ra, la⟩ := ech.toRed.addR hn hh hz
    have ll' : Len n ((left.filter fun r => r != h).map fun r => if bit r p then xr r h else r) := by
      intro c hc
      obtain ⟨d, hd, rfl⟩ := List.mem_map.mp hc
      have hd' := ll d (List.mem_filter.mp hd).1
      split
      · exact xr_len' hd' hn
      · exact hd'
    refine ⟨ll', ⟨ra, ?_⟩, ?_, ?_, ?_, ?_⟩
    · show (addR found h).Pairwise _
      unfold addR
      rw [List.pairwise_append]
      refine ⟨?_, List.pairwise_singleton _ _, ?_⟩
      · rw [List.pairwise_map]
        exact ech.up.imp_of_mem fun {a b} ha hb hab => by rw [la a ha, la b hb]; exact hab
      · intro a ha b hb
        obtain ⟨c, hc, rfl⟩ := List.mem_map.mp ha
        rw [List.mem_singleton] at hb
        subst hb
        rw [la c hc, hlead]
        exact low c hc
    · intro b hb
      rcases addR_mem.mp hb with ⟨c, hc, rfl⟩ | rfl
      · rw [la c hc]
        exact Nat.lt_succ_of_lt (low c hc)
      · omega
    · intro r hr q hq
      obtain ⟨d, hd, rfl⟩ := List.mem_map.mp hr
      have hdl := (List.mem_filter.mp hd).1
      have hln : d.length = h.length := by rw [ll d hdl, hn]
      by_cases hqp : q < p
      · split
        · rw [bit_xr hln, nul d hdl q hqp, nul h hl q hqp]
          rfl
        · exact nul d hdl q hqp
      · have e : q = p := by omega
        subst e
        split
        · rename_i e1
          rw [bit_xr hln, e1, hp]
          rfl
        · rename_i e1
          simpa using e1
    · refine Eqv.trans ?_ eqv
      have l1 : Len n (addR found h ++ (left.filter fun r => r != h).map fun r => if bit r p then xr r h else r) := Len.app ra.len ll'
      have l2 : Len n (found ++ left) := Len.app ech.len ll
      have l3 : Len n (h :: found) := fun c hc => by
        rcases List.mem_cons.mp hc with rfl | hc
        · exact hn
        · exact ech.len c hc
      have ev := (addR_eqv ech.len hn).2
      have sh2 : Sp n (found ++ left) h := .one l2 (by simp [hl])
      have sh1 : Sp n (addR found h ++ (left.filter fun r => r != h).map fun r => if bit r p then xr r h else r) h := .one l1 (List.mem_append.mpr (.inl (addR_mem.mpr (.inr rfl))))
      refine .of l1 l2 ?_ ?_
      · intro c hc
        rcases List.mem_append.mp hc with hc | hc
        · exact ((ev c).mp (.one ra.len hc)).le l2 fun b hb => by
            rcases List.mem_cons.mp hb with rfl | hb
            · exact sh2
            · exact .one l2 (by simp [hb])
        · obtain ⟨d, hd, rfl⟩ := List.mem_map.mp hc
          have hdl := (List.mem_filter.mp hd).1
          have sd : Sp n (found ++ left) d := .one l2 (by simp [hdl])
          split
          · exact sd.xr l2 sh2
          · exact sd
      · intro c hc
        rcases List.mem_append.mp hc with hc | hc
        · exact ((ev c).mpr (.one l3 (by simp [hc]))).le l1 fun b hb => .one l1 (List.mem_append.mpr (.inl hb))
        · by_cases e : c = h
          · rw [e]
            exact sh1
          · have sc : Sp n (addR found h ++ (left.filter fun r => r != h).map fun r => if bit r p then xr r h else r) (if bit c p then xr c h else c) := by
              refine .one l1 (List.mem_append.mpr (.inr (List.mem_map.mpr ⟨c, ?_, rfl⟩)))
              rw [List.mem_filter]
              exact ⟨hc, by simpa using e⟩
            by_cases e2 : bit c p = true
            · rw [if_pos e2] at sc
              have := sc.xr l1 sh1
              rwa [xr_cancel (ll c hc) hn] at this
            · rwa [if_neg e2] at sc
    · show (addR found h).length + _ ≤ _
      rw [addR_len, List.length_map]
      have : (left.filter fun r => r != h).length < left.length := by
        have h1 := List.length_filter_le (fun r => r != h) left
        by_cases h2 : (left.filter fun r => r != h).length = left.length
        · have h3 := List.length_filter_eq_length_iff.mp h2 h hl
          simp at h3
        · omega
      omega
def tlAt (rows : List Row) (p : Nat) : List Row × List Row := (List.range p).foldl (fun s p => step2 p s) (rows, [])
theorem tlAt_succ (rows : List Row) (p : Nat) : tlAt rows (p + 1) = step2 p (tlAt rows p) := by
  unfold tlAt
  rw [List.range_succ, List.foldl_append]
  rfl
theorem tlAt_mid {n : Nat} {rows : List Row} (h : Len n rows) : ∀ p, Mid n rows p (tlAt rows p)
  | 0 => ⟨h, ⟨Red.nil n, .nil⟩, fun _ hb => by simp [tlAt] at hb, fun _ _ q hq => absurd hq (by omega), fun _ => Iff.rfl, by simp [tlAt]⟩
  | p + 1 => by
    rw [tlAt_succ]
    exact step2_mid (tlAt_mid h p)
/-- the told rows, by columns -/
def told (n : Nat) (rows : List Row) : List Row := (tlAt rows n).2
theorem told_ok {n : Nat} {rows : List Row} (h : Len n rows) : Ech n (told n rows) ∧ Eqv n (told n rows) rows ∧ (told n rows).length ≤ rows.length := by
  have m := tlAt_mid h n
  refine ⟨m.ech, ?_, by have := m.cnt; unfold told; omega⟩
  refine Eqv.trans ?_ m.eqv
  refine .of m.ech.len (Len.app m.ech.len m.ll) (fun c hc => .one (Len.app m.ech.len m.ll) (by unfold told at hc; simp [hc])) ?_
  intro c hc
  rcases List.mem_append.mp hc with hc | hc
  · exact .one m.ech.len hc
  · have : c = zeros n := by
      apply row_ext (by rw [m.ll c hc, zeros_len])
      intro p
      rw [bit_zeros]
      by_cases hp : p < n
      · exact m.nul c hc p hp
      · exact bit_out (by rw [m.ll c hc]; omega)
    rw [this]
    exact .zero
theorem told_eqv {n : Nat} {rows rows' : List Row} (h : Len n rows) (h' : Len n rows') (e : Eqv n rows rows') : told n rows = told n rows' :=
  (told_ok h).1.uniq (told_ok h').1 ((told_ok h).2.1.trans (e.trans (told_ok h').2.1.symm))
theorem told_told {n : Nat} {rows : List Row} (h : Len n rows) : told n (told n rows) = told n rows :=
  told_eqv (told_ok h).1.len h (told_ok h).2.1
theorem told_perm {n : Nat} {rows rows' : List Row} (h : Len n rows) (p : rows.Perm rows') : told n rows = told n rows' :=
  told_eqv h (fun b hb => h b (p.mem_iff.mpr hb)) (.perm h p)
/-- both ways are one -/
theorem both {n : Nat} {rows : List Row} (h : Len n rows) : sortD (tr0 rows) = told n rows := by
  obtain ⟨r, e⟩ := tr0_ok h
  obtain ⟨s1, s2⟩ := sortD_ech r
  exact s1.uniq (told_ok h).1 ((s2.trans e).trans (told_ok h).2.1.symm)
end F2
set_option Elab.async false
set_option linter.all false
set_option maxRecDepth 100000
set_option autoImplicit false
/-! Wd: numbers of rows; all rows of a code. -/
namespace F2
/-! ### numbers -/
def numF (acc : Nat) (bs : List Bool) : Nat := bs.foldl (fun a b => 2 * a + b.toNat) acc
theorem two_bit (a : Nat) (b : Bool) : (2 * a + b.toNat).testBit 0 = b := by
  cases b <;> simp [Nat.testBit_zero] <;> omega
theorem two_bit_succ (a : Nat) (b : Bool) (j : Nat) : (2 * a + b.toNat).testBit (j + 1) = a.testBit j := by
  rw [Nat.testBit_succ]
  congr 1
  cases b <;> simp <;> omega
theorem numF_bit : ∀ (bs : List Bool) (acc i : Nat), i < bs.length → (numF acc bs).testBit (bs.length - 1 - i) = bs.getD i false
  | [], _, i, h => by simp at h
  | b :: bs, acc, i, h => by
    have key : ∀ (bs : List Bool) (acc j : Nat), bs.length ≤ j → (numF acc bs).testBit j = acc.testBit (j - bs.length) := by
      intro bs
      induction bs with
      | nil => intro acc j _; rfl
      | cons b bs ih =>
        intro acc j hj
        simp only [List.length_cons] at hj ⊢
        show (numF (2 * acc + b.toNat) bs).testBit j = _
        rw [ih _ j (by omega)]
        obtain ⟨k, rfl⟩ : ∃ k, j = bs.length + 1 + k := ⟨j - (bs.length + 1), by omega⟩
        have e1 : bs.length + 1 + k - bs.length = k + 1 := by omega
        have e2 : bs.length + 1 + k - (bs.length + 1) = k := by omega
        rw [e1, e2, two_bit_succ]
    show (numF (2 * acc + b.toNat) bs).testBit _ = _
    simp only [List.length_cons] at h ⊢
    cases i with
    | zero =>
      rw [key _ _ _ (by omega)]
      have e : bs.length + 1 - 1 - 0 - bs.length = 0 := by omega
      rw [e, two_bit]
      rfl
    | succ i =>
      have e : bs.length + 1 - 1 - (i + 1) = bs.length - 1 - i := by omega
      rw [e, numF_bit bs _ i (by omega)]
      rfl
theorem numF_high : ∀ (bs : List Bool) (j : Nat), bs.length ≤ j → (numF 0 bs).testBit j = false := by
  have key : ∀ (bs : List Bool) (acc j : Nat), bs.length ≤ j → (numF acc bs).testBit j = acc.testBit (j - bs.length) := by
    intro bs
    induction bs with
    | nil => intro acc j _; rfl
    | cons b bs ih =>
      intro acc j hj
      simp only [List.length_cons] at hj ⊢
      show (numF (2 * acc + b.toNat) bs).testBit j = _
      rw [ih _ j (by omega)]
      obtain ⟨k, rfl⟩ : ∃ k, j = bs.length + 1 + k := ⟨j - (bs.length + 1), by omega⟩
      have e1 : bs.length + 1 + k - bs.length = k + 1 := by omega
      have e2 : bs.length + 1 + k - (bs.length + 1) = k := by omega
      rw [e1, e2, two_bit_succ]
  intro bs j hj
  rw [key bs 0 j hj, Nat.zero_testBit]
theorem numF_lt : ∀ (bs : List Bool) (acc : Nat), numF acc bs < (acc + 1) * 2 ^ bs.length
  | [], acc => by simp [numF]
  | b :: bs, acc => by
    have := numF_lt bs (2 * acc + b.toNat)
    show numF (2 * acc + b.toNat) bs < _
    refine Nat.lt_of_lt_of_le this ?_
    rw [List.length_cons, Nat.pow_succ, Nat.mul_comm (2 ^ bs.length) 2, ← Nat.mul_assoc]
    apply Nat.mul_le_mul_right
    cases b <;> simp <;> omega
/-- the numbers of a row outside: its bits at the leading places -/
def bitsAt (T : List Row) (v : Row) : List Bool := T.map fun b => bit v (lead b)
def numOf (T : List Row) (v : Row) : Nat := numF 0 (bitsAt T v)
theorem numOf_lt (T : List Row) (v : Row) : numOf T v < 2 ^ T.length := by
  have := numF_lt (bitsAt T v) 0
  simpa [numOf, bitsAt] using this
/-- the rows that a number names -/
def named (T : List Row) (k : Nat) : List Row := (T.zipIdx.filter fun p => k.testBit (T.length - 1 - p.2)).map (·.1)
theorem named_num (T : List Row) (v : Row) : named T (numOf T v) = T.filter fun b => bit v (lead b) := by
  have e : T.zipIdx.filter (fun p => (numOf T v).testBit (T.length - 1 - p.2)) = T.zipIdx.filter fun p => bit v (lead p.1) := by
    apply List.filter_congr
    rintro ⟨b, i⟩ hp
    have hb := List.mk_mem_zipIdx_iff_getElem?.mp hp
    obtain ⟨hi, hb⟩ := List.getElem?_eq_some_iff.mp hb
    have h1 := numF_bit (bitsAt T v) 0 i (by simpa [bitsAt] using hi)
    have e1 : (bitsAt T v).length = T.length := by simp [bitsAt]
    rw [e1] at h1
    show (numF 0 (bitsAt T v)).testBit _ = _
    rw [h1]
    simp [bitsAt, hi, hb]
  unfold named
  rw [e]
  have h2 : (T.zipIdx.map (·.1)).filter (fun b => bit v (lead b)) = (T.zipIdx.filter ((fun b => bit v (lead b)) ∘ (·.1))).map (·.1) := List.filter_map
  have h3 : T.zipIdx.map (·.1) = T := List.zipIdx_map_fst 0 T
  rw [h3] at h2
  exact h2.symm
def nr (n : Nat) (T : List Row) (k : Nat) : Row := sumR n (named T k)
theorem nr_num {n : Nat} {T : List Row} (r : Red n T) {v : Row} (s : Sp n T v) : nr n T (numOf T v) = v := by
  unfold nr
  rw [named_num]
  exact r.cs s
theorem named_sub {T : List Row} {k : Nat} : ∀ b ∈ named T k, b ∈ T := by
  intro b hb
  obtain ⟨p, hp, rfl⟩ := List.mem_map.mp hb
  have := (List.mem_filter.mp hp).1
  obtain ⟨b, i⟩ := p
  obtain ⟨hi, hb⟩ := List.getElem?_eq_some_iff.mp (List.mk_mem_zipIdx_iff_getElem?.mp this)
  exact hb ▸ List.getElem_mem hi
theorem nr_sp {n : Nat} {T : List Row} (h : Len n T) (k : Nat) : Sp n T (nr n T k) := Sp.sum h (fun a ha => .one h (named_sub a ha)) .zero
theorem bit_nr {n : Nat} {T : List Row} (h : Len n T) (k p : Nat) : bit (nr n T k) p = par (T.zipIdx.map fun q => k.testBit (T.length - 1 - q.2) && bit q.1 p) := by
  unfold nr
  rw [bit_sumR fun a ha => h a (named_sub a ha)]
  unfold named
  rw [List.map_map]
  exact par_filter T.zipIdx _ _
theorem par_zip {n : Nat} (g : Nat → Bool) {c : Row} : ∀ {T : List Row} {j : Nat}, Red n T → ∀ {i : Nat}, T[i]? = some c → par ((T.zipIdx j).map fun q => g q.2 && bit q.1 (lead c)) = g (j + i)
  | [], j, _, i, h => by simp at h
  | b :: T, j, r, i, h => by
    rw [List.zipIdx_cons, List.map_cons, par_cons]
    have p := (List.pairwise_cons.mp r.dl).1
    cases i with
    | zero =>
      simp only [List.getElem?_cons_zero, Option.some.injEq] at h
      subst h
      rw [par_false]
      · simp only [bit_lead (r.nz b (by simp)), Bool.and_true, Bool.xor_false]
        rfl
      · rintro ⟨d, k⟩ hd
        have hd' : d ∈ T := by
          have := List.mem_map_of_mem (f := Prod.fst) hd
          rwa [List.zipIdx_map_fst] at this
        simp only [(p d hd').2, Bool.and_false]
    | succ i =>
      rw [List.getElem?_cons_succ] at h
      have hc : c ∈ T := List.mem_of_getElem? h
      simp only [(p c hc).1, Bool.and_false, Bool.false_xor]
      rw [par_zip g r.tail h]
      congr 1
      omega
theorem bit_nr_lead {n : Nat} {T : List Row} (r : Red n T) (k : Nat) {i : Nat} {c : Row} (h : T[i]? = some c) : bit (nr n T k) (lead c) = k.testBit (T.length - 1 - i) := by
  rw [bit_nr r.len]
  have := par_zip (fun i => k.testBit (T.length - 1 - i)) (j := 0) r h
  rwa [Nat.zero_add] at this
theorem num_nr {n : Nat} {T : List Row} (r : Red n T) {k : Nat} (hk : k < 2 ^ T.length) : numOf T (nr n T k) = k := by
  apply Nat.eq_of_testBit_eq
  intro j
  have e1 : (bitsAt T (nr n T k)).length = T.length := by simp [bitsAt]
  by_cases hj : j < T.length
  · have h1 := numF_bit (bitsAt T (nr n T k)) 0 (T.length - 1 - j) (by rw [e1]; omega)
    rw [e1] at h1
    have e2 : T.length - 1 - (T.length - 1 - j) = j := by omega
    rw [e2] at h1
    unfold numOf
    rw [h1]
    have hi : T.length - 1 - j < T.length := by omega
    have h2 := bit_nr_lead r k (i := T.length - 1 - j) (List.getElem?_eq_getElem hi)
    rw [e2] at h2
    simp only [bitsAt, List.getD_eq_getElem?_getD, List.getElem?_map, List.getElem?_eq_getElem hi, Option.map_some, Option.getD_some]
    exact h2
  · unfold numOf
    rw [numF_high _ j (by rw [e1]; omega), Nat.testBit_lt_two_pow]
    exact Nat.lt_of_lt_of_le hk (Nat.pow_le_pow_right (by omega) (by omega))
/-! ### numbers ascend as rows do -/
theorem numF_mono : ∀ {bs cs : List Bool} {a b : Nat}, bs.length = cs.length → a < b → numF a bs < numF b cs
  | [], [], _, _, _, h => h
  | [], _ :: _, _, _, h, _ => by simp at h
  | _ :: _, [], _, _, h, _ => by simp at h
  | x :: bs, y :: cs, a, b, hl, h => by
    refine numF_mono (bs := bs) (cs := cs) (by simpa using hl) ?_
    cases x <;> cases y <;> simp <;> omega
theorem numF_first : ∀ {bs cs : List Bool} {a : Nat}, bs.length = cs.length → numF a bs < numF a cs → ∃ i, i < bs.length ∧ (∀ j, j < i → bs.getD j false = cs.getD j false) ∧ bs.getD i false = false ∧ cs.getD i false = true
  | [], [], _, _, h => absurd h (Nat.lt_irrefl _)
  | [], _ :: _, _, h, _ => by simp at h
  | _ :: _, [], _, h, _ => by simp at h
  | x :: bs, y :: cs, a, hl, h => by
    have hl' : bs.length = cs.length := by simpa using hl
    by_cases e : x = y
    · subst e
      obtain ⟨i, h1, h2, h3, h4⟩ := numF_first (bs := bs) (cs := cs) hl' h
      refine ⟨i + 1, by simp; omega, fun j hj => ?_, h3, h4⟩
      cases j with
      | zero => rfl
      | succ j => exact h2 j (by omega)
    · cases x with
      | false =>
        cases y with
        | false => exact absurd rfl e
        | true => exact ⟨0, by simp, fun j hj => absurd hj (by omega), rfl, rfl⟩
      | true =>
        cases y with
        | true => exact absurd rfl e
        | false =>
          have : numF (2 * a + 0) cs < numF (2 * a + 1) bs := numF_mono hl'.symm (by omega)
          have h' : numF (2 * a + 1) bs < numF (2 * a + 0) cs := h
          omega
theorem par_congr {α : Type} {l : List α} {f g : α → Bool} (h : ∀ x ∈ l, f x = g x) : par (l.map f) = par (l.map g) := by
  rw [List.map_congr_left h]
theorem up_get {T : List Row} (u : T.Pairwise fun a b => lead a < lead b) {i j : Nat} {b c : Row} (hij : i ≤ j) (hb : T[i]? = some b) (hc : T[j]? = some c) : lead b ≤ lead c := by
  by_cases e : i = j
  · subst e
    rw [hb] at hc
    cases hc
    exact Nat.le_refl _
  · obtain ⟨hi, rfl⟩ := List.getElem?_eq_some_iff.mp hb
    obtain ⟨hj, rfl⟩ := List.getElem?_eq_some_iff.mp hc
    exact Nat.le_of_lt (List.pairwise_iff_getElem.mp u i j hi hj (by omega))
theorem lt_of_num {n : Nat} {T : List Row} (e : Ech n T) {u v : Row} (su : Sp n T u) (sv : Sp n T v) (h : numOf T u < numOf T v) : rI u < rI v := by
  obtain ⟨i, h1, h2, h3, h4⟩ := numF_first (by simp [bitsAt]) h
  have hi : i < T.length := by simpa [bitsAt] using h1
  have get : ∀ (w : Row) (j : Nat) (hj : j < T.length), (bitsAt T w).getD j false = bit w (lead T[j]) := by
    intro w j hj
    simp [bitsAt, hj]
  rw [get u i hi] at h3
  rw [get v i hi] at h4
  refine lt_of_bit (p := lead T[i]) (by rw [su.len e.len, sv.len e.len]) (fun q hq => ?_) h3 h4
  rw [← e.toRed.cs su, ← e.toRed.cs sv, bit_cs e.len, bit_cs e.len]
  apply par_congr
  intro b hb
  obtain ⟨j, hj, rfl⟩ := List.getElem_of_mem hb
  by_cases hji : j < i
  · have := h2 j hji
    rw [get u j hj, get v j hj] at this
    rw [this]
  · have := up_get e.up (i := i) (j := j) (by omega) (List.getElem?_eq_getElem hi) (List.getElem?_eq_getElem hj)
    rw [bit_before (a := T[j]) (by omega), Bool.and_false, Bool.and_false]
/-! ### all rows of a code -/
def allR (n : Nat) (B : List Row) : List Row := B.foldl (fun found row => found ++ found.map fun one => xr row one) [zeros n]
theorem allR_from {n : Nat} : ∀ {B : List Row}, Len n B → ∀ {F : List Row}, Len n F → (B.foldl (fun found row => found ++ found.map fun one => xr row one) F).length = 2 ^ B.length * F.length ∧
    (∀ f ∈ F, f ∈ B.foldl (fun found row => found ++ found.map fun one => xr row one) F) ∧ ∀ v s, Sp n B s → ∀ f ∈ F, v = xr s f → v ∈ B.foldl (fun found row => found ++ found.map fun one => xr row one) F := by
  have spn : ∀ {b : Row} {B : List Row}, Len n (b :: B) → ∀ {s : Row}, Sp n (b :: B) s → Sp n B s ∨ ∃ t, Sp n B t ∧ s = xr b t := by
    intro b B hB s hs
    have hb := hB b (by simp)
    have hB' : Len n B := fun c hc => hB c (by simp [hc])
    induction hs with
    | zero => exact .inl .zero
    | add hc s ih =>
      rename_i c v
      rcases List.mem_cons.mp hc with rfl | hc'
      · rcases ih with ih | ⟨t, ht, rfl⟩
        · exact .inr ⟨v, ih, rfl⟩
        · refine .inl ?_
          rw [← xr_assoc hb hb (ht.len hB'), xr_self hb, zeros_xr (ht.len hB')]
          exact ht
      · rcases ih with ih | ⟨t, ht, rfl⟩
        · exact .inl (.add hc' ih)
        · refine .inr ⟨xr c t, .add hc' ht, ?_⟩
          have hcl := hB c hc
          rw [← xr_assoc hcl hb (ht.len hB'), xr_comm c b, xr_assoc hb hcl (ht.len hB')]
  intro B
  induction B with
  | nil =>
    intro _ F hF
    refine ⟨by simp, fun f hf => hf, ?_⟩
    intro v s hs f hf e
    have : s = zeros n := by
      cases hs with
      | zero => rfl
      | add h _ => simp at h
    rw [e, this, zeros_xr (hF f hf)]
    exact hf
  | cons b B ih =>
    intro hB F hF
    have hb := hB b (by simp)
    have hB' : Len n B := fun c hc => hB c (by simp [hc])
    have hF' : Len n (F ++ F.map fun one => xr b one) := fun c hc => by
      rcases List.mem_append.mp hc with hc | hc
      · exact hF c hc
      · obtain ⟨d, hd, rfl⟩ := List.mem_map.mp hc
        exact xr_len' hb (hF d hd)
    obtain ⟨h1, h2, h3⟩ := ih hB' hF'
    rw [List.foldl_cons]
    refine ⟨?_, fun f hf => h2 f (by simp [hf]), ?_⟩
    · rw [h1, List.length_append, List.length_map, List.length_cons, Nat.pow_succ, Nat.mul_assoc]
      congr 1
      omega
    · intro v s hs f hf e
      rcases spn hB hs with hs | ⟨t, ht, rfl⟩
      · exact h3 v s hs f (by simp [hf]) e
      · refine h3 v t ht (xr b f) (List.mem_append.mpr (.inr (List.mem_map.mpr ⟨f, hf, rfl⟩))) ?_
        rw [e, xr_comm b t, xr_assoc (ht.len hB') hb (hF f hf)]
theorem allR_len (n : Nat) {B : List Row} (h : Len n B) : (allR n B).length = 2 ^ B.length := by
  have := (allR_from h (F := [zeros n]) (fun c hc => by simp at hc; subst hc; exact zeros_len n)).1
  simpa [allR] using this
theorem allR_mem {n : Nat} {B : List Row} (h : Len n B) {v : Row} (s : Sp n B v) : v ∈ allR n B := by
  have := (allR_from h (F := [zeros n]) (fun c hc => by simp at hc; subst hc; exact zeros_len n)).2.2
  exact this v v s (zeros n) (by simp) (xr_zeros (s.len h)).symm
theorem allR_lenn {n : Nat} {B : List Row} (h : Len n B) : Len n (allR n B) := by
  have key : ∀ (B : List Row), Len n B → ∀ F, Len n F → Len n (B.foldl (fun found row => found ++ found.map fun one => xr row one) F) := by
    intro B
    induction B with
    | nil => exact fun _ F hF => hF
    | cons b B ih =>
      intro hB F hF
      refine ih (fun c hc => hB c (by simp [hc])) _ fun c hc => ?_
      rcases List.mem_append.mp hc with hc | hc
      · exact hF c hc
      · obtain ⟨d, hd, rfl⟩ := List.mem_map.mp hc
        exact xr_len' (hB b (by simp)) (hF d hd)
  exact key B h _ fun c hc => by simp at hc; subst hc; exact zeros_len n
theorem perm_of {α : Type} [BEq α] [LawfulBEq α] : ∀ {l l' : List α}, l.Nodup → (∀ x ∈ l, x ∈ l') → l'.length ≤ l.length → l.Perm l'
  | [], l', _, _, h => by
    have : l' = [] := List.length_eq_zero_iff.mp (by simpa using h)
    rw [this]
  | a :: l, l', nd, sub, h => by
    have ha := sub a (by simp)
    obtain ⟨n1, n2⟩ := List.nodup_cons.mp nd
    have e := List.length_erase_of_mem ha
    have p := perm_of (l := l) (l' := l'.erase a) n2 (fun x hx => by
      have hx' := sub x (by simp [hx])
      have hne : x ≠ a := by
        rintro rfl
        exact n1 hx
      exact (List.mem_erase_of_ne hne).mpr hx') (by simp at h; omega)
    exact (p.cons a).trans (List.perm_cons_erase ha).symm
theorem rI_inj {a b : Row} (h : rI a = rI b) : a = b := by
  unfold rI at h
  exact (List.map_inj_right (f := fun b : Bool => if b then (1 : Int) else 0) (fun x y e => by cases x <;> cases y <;> simp at e <;> rfl)).mp h
/-- the rows ascending are the rows by their numbers -/
theorem sorted_all {n : Nat} {B : List Row} (h : Len n B) (hr : (told n B).length = B.length) : (allR n B).mergeSort leA = (List.range (2 ^ B.length)).map fun k => nr n (told n B) k := by
  obtain ⟨e, ev, _⟩ := told_ok h
  have lt : ∀ {i j : Nat}, i < j → j < 2 ^ B.length → rI (nr n (told n B) i) < rI (nr n (told n B) j) := by
    intro i j hij hj
    refine lt_of_num e (nr_sp e.len i) (nr_sp e.len j) ?_
    rw [num_nr e.toRed (by rw [hr]; omega), num_nr e.toRed (by rw [hr]; omega)]
    exact hij
  have st : ((List.range (2 ^ B.length)).map fun k => nr n (told n B) k).Pairwise fun a b => rI a < rI b := by
    rw [List.pairwise_map]
    refine List.pairwise_lt_range.imp_of_mem ?_
    intro i j hi hj hij
    exact lt hij (List.mem_range.mp hj)
  have nd : ((List.range (2 ^ B.length)).map fun k => nr n (told n B) k).Nodup := by
    refine st.imp ?_
    intro a b hab e
    subst e
    exact List.lt_irrefl _ hab
  have pm : ((List.range (2 ^ B.length)).map fun k => nr n (told n B) k).Perm (allR n B) := by
    refine perm_of nd ?_ (by rw [allR_len n h]; simp)
    intro x hx
    obtain ⟨k, _, rfl⟩ := List.mem_map.mp hx
    exact allR_mem h ((ev _).mp (nr_sp e.len k))
  refine List.Perm.eq_of_pairwise (le := fun a b => leA a b = true) ?_ (List.pairwise_mergeSort leA_trans leA_total _) ?_ ((List.mergeSort_perm _ _).trans pm.symm)
  · intro a b _ _ h1 h2
    rw [leA_iff] at h1 h2
    exact rI_inj (List.le_antisymm h1 h2)
  · refine st.imp ?_
    intro a b hab
    rw [leA_iff]
    exact List.le_of_lt hab
end F2
set_option Elab.async false
set_option linter.all false
set_option maxRecDepth 100000
set_option maxHeartbeats 4000000
set_option autoImplicit false
/-! Wf: data that is small; rows of bits as data. -/
namespace Vi
open PySem L2
structure Ne (d : PyData) (k w : Nat) : Prop where
  lay : d.canLay0 = true
  dep : d.depth ≤ k
  wt : d.weight ≤ w
  sh : d.intsShort 13 = true
  ab : d.showable = true
theorem Ne.up {d : PyData} {k w k' w' : Nat} (h : Ne d k w) (hk : k ≤ k') (hw : w ≤ w') : Ne d k' w' := ⟨h.lay, Nat.le_trans h.dep hk, Nat.le_trans h.wt hw, h.sh, h.ab⟩
theorem Ne.int {i : Int} (h : i.natAbs < 10 ^ 12) : Ne (.int i) 0 40 := by
  have hl : i.natAbs.log2 < 40 := by
    by_cases h0 : i.natAbs = 0
    · rw [h0]; decide
    · rw [Nat.log2_lt h0]
      exact Nat.lt_of_lt_of_le h (by decide)
  refine ⟨rfl, by simp [PyData.depth], ?_, ?_, ?_⟩
  · simp only [PyData.weight]
    split <;> omega
  · simp only [PyData.intsShort, PyData.shown]
    have := int_text_length_le10 (a := i) (k := 12) (by omega) h
    have e : (Str.ofString (toString i)).length ≤ 13 := by
      rw [ofString_length]
      exact this
    exact decide_eq_true e
  · simp only [PyData.showable, decide_eq_true_eq]
    omega
theorem Ne.all {xs : List PyData} {k w m : Nat} (h : ∀ x ∈ xs, Ne x k w) (hl : xs.length ≤ m) : PyData.canLayAll0 xs = true ∧ PyData.depthAll xs ≤ k ∧ PyData.weightAll xs ≤ m * (w + 1) ∧ PyData.intsShortAll 13 xs = true ∧ PyData.showableAll xs = true := by
  induction xs generalizing m with
  | nil => simp [PyData.canLayAll0, PyData.depthAll, PyData.weightAll, PyData.intsShortAll, PyData.showableAll]
  | cons x xs ih =>
    obtain ⟨m, rfl⟩ : ∃ j, m = j + 1 := ⟨m - 1, by simp at hl; omega⟩
    obtain ⟨h1, h2, h3, h4, h5⟩ := ih (m := m) (fun y hy => h y (by simp [hy])) (by simpa using hl)
    have hx := h x (by simp)
    refine ⟨by simp [PyData.canLayAll0, hx.lay, h1], ?_, ?_, by simp [PyData.intsShortAll, hx.sh, h4], by simp [PyData.showableAll, hx.ab, h5]⟩
    · simp only [PyData.depthAll]
      have := hx.dep
      omega
    · simp only [PyData.weightAll]
      have := hx.wt
      rw [Nat.succ_mul]
      omega
theorem Ne.tup {xs : List PyData} {k w m : Nat} (h : ∀ x ∈ xs, Ne x k w) (hl : xs.length ≤ m) : Ne (.tuple xs) (k + 1) (m * (w + 1)) := by
  obtain ⟨h1, h2, h3, h4, h5⟩ := Ne.all h hl
  exact ⟨by simpa [PyData.canLay0] using h1, by simpa [PyData.depth] using h2, by simpa [PyData.weight] using h3, by simpa [PyData.intsShort] using h4, by simpa [PyData.showable] using h5⟩
theorem Ne.lst {xs : List PyData} {k w m : Nat} (h : ∀ x ∈ xs, Ne x k w) (hl : xs.length ≤ m) : Ne (.list xs) (k + 1) (m * (w + 1)) := by
  obtain ⟨h1, h2, h3, h4, h5⟩ := Ne.all h hl
  exact ⟨by simpa [PyData.canLay0] using h1, by simpa [PyData.depth] using h2, by simpa [PyData.weight] using h3, by simpa [PyData.intsShort] using h4, by simpa [PyData.showable] using h5⟩
theorem Ne.non : Ne .none 0 0 := ⟨rfl, by simp [PyData.depth], by simp [PyData.weight], rfl, rfl⟩
theorem Ne.repr {d : PyData} {k w : Nat} (h : Ne d k w) (hk : k ≤ 60) (hw : w ≤ 2 ^ 20) : reprOk d = true := by
  have hd := PyData.hasDict_of_canLay d h.lay
  have hl : PyData.layable0 d = true := by
    simp only [PyData.layable0, h.lay, Bool.true_and, Bool.and_eq_true, decide_eq_true_eq]
    exact ⟨Nat.le_trans h.dep (by omega), Nat.le_trans h.wt hw⟩
  have hs := PyProof.Rows.shown_le13 hl h.sh
  have hdep := h.dep
  simp only [reprOk, h.ab, small_le (Nat.le_trans hs (by decide)), hd, Bool.true_and, Bool.not_false, Bool.and_true, decide_eq_true_eq]
  omega
theorem Ne.shaped {d : PyData} {k w : Nat} (h : Ne d k w) (hk : k ≤ 64) : SeqAt.shaped d = true := by
  simp only [SeqAt.shaped, h.lay, Bool.true_and, decide_eq_true_eq]
  exact Nat.le_trans h.dep hk
theorem bl_repr {st : Sto} {d : PyData} {k w : Nat} {G : D → Prop} (h : Ne d k w) (hk : k ≤ 60) (hw : w ≤ 2 ^ 20) (g : G (.v (.str d.shown))) : Ok (blt st .repr [.v d]) G := ⟨_, by simp [blt, toP, h.repr hk hw], g⟩
/-! ### rows of bits -/
def bitP (b : Bool) : PyData := .int (if b then 1 else 0)
abbrev rowP (r : F2.Row) : PyData := .tuple (r.map bitP)
abbrev rowD (r : F2.Row) : D := .v (rowP r)
theorem bitP_ne (b : Bool) : Ne (bitP b) 0 40 := by
  cases b
  · exact Ne.int (by decide)
  · exact Ne.int (by decide)
theorem rowP_ne {r : F2.Row} {m : Nat} (h : r.length ≤ m) : Ne (rowP r) 1 (m * 41) := Ne.tup (k := 0) (w := 40) (fun x hx => by
  obtain ⟨b, _, rfl⟩ := List.mem_map.mp hx
  exact bitP_ne b) (by simpa using h)
theorem rows_ne {l : List F2.Row} {m j : Nat} (h : ∀ r ∈ l, r.length ≤ m) (hj : l.length ≤ j) : Ne (.tuple (l.map rowP)) 2 (j * (m * 41 + 1)) ∧ Ne (.list (l.map rowP)) 2 (j * (m * 41 + 1)) := by
  have : ∀ x ∈ l.map rowP, Ne x 1 (m * 41) := fun x hx => by
    obtain ⟨b, hb, rfl⟩ := List.mem_map.mp hx
    exact rowP_ne (h b hb)
  exact ⟨Ne.tup this (by simpa using hj), Ne.lst this (by simpa using hj)⟩
theorem cmp_ne_bit {st : Sto} {a b : Bool} {B : Bool → Prop} (h : B (a ^^ b)) : Ok (cmpop st .NotEq (.v (bitP a)) (.v (bitP b))) B := ⟨_, by cases a <;> cases b <;> rfl, h⟩
theorem cmp_eq_bit {st : Sto} {a b : Bool} {B : Bool → Prop} (h : B (a == b)) : Ok (cmpop st .Eq (.v (bitP a)) (.v (bitP b))) B := ⟨_, by cases a <;> cases b <;> rfl, h⟩
theorem cmp_eq_one {st : Sto} {a : Bool} {B : Bool → Prop} (h : B a) : Ok (cmpop st .Eq (.v (bitP a)) (.v (.int 1))) B := ⟨_, by cases a <;> rfl, h⟩
theorem idx_row {st : Sto} {r : F2.Row} {p : Nat} {G : D → Prop} (h : p < r.length) (g : G (.v (bitP (F2.bit r p)))) : Ok (index st (rowD r) (.v (.int (p : Nat)))) G := by
  refine ⟨_, ?_, g⟩
  have e : index st (rowD r) (.v (.int (p : Nat))) = R.of (atI ((r.map bitP).map D.v) (p : Int)) := rfl
  rw [e, Vi.atI_nat]
  simp [F2.bit, h]
theorem intsOf_row : ∀ a : F2.Row, intsOf (a.map bitP) = some (F2.rI a)
  | [] => rfl
  | x :: a => by
    show (intsOf (a.map bitP)).map _ = _
    rw [intsOf_row a]
    rfl
theorem rowP_rI (a : F2.Row) : rowP a = .tuple ((F2.rI a).map .int) := by
  simp [rowP, F2.rI, bitP, Function.comp_def]
theorem mem_row {a : F2.Row} : (1 : Int) ∈ F2.rI a ↔ F2.has a := by
  unfold F2.rI F2.has
  rw [List.mem_map]
  constructor
  · rintro ⟨b, hb, e⟩
    cases b with
    | true => exact hb
    | false => simp at e
  · exact fun h => ⟨true, h, rfl⟩
theorem idx_lead : ∀ a : F2.Row, (F2.rI a).idxOf 1 = F2.lead a
  | [] => rfl
  | true :: a => by simp [F2.rI, F2.lead, List.idxOf_cons]
  | false :: a => by
    have := idx_lead a
    simp only [F2.rI, F2.lead] at this
    simp [F2.rI, F2.lead, List.idxOf_cons, this]
theorem in_row {st : Sto} {a : F2.Row} {B : Bool → Prop} (hs : a.length ≤ 1000) (h : B (decide (F2.has a))) : Ok (cmpop st .In (.v (.int 1)) (rowD a)) B := by
  refine ⟨_, ?_, h⟩
  have s1 : SeqAt.shaped (.tuple (a.map bitP)) = true := (rowP_ne hs).shaped (by decide)
  have s2 : SeqAt.shaped (.list (a.map bitP)) = true := (Ne.lst (xs := a.map bitP) (k := 0) (w := 40) (m := 1000) (fun x hx => by
    obtain ⟨b, _, rfl⟩ := List.mem_map.mp hx
    exact bitP_ne b) (by simpa using hs)).shaped (by decide)
  have e : cmpop st .In (.v (.int 1)) (rowD a) = match plains ((a.map bitP).map D.v) with
      | some qs => if SeqAt.shaped (.int 1) && SeqAt.shaped (.list qs) && SeqAt.shaped (.tuple qs) then .ok (qs.any fun z => PyData.eqv z (.int 1)) else .no
      | none => .no := rfl
  rw [e, plains_map]
  simp only [s1, s2, shaped_int, Bool.and_self, if_true, R.ok.injEq]
  clear e s1 s2 hs h
  induction a with
  | nil => rfl
  | cons x a ih =>
    rw [List.map_cons, List.any_cons, ih]
    cases x <;> simp [bitP, PyData.eqv, F2.has] <;> exact decide_eq_decide.mpr Iff.rfl
theorem eqv_row (a b : F2.Row) : PyData.eqv (rowP a) (rowP b) = decide (a = b) := by
  induction a generalizing b with
  | nil => cases b <;> simp [rowP, PyData.eqv, PyData.eqvAll]
  | cons x a ih =>
    cases b with
    | nil => simp [rowP, PyData.eqv, PyData.eqvAll]
    | cons y b =>
      have := ih b
      simp only [rowP, PyData.eqv] at this
      simp only [rowP, List.map_cons, PyData.eqv, PyData.eqvAll, this]
      cases x <;> cases y <;> simp [bitP, PyData.eqv]
theorem ne_row {st : Sto} {a b : F2.Row} {B : Bool → Prop} (ha : a.length ≤ 1000) (hb : b.length ≤ 1000) (h : B (!decide (a = b))) : Ok (cmpop st .NotEq (rowD a) (rowD b)) B := by
  refine ⟨_, ?_, h⟩
  have e : cmpop st .NotEq (rowD a) (rowD b) = if eqOk (rowP a) (rowP b) then .ok (!PyData.eqv (rowP a) (rowP b)) else .no := rfl
  rw [e, eqv_row]
  simp only [eqOk, (rowP_ne ha).shaped (by decide), (rowP_ne hb).shaped (by decide), Bool.and_self, if_true]
theorem ne_nil {st : Sto} {l : List F2.Row} {m : Nat} {B : Bool → Prop} (ha : ∀ r ∈ l, r.length ≤ m) (h : B (!decide (l = []))) : Ok (cmpop st .NotEq (.v (.list (l.map rowP))) (.v (.list []))) B := by
  refine ⟨_, ?_, h⟩
  have e : cmpop st .NotEq (.v (.list (l.map rowP))) (.v (.list [])) = if eqOk (.list (l.map rowP)) (.list []) then .ok (!PyData.eqv (.list (l.map rowP)) (.list [])) else .no := rfl
  rw [e]
  have s2 : SeqAt.shaped (.list []) = true := by rfl
  simp only [eqOk, ((rows_ne ha (Nat.le_refl _)).2).shaped (by decide), s2, Bool.and_self, if_true]
  cases l <;> simp [PyData.eqv, PyData.eqvAll]
theorem alike_row : ∀ a b : F2.Row, PySem.W.alike (rowP a) (rowP b) = true := by
  intro a
  induction a with
  | nil => intro b; simp [rowP, PySem.W.alike, PySem.W.alikeAll]
  | cons x a ih =>
    intro b
    cases b with
    | nil => simp [rowP, PySem.W.alike, PySem.W.alikeAll]
    | cons y b =>
      have := ih b
      simp only [rowP, PySem.W.alike] at this
      simp [rowP, PySem.W.alike, PySem.W.alikeAll, bitP, this]
theorem dataLt_row (a b : F2.Row) : PySem.W.dataLt (rowP a) (rowP b) = decide (F2.rI a < F2.rI b) := by
  rw [rowP_rI, rowP_rI, PySem.W.dataLt_tuple]
  exact PySem.W.dataLt_ints _ _
theorem sort_rows {st : Sto} {rev : Bool} {l : List F2.Row} {n : Nat} {G : D → Prop} (hn : 0 < n) (hn2 : n ≤ 1000) (h : F2.Len n l) (hl : l.length ≤ 16777216) (g : G (.v (.list ((l.mergeSort (if rev then F2.leD else F2.leA)).map rowP)))) : Ok (sortedOf st rev (.v (.list (l.map rowP)))) G := by
  refine ⟨_, ?_, g⟩
  have e : sortedOf st rev (.v (.list (l.map rowP))) = match plains ((l.map rowP).map D.v) with
      | some ps => if sortOk ps then .ok (.v (.list (ps.mergeSort (PySem.W.dataLe rev id)))) else .no
      | none => .no := rfl
  rw [e, plains_map]
  have so : sortOk (l.map rowP) = true := by
    simp only [sortOk, Bool.and_eq_true, Bool.or_eq_true]
    refine ⟨⟨⟨small_le (by simpa using hl), ?_⟩, .inl ?_⟩, ?_⟩
    · simp only [alikeAllB, List.all_eq_true]
      intro p hp q hq
      obtain ⟨a, _, rfl⟩ := List.mem_map.mp hp
      obtain ⟨b, _, rfl⟩ := List.mem_map.mp hq
      exact alike_row a b
    · rw [List.all_eq_true]
      intro p hp
      obtain ⟨a, ha, rfl⟩ := List.mem_map.mp hp
      rfl
    · rw [List.all_eq_true]
      intro p hp
      obtain ⟨a, ha, rfl⟩ := List.mem_map.mp hp
      have := (rowP_ne (r := a) (m := 1000) (by rw [h a ha]; exact hn2)).dep
      simp only [decide_eq_true_eq]
      omega
  simp only [so, if_true]
  congr 3
  rw [List.map_mergeSort]
  intro a _ b _
  cases rev with
  | true =>
    show (!decide (F2.rI a < F2.rI b)) = PySem.W.dataLe true id (rowP a) (rowP b)
    rw [PySem.W.dataLe_eq]
    simp only [cond_true, id, dataLt_row]
  | false =>
    show (!decide (F2.rI b < F2.rI a)) = PySem.W.dataLe false id (rowP a) (rowP b)
    rw [PySem.W.dataLe_eq]
    simp only [cond_false, id, dataLt_row]
theorem rows_tup {rows : List F2.Row} : (rows.map rowP).map D.v = rows.map rowD := by rw [List.map_map]; rfl
end Vi
set_option Elab.async false
set_option linter.all false
set_option maxRecDepth 100000
set_option maxHeartbeats 400000
set_option autoImplicit false
/-! Wg: the source of drawn numbers. -/
namespace Vi
open PySem L2
section
variable {C : Cfg} {env env' : En} {st : Sto} {Q : D → Sto → Prop} {G : D → Prop}
theorem op_mul {i j : Int} (hm : mulOk i j = true) (h : G (.v (.int (i * j)))) : Ok (binop st .Mult (.v (.int i)) (.v (.int j))) G := ⟨_, by simp [binop, binI, hm], h⟩
theorem op_fdiv {i j : Int} (h1 : j ≠ 0) (h2 : j.natAbs < 1073741824) (h : G (.v (.int (i.fdiv j)))) : Ok (binop st .FloorDiv (.v (.int i)) (.v (.int j))) G := ⟨_, by simp [binop, binI, h1, h2], h⟩
theorem bl_lenR {n : Nat} {xs : List D} (hx : st[n]? = some (.lst xs)) (h : G (.v (.int (xs.length : Nat)))) : Ok (blt st .len [.ref n]) G := ⟨_, by simp [blt, lenOf, seqOf, hx], h⟩
theorem it_scr {ns : List Int} {P : Src → Prop} (h : P (.items (ns.map fun n => .v (.int n)))) : Ok (itOf st (.scr ns)) P := ⟨_, rfl, h⟩
theorem rv_lst {xs : List PyData} (hs : xs.length ≤ 16777216) (h : G (.v (.list xs.reverse))) : Ok (reversed st (.v (.list xs))) G := by
  refine ⟨_, ?_, h⟩
  have e : reversed st (.v (.list xs)) = mkLst (xs.map D.v).reverse := rfl
  rw [e, ← List.map_reverse, mkLst_mapV (by simpa using hs)]
theorem is_lst {xs : List PyData} {P : List PyData → Prop} (h : P xs) : ∃ ys, D.v (.list xs) = .v (.list ys) ∧ P ys := ⟨xs, rfl, h⟩
theorem mt_ref {n : Nat} {xs : List D} {m : Mt} {p : Prop} (hm : mtTup m = false) (hx : st[n]? = some (.lst xs)) (h : p) : (∃ ds, seqOf st (.ref n) = some (mtTup m, ds)) ∧ p := by
  refine ⟨⟨xs, ?_⟩, h⟩
  simp [seqOf, hx, hm]
theorem me_pop {n : Nat} {xs : List D} {d : D} (hx : st[n]? = some (.lst xs)) (hd : xs.getLast? = some d) (q : Q d (st.set n (.lst xs.dropLast))) : Ok2 (meth st .pop (.ref n) []) Q := .of (by simp [meth, hx, hd]) q
theorem me_popAt {n i : Nat} {xs : List D} {d : D} (hi : i < 2 ^ 60) (hx : st[n]? = some (.lst xs)) (hd : xs[i]? = some d) (q : Q d (st.set n (.lst (xs.eraseIdx i)))) : Ok2 (meth st .popAt (.ref n) [.v (.int (i : Nat))]) Q := by
  refine .of ?_ q
  have h1 : decide ((i : Int) < 4611686018427387904) = true := by simp; omega
  have h2 : decide ((0 : Int) ≤ (i : Int)) = true := by simp
  simp [meth, hx, hd]
  omega
theorem me_append {n : Nat} {xs : List D} {d : D} (hx : st[n]? = some (.lst xs)) (hl : xs.length < 16777216) (q : Q (.v .none) (st.set n (.lst (xs ++ [d])))) : Ok2 (meth st .append (.ref n) [d]) Q := by
  refine .of ?_ q
  have : xs.length < sizeLine := hl
  simp [meth, hx, this]
theorem to_dct {n : Nat} {kvs : List (Str × D)} {s : Str} {d : D} {P : Sto → Prop} (hx : st[n]? = some (.dct kvs)) (hl : kvs.length < 1000) (h : P (st.set n (.dct (putS kvs s d)))) : Ok (store st (.ref n) (.v (.str s)) d) P := ⟨_, by simp [store, store0, dPut, hx, hl], h⟩
end
/-! ### the source -/
structure Sr where
  cells : List Nat
  left : Nat
  mixed : Nat
  turn : Nat
abbrev natD (n : Nat) : D := .v (.int (n : Nat))
abbrev srD (l m t : Nat) : List (Str × D) := [("cells", .ref 0), ("left", natD l), ("mixed", natD m), ("turn", natD t)]
abbrev Sr.st (σ : Sr) (r : Sto) : Sto := .lst (σ.cells.map natD) :: .dct (srD σ.left σ.mixed σ.turn) :: r
structure Sr.ok (σ : Sr) : Prop where
  few : σ.cells.length ≤ 63
  low : σ.mixed < 2 ^ 31
theorem ne_cl : (("cells" : Str) = "left") = False := eq_false (by decide +kernel)
theorem ne_cm : (("cells" : Str) = "mixed") = False := eq_false (by decide +kernel)
theorem ne_ct : (("cells" : Str) = "turn") = False := eq_false (by decide +kernel)
theorem ne_lm : (("left" : Str) = "mixed") = False := eq_false (by decide +kernel)
theorem ne_lt : (("left" : Str) = "turn") = False := eq_false (by decide +kernel)
theorem ne_mt : (("mixed" : Str) = "turn") = False := eq_false (by decide +kernel)
theorem ne_lc : (("left" : Str) = "cells") = False := eq_false (by decide +kernel)
theorem ne_mc : (("mixed" : Str) = "cells") = False := eq_false (by decide +kernel)
theorem ne_tc : (("turn" : Str) = "cells") = False := eq_false (by decide +kernel)
theorem ne_ml : (("mixed" : Str) = "left") = False := eq_false (by decide +kernel)
theorem ne_tl : (("turn" : Str) = "left") = False := eq_false (by decide +kernel)
theorem ne_tm : (("turn" : Str) = "mixed") = False := eq_false (by decide +kernel)
theorem beq_str {a b : Str} : (a == b) = decide (a = b) := by
  by_cases h : a = b
  · subst h; simp
  · simp [h]
variable {l m t : Nat}
theorem lk_c : (srD l m t).lookup ("cells" : Str) = some (.ref 0) := by simp only [List.lookup, beq_str, decide_true]
theorem lk_l : (srD l m t).lookup ("left" : Str) = some (natD l) := by simp only [List.lookup, beq_str, ne_lc, decide_false, decide_true]
theorem lk_m : (srD l m t).lookup ("mixed" : Str) = some (natD m) := by simp only [List.lookup, beq_str, ne_mc, ne_ml, decide_false, decide_true]
theorem lk_t : (srD l m t).lookup ("turn" : Str) = some (natD t) := by simp only [List.lookup, beq_str, ne_tc, ne_tl, ne_tm, decide_false, decide_true]
theorem pt_l {x : Nat} : putS (srD l m t) "left" (natD x) = srD x m t := by
  simp only [putS, lk_l, Option.isSome_some, if_true, List.map_cons, List.map_nil, ne_cl, ne_ml, ne_tl, if_false]
theorem pt_m {x : Nat} : putS (srD l m t) "mixed" (natD x) = srD l x t := by
  simp only [putS, lk_m, Option.isSome_some, if_true, List.map_cons, List.map_nil, ne_cm, ne_lm, ne_tm, if_false]
theorem pt_t {x : Nat} : putS (srD l m t) "turn" (natD x) = srD l m x := by
  simp only [putS, lk_t, Option.isSome_some, if_true, List.map_cons, List.map_nil, ne_ct, ne_lt, ne_mt, if_false]
theorem mul_small {i j : Int} (h : (-18446744073709551616 < i ∧ i < 18446744073709551616) ∨ (-18446744073709551616 < j ∧ j < 18446744073709551616)) : mulOk i j = true := by
  unfold mulOk
  simp only [Bool.or_eq_true, Bool.and_eq_true, decide_eq_true_eq]
  exact h
theorem list_l {st : Sto} {xs : List PyData} (h : xs.length ≤ 16777216) : blt st .list [.v (.list xs)] = .ok (.v (.list xs)) := blt_list_l h
theorem list_t {st : Sto} {xs : List PyData} (h : xs.length ≤ 16777216) : blt st .list [.v (.tuple xs)] = .ok (.v (.list xs)) := blt_list_t h
theorem list_r {st : Sto} {n : Nat} {xs : List PyData} (hx : st[n]? = some (.lst (xs.map D.v))) (h : xs.length ≤ 16777216) : blt st .list [.ref n] = .ok (.v (.list xs)) := by
  simp only [blt, seqOf, hx]
  exact mkLst_mapV h
theorem op_addR {st : Sto} {n : Nat} {xs ys : List PyData} {G : D → Prop} (hx : st[n]? = some (.lst (xs.map D.v))) (hs : xs.length + ys.length ≤ 16777216) (h : G (.v (.list (xs ++ ys)))) : Ok (binop st .Add (.ref n) (.v (.list ys))) G := by
  refine ⟨_, ?_, h⟩
  have e : binop st .Add (.ref n) (.v (.list ys)) = match seqOf st (.ref n), seqOf st (.v (.list ys)) with
    | some (false, ds), some (false, es) => if small (ds.length + es.length) then mkLst (ds ++ es) else .no
    | _, _ => .no := rfl
  rw [e]
  simp only [seqOf, hx]
  rw [List.length_map, List.length_map, if_pos (small_le hs), ← List.map_append, mkLst_mapV (by simpa using hs)]
theorem op_zeros {st : Sto} {n : Nat} {G : D → Prop} (h1 : 0 < n) (h2 : n ≤ 1000) (h : G (rowD (F2.zeros n))) : Ok (binop st .Mult (.v (.tuple [.int 0])) (.v (.int (n : Nat)))) G := by
  refine ⟨_, ?_, h⟩
  have e : binop st .Mult (.v (.tuple [.int 0])) (.v (.int (n : Nat))) = if decide (0 ≤ (n : Int)) && decide ((n : Int) ≤ 1000) && decide ([PyData.int 0].length = 1) then .ok (.v (.tuple (List.replicate (n : Int).toNat [PyData.int 0]).flatten)) else .no := rfl
  rw [e, if_pos (by simp; omega)]
  congr 3
  simp only [Int.toNat_natCast, F2.zeros, List.map_replicate]
  show (List.replicate n [PyData.int 0]).flatten = List.replicate n (PyData.int 0)
  clear h h1 h2 e
  induction n with
  | zero => rfl
  | succ n ih => rw [List.replicate_succ, List.replicate_succ, List.flatten_cons, ih]; rfl
theorem op_rep {st : Sto} {n : Nat} {xs : List PyData} {G : D → Prop} (hs : xs.length * n ≤ 1000) (hn : n < 1000) (h : G (.v (.list (List.replicate n xs).flatten))) : Ok (binop st .Mult (.v (.list xs)) (.v (.int (n : Nat)))) G := by
  refine ⟨_, ?_, h⟩
  have e : binop st .Mult (.v (.list xs)) (.v (.int (n : Nat))) = if decide (0 ≤ (n : Int)) && decide ((n : Int) < 2 ^ 62) && small ((xs.map D.v).length * (n : Int).toNat) then mkLst (List.replicate (n : Int).toNat (xs.map D.v)).flatten else .no := rfl
  have e2 : (List.replicate n (xs.map D.v)).flatten = (List.replicate n xs).flatten.map D.v := by
    rw [List.map_flatten, List.map_replicate]
  rw [e, if_pos ?_]
  · rw [Int.toNat_natCast, e2, mkLst_mapV]
    rw [List.length_flatten, List.map_replicate, List.sum_replicate_nat]
    rw [Nat.mul_comm]
    omega
  · rw [Int.toNat_natCast, List.length_map, small_le (by omega)]
    simp
    omega
theorem sl_take {st : Sto} {xs : List PyData} {k : Nat} {G : D → Prop} (hl : xs.length ≤ 16777216) (h : G (.v (.list (xs.take k)))) : Ok (sliced st (.v (.list xs)) none (some (k : Nat))) G := by
  refine ⟨_, ?_, h⟩
  have e : sliced st (.v (.list xs)) none (some ((k : Nat) : Int)) = mkLst (cut (xs.map D.v) none (some (k : Int))) := rfl
  have e2 : cut (xs.map D.v) none (some (k : Int)) = (xs.take k).map D.v := by
    unfold cut
    rw [HT.sIx_none, HT.sIx_nat, List.drop_zero, Nat.sub_zero, List.map_take, List.length_map]
    rw [List.take_eq_take_iff]
    simp
  rw [e, e2, mkLst_mapV (by simp; omega)]
theorem perm_map {α β : Type} {f : α → β} {ps qs : List β} (h : ps.Perm qs) : ∀ {l : List α}, qs = l.map f → ∃ l' : List α, l'.Perm l ∧ ps = l'.map f := by
  induction h with
  | nil => intro l e; exact ⟨l, .refl _, e⟩
  | cons x h ih =>
    intro l e
    cases l with
    | nil => simp at e
    | cons y l =>
      simp only [List.map_cons, List.cons.injEq] at e
      obtain ⟨l', h1, h2⟩ := ih e.2
      exact ⟨y :: l', h1.cons y, by rw [List.map_cons, ← h2, e.1]⟩
  | swap x y l0 =>
    intro l e
    match l, e with
    | a :: b :: l, e =>
      simp only [List.map_cons, List.cons.injEq] at e
      exact ⟨b :: a :: l, .swap _ _ _, by rw [List.map_cons, List.map_cons, ← e.1, ← e.2.1, ← e.2.2]⟩
  | trans _ _ ih1 ih2 =>
    intro l e
    obtain ⟨l1, p1, e1⟩ := ih2 e
    obtain ⟨l2, p2, e2⟩ := ih1 e1
    exact ⟨l2, p2.trans p1, e2⟩
end Vi
set_option Elab.async false
set_option linter.all false
set_option maxRecDepth 100000
set_option autoImplicit false
/-! Wh: ranks; rows made of others; exchange. -/
namespace F2
theorem spn {n : Nat} {b : Row} {B : List Row} (hB : Len n (b :: B)) {s : Row} (hs : Sp n (b :: B) s) : Sp n B s ∨ ∃ t, Sp n B t ∧ s = xr b t := by
  have hb := hB b (by simp)
  have hB' : Len n B := fun c hc => hB c (by simp [hc])
  induction hs with
  | zero => exact .inl .zero
  | add hc s ih =>
    rename_i c v
    rcases List.mem_cons.mp hc with rfl | hc'
    · rcases ih with ih | ⟨t, ht, rfl⟩
      · exact .inr ⟨v, ih, rfl⟩
      · refine .inl ?_
        rw [← xr_assoc hb hb (ht.len hB'), xr_self hb, zeros_xr (ht.len hB')]
        exact ht
    · rcases ih with ih | ⟨t, ht, rfl⟩
      · exact .inl (.add hc' ih)
      · refine .inr ⟨xr c t, .add hc' ht, ?_⟩
        have hcl := hB c hc
        rw [← xr_assoc hcl hb (ht.len hB'), xr_comm c b, xr_assoc hb hcl (ht.len hB')]
theorem sp_zero {n p : Nat} {B : List Row} (hB : Len n B) (h : ∀ b ∈ B, bit b p = false) {s : Row} (hs : Sp n B s) : bit s p = false := by
  induction hs with
  | zero => exact bit_zeros n p
  | add hc s ih =>
    rw [bit_xr (by rw [hB _ hc, s.len hB]), h _ hc, ih]
    rfl
/-! ### ranks -/
theorem told_tr0 {n : Nat} {B : List Row} (h : Len n B) : (told n B).length = (tr0 B).length := by
  rw [← both h]
  exact (List.mergeSort_perm _ _).length_eq
theorem Len.snoc {n : Nat} {F : List Row} {v : Row} (hF : Len n F) (hv : v.length = n) : Len n (F ++ [v]) := fun c hc => by
  rcases List.mem_append.mp hc with hc | hc
  · exact hF c hc
  · simp at hc
    subst hc
    exact hv
theorem rank_in {n : Nat} {F : List Row} (h : Len n F) {v : Row} (s : Sp n F v) : told n (F ++ [v]) = told n F := by
  have hl := h.snoc (s.len h)
  refine told_eqv hl h (.of hl h ?_ fun b hb => .one hl (by simp [hb]))
  intro b hb
  rcases List.mem_append.mp hb with hb | hb
  · exact .one h hb
  · simp at hb
    subst hb
    exact s
theorem rank_out {n : Nat} {F : List Row} (h : Len n F) {v : Row} (hv : v.length = n) (s : ¬ Sp n F v) : (told n (F ++ [v])).length = (told n F).length + 1 := by
  have hl := h.snoc hv
  rw [told_tr0 hl, told_tr0 h]
  have e : tr0 (F ++ [v]) = step1 (tr0 F) v := by
    unfold tr0
    rw [List.foldl_append]
    rfl
  rw [e]
  obtain ⟨r, ev⟩ := tr0_ok h
  obtain ⟨h1, _, _, t, ht, h5⟩ := redu_ok r hv
  unfold step1
  rw [if_pos ?_]
  · exact addR_len _ _
  · refine Classical.byContradiction fun hn => s ?_
    have hz := zeros_of h1 hn
    rw [h5] at hz
    have : v = t := by
      have h6 := xr_cancel hv (ht.len r.len)
      rw [hz, zeros_xr (ht.len r.len)] at h6
      exact h6.symm
    rw [this]
    exact (ev t).mp ht
theorem rank_le {n : Nat} {F : List Row} (h : Len n F) {v : Row} (hv : v.length = n) : (told n (F ++ [v])).length ≤ (told n F).length + 1 := by
  by_cases s : Sp n F v
  · rw [rank_in h s]; omega
  · rw [rank_out h hv s]; omega
def Ind (n : Nat) (F : List Row) : Prop := (told n F).length = F.length
theorem erase_perm {F : List Row} {i : Nat} (hi : i < F.length) : (F.eraseIdx i ++ [F[i]]).Perm F := by
  have e1 : F = F.take i ++ F[i] :: F.drop (i + 1) := by rw [List.getElem_cons_drop hi, List.take_append_drop]
  have p1 : (F[i] :: (F.take i ++ F.drop (i + 1))).Perm (F.take i ++ F[i] :: F.drop (i + 1)) := List.perm_middle.symm
  rw [← e1] at p1
  rw [List.eraseIdx_eq_take_drop_succ]
  exact List.perm_append_singleton _ _ |>.trans p1
theorem erase_len {n : Nat} {F : List Row} (h : Len n F) (i : Nat) : Len n (F.eraseIdx i) := fun b hb => h b (List.mem_of_mem_eraseIdx hb)
theorem Ind.erase {n : Nat} {F : List Row} (h : Len n F) (d : Ind n F) {i : Nat} (hi : i < F.length) : Ind n (F.eraseIdx i) := by
  have hl := erase_len h i
  have hx : F[i].length = n := h _ (List.getElem_mem hi)
  have e := told_perm (hl.snoc hx) (erase_perm hi)
  have h1 := rank_le hl hx
  rw [e] at h1
  have h2 := (told_ok hl).2.2
  have h3 := List.length_eraseIdx_of_lt hi
  unfold Ind at d ⊢
  omega
theorem Ind.not_in {n : Nat} {F : List Row} (h : Len n F) (d : Ind n F) {i : Nat} (hi : i < F.length) : ¬ Sp n (F.eraseIdx i) F[i] := by
  intro s
  have hl := erase_len h i
  have hx : F[i].length = n := h _ (List.getElem_mem hi)
  have e := told_perm (hl.snoc hx) (erase_perm hi)
  have h1 := rank_in hl s
  rw [e] at h1
  have h2 := (told_ok hl).2.2
  have h3 := List.length_eraseIdx_of_lt hi
  unfold Ind at d
  rw [h1] at d
  omega
/-- with v instead of the row i -/
def inst (F : List Row) (i : Nat) (v : Row) : List Row := F.take i ++ v :: F.drop (i + 1)
theorem inst_perm (F : List Row) (i : Nat) (v : Row) : (inst F i v).Perm (F.eraseIdx i ++ [v]) := by
  unfold inst
  rw [List.eraseIdx_eq_take_drop_succ]
  exact List.perm_middle.trans (List.perm_append_singleton _ _).symm
theorem inst_rank {n : Nat} {F : List Row} (h : Len n F) (d : Ind n F) {i : Nat} (hi : i < F.length) {v : Row} (hv : v.length = n) :
    (told n (inst F i v)).length = (told n (F.eraseIdx i ++ [v])).length ∧ (Sp n (F.eraseIdx i) v → (told n (inst F i v)).length + 1 = F.length) ∧ (¬ Sp n (F.eraseIdx i) v → (told n (inst F i v)).length = F.length) := by
  have hl := erase_len h i
  have e := told_perm (hl.snoc hv) (inst_perm F i v).symm
  have h2 := d.erase h hi
  have h3 := List.length_eraseIdx_of_lt hi
  unfold Ind at h2
  rw [← e]
  refine ⟨rfl, fun s => ?_, fun s => ?_⟩
  · rw [rank_in hl s]; omega
  · rw [rank_out hl hv s]; omega
/-! ### rows made of others -/
def comb (n : Nat) : List Row → (Nat → Bool) → Row
  | [], _ => zeros n
  | b :: B, χ => if χ 0 then xr b (comb n B fun i => χ (i + 1)) else comb n B fun i => χ (i + 1)
theorem comb_len {n : Nat} : ∀ {B : List Row}, Len n B → ∀ χ, (comb n B χ).length = n
  | [], _, _ => zeros_len n
  | b :: B, h, χ => by
    have := comb_len (B := B) (fun c hc => h c (by simp [hc])) fun i => χ (i + 1)
    unfold comb
    split
    · exact xr_len' (h b (by simp)) this
    · exact this
theorem comb_xor {n : Nat} : ∀ {B : List Row}, Len n B → ∀ χ ψ, comb n B (fun i => χ i ^^ ψ i) = xr (comb n B χ) (comb n B ψ)
  | [], _, _, _ => by rw [comb, comb, comb, xr_zeros (zeros_len n)]
  | b :: B, h, χ, ψ => by
    have hB : Len n B := fun c hc => h c (by simp [hc])
    have hb := h b (by simp)
    have l1 := comb_len hB fun i => χ (i + 1)
    have l2 := comb_len hB fun i => ψ (i + 1)
    have ih := comb_xor hB (fun i => χ (i + 1)) fun i => ψ (i + 1)
    have e : ∀ χ : Nat → Bool, comb n (b :: B) χ = if χ 0 then xr b (comb n B fun i => χ (i + 1)) else comb n B fun i => χ (i + 1) := fun _ => rfl
    rw [e, e, e]
    rw [ih]
    generalize comb n B (fun i => χ (i + 1)) = u at l1
    generalize comb n B (fun i => ψ (i + 1)) = w at l2
    cases χ 0 with
    | true =>
      cases ψ 0 with
      | true =>
        simp only [Bool.xor_self, Bool.false_eq_true, if_false, if_true]
        rw [xr_assoc hb l1 (xr_len' hb l2), ← xr_assoc l1 hb l2, xr_comm u b, xr_assoc hb l1 l2, ← xr_assoc hb hb (xr_len' l1 l2), xr_self hb, zeros_xr (xr_len' l1 l2)]
      | false =>
        simp only [Bool.xor_false, if_true, Bool.false_eq_true, if_false]
        rw [xr_assoc hb l1 l2]
    | false =>
      cases ψ 0 with
      | true =>
        simp only [Bool.false_xor, if_true, Bool.false_eq_true, if_false]
        rw [← xr_assoc l1 hb l2, xr_comm u b, xr_assoc hb l1 l2]
      | false => simp only [Bool.xor_false, Bool.false_eq_true, if_false]
theorem comb_none {n : Nat} : ∀ (B : List Row) {χ : Nat → Bool}, (∀ i, χ i = false) → comb n B χ = zeros n
  | [], _, _ => rfl
  | b :: B, χ, h => by
    unfold comb
    rw [h 0]
    exact comb_none B fun i => h (i + 1)
theorem comb_one {n : Nat} : ∀ {B : List Row}, Len n B → ∀ {i : Nat} (hi : i < B.length) {χ : Nat → Bool}, (∀ j, χ j = decide (j = i)) → comb n B χ = B[i]
  | [], _, i, hi, _, _ => by simp at hi
  | b :: B, h, 0, hi, χ, hc => by
    unfold comb
    rw [hc 0, comb_none B fun j => by rw [hc]; simp]
    simp only [decide_true, if_true, List.getElem_cons_zero]
    exact xr_zeros (h b (by simp))
  | b :: B, h, i + 1, hi, χ, hc => by
    unfold comb
    rw [hc 0]
    have := comb_one (B := B) (fun c hc => h c (by simp [hc])) (i := i) (by simpa using hi) (χ := fun j => χ (j + 1)) fun j => by rw [hc]; simp
    simpa using this
theorem comb_sp {n : Nat} {G : List Row} (hG : Len n G) : ∀ {B : List Row} {χ : Nat → Bool}, (∀ i (hi : i < B.length), χ i = true → Sp n G B[i]) → Sp n G (comb n B χ)
  | [], _, _ => .zero
  | b :: B, χ, h => by
    have ih := comb_sp hG (B := B) (χ := fun i => χ (i + 1)) fun i hi hx => by
      have := h (i + 1) (by simp; omega) hx
      simpa using this
    unfold comb
    split
    · rename_i h0
      have := h 0 (by simp) h0
      exact Sp.xr hG this ih
    · exact ih
theorem comb_erase {n : Nat} : ∀ {B : List Row}, Len n B → ∀ {j : Nat} (hj : j < B.length) {χ : Nat → Bool}, χ j = true → ∃ t, Sp n (B.eraseIdx j) t ∧ comb n B χ = xr B[j] t
  | [], _, j, hj, _, _ => by simp at hj
  | b :: B, h, 0, _, χ, hx => by
    have hB : Len n B := fun c hc => h c (by simp [hc])
    refine ⟨comb n B fun i => χ (i + 1), ?_, ?_⟩
    · exact comb_sp hB fun i hi _ => .one hB (List.getElem_mem hi)
    · rw [comb, if_pos hx]
      rfl
  | b :: B, h, j + 1, hj, χ, hx => by
    have hB : Len n B := fun c hc => h c (by simp [hc])
    have hb := h b (by simp)
    have hj' : j < B.length := by simpa using hj
    obtain ⟨t, ht, e⟩ := comb_erase hB hj' (χ := fun i => χ (i + 1)) hx
    have hE : Len n (B.eraseIdx j) := erase_len hB j
    have hE' : Len n (b :: B.eraseIdx j) := fun c hc => by
      rcases List.mem_cons.mp hc with rfl | hc
      · exact hb
      · exact hE c hc
    have ht' : Sp n (b :: B.eraseIdx j) t := ht.le hE' fun c hc => .one hE' (by simp [hc])
    have hbj : B[j].length = n := hB _ (List.getElem_mem hj')
    unfold comb
    rw [e, List.eraseIdx_cons_succ, List.getElem_cons_succ]
    by_cases h0 : χ 0 = true
    · rw [if_pos h0]
      refine ⟨xr b t, .add (by simp) ht', ?_⟩
      rw [← xr_assoc hb hbj (ht.len hE), xr_comm b, xr_assoc hbj hb (ht.len hE)]
    · rw [if_neg h0]
      exact ⟨t, ht', rfl⟩
/-! ### exchange -/
theorem exchange {n : Nat} {C O : List Row} (hC : Len n C) (hO : Len n O) (dC : Ind n C) (dO : Ind n O) {i : Nat} (hi : i < C.length) {J : List Nat} (hJ : ∀ j ∈ J, j < O.length) (e : comb n O (fun j => decide (j ∈ J)) = C[i]) :
    (∃ j, ∃ h : j ∈ J, ¬ Sp n (C.eraseIdx i) (O[j]'(hJ j h))) ∧ ∀ j (h : j ∈ J), ¬ Sp n (O.eraseIdx j) C[i] := by
  constructor
  · refine Classical.byContradiction fun hn => dC.not_in hC hi ?_
    rw [← e]
    refine comb_sp (erase_len hC i) fun j hj hx => ?_
    refine Classical.byContradiction fun hs => hn ⟨j, of_decide_eq_true hx, hs⟩
  · intro j hj hs
    have hj' := hJ j hj
    obtain ⟨t, ht, e2⟩ := comb_erase hO hj' (χ := fun j => decide (j ∈ J)) (decide_eq_true hj)
    have hE := erase_len hO j
    refine dO.not_in hO hj' ?_
    have hoj : O[j].length = n := hO _ (List.getElem_mem hj')
    have : O[j] = xr C[i] t := by rw [← e, e2, xr_cancel hoj (ht.len hE)]
    rw [this]
    exact hs.xr hE ht
/-! ### rows in steps -/
structure Tri (n : Nat) (B : List Row) : Prop where
  len : Len n B
  nz : ∀ b ∈ B, has b
  tr : B.Pairwise fun a b => bit b (lead a) = false
theorem Tri.nil (n : Nat) : Tri n [] := ⟨fun _ h => by simp at h, fun _ h => by simp at h, .nil⟩
theorem Tri.tail {n : Nat} {b : Row} {B : List Row} (r : Tri n (b :: B)) : Tri n B :=
  ⟨fun c hc => r.len c (by simp [hc]), fun c hc => r.nz c (by simp [hc]), (List.pairwise_cons.mp r.tr).2⟩
theorem Tri.redu {n : Nat} : ∀ {B : List Row}, Tri n B → ∀ {v : Row}, v.length = n → (redu B v).length = n ∧ (∀ b ∈ B, bit (redu B v) (lead b) = false) ∧ ∃ s, Sp n B s ∧ redu B v = xr v s
  | [], _, v, hv => ⟨hv, fun _ h => by simp at h, zeros n, .zero, (xr_zeros hv).symm⟩
  | b :: B, r, v, hv => by
    have hb := r.len b (by simp)
    have p0 := (List.pairwise_cons.mp r.tr).1
    have hv1 : (if bit v (lead b) then xr v b else v).length = n := by
      split
      · exact xr_len' hv hb
      · exact hv
    obtain ⟨h1, h2, s, h4, h5⟩ := Tri.redu r.tail hv1
    have e : F2.redu (b :: B) v = F2.redu B (if bit v (lead b) then xr v b else v) := rfl
    have l2 : Len n (b :: B) := r.len
    have h4' : Sp n (b :: B) s := h4.le l2 fun d hd => .one l2 (by simp [hd])
    have hs := h4.len r.tail.len
    rw [e]
    refine ⟨h1, ?_, ?_⟩
    · intro c hc
      rcases List.mem_cons.mp hc with hc | hc
      · rw [hc, h5, bit_xr (by rw [hv1, hs]), sp_zero r.tail.len p0 h4, Bool.xor_false]
        split
        · rename_i e1
          rw [bit_xr (by rw [hv, hb]), e1, bit_lead (r.nz b (by simp))]
          rfl
        · rename_i e1
          simpa using e1
      · exact h2 c hc
    · split at h5
      · rename_i e1
        rw [if_pos e1]
        refine ⟨xr b s, .add (by simp) h4', ?_⟩
        rw [h5, xr_assoc hv hb hs]
      · rename_i e1
        rw [if_neg e1]
        exact ⟨s, h4', h5⟩
theorem Tri.zero {n : Nat} : ∀ {B : List Row}, Tri n B → ∀ {w : Row}, Sp n B w → (∀ b ∈ B, bit w (lead b) = false) → w = zeros n
  | [], _, w, s, _ => by
    cases s with
    | zero => rfl
    | add h _ => simp at h
  | b :: B, r, w, s, h => by
    have hb := r.len b (by simp)
    have p0 := (List.pairwise_cons.mp r.tr).1
    rcases spn r.len s with s | ⟨t, ht, rfl⟩
    · exact Tri.zero r.tail s fun c hc => h c (by simp [hc])
    · have h1 := h b (by simp)
      rw [bit_xr (by rw [hb, ht.len r.tail.len]), bit_lead (r.nz b (by simp)), sp_zero r.tail.len p0 ht] at h1
      cases h1
theorem Tri.snoc {n : Nat} {B : List Row} (r : Tri n B) {w : Row} (hw : w.length = n) (hh : has w) (hz : ∀ b ∈ B, bit w (lead b) = false) : Tri n (B ++ [w]) := by
  refine ⟨r.len.snoc hw, ?_, ?_⟩
  · intro c hc
    rcases List.mem_append.mp hc with hc | hc
    · exact r.nz c hc
    · simp at hc
      subst hc
      exact hh
  · rw [List.pairwise_append]
    refine ⟨r.tr, List.pairwise_singleton _ _, ?_⟩
    intro a ha b hb
    rw [List.mem_singleton] at hb
    subst hb
    exact hz a ha
/-! ### rows with the lots that make them -/
def sd (N M : List Nat) : List Nat := ((N ++ M).filter fun i => decide (i ∈ N) ^^ decide (i ∈ M)).mergeSort fun a b => decide (a ≤ b)
theorem mem_sd {N M : List Nat} {i : Nat} : decide (i ∈ sd N M) = (decide (i ∈ N) ^^ decide (i ∈ M)) := by
  have : i ∈ sd N M ↔ (decide (i ∈ N) ^^ decide (i ∈ M)) = true := by
    unfold sd
    rw [(List.mergeSort_perm _ _).mem_iff, List.mem_filter, List.mem_append]
    by_cases h1 : i ∈ N <;> by_cases h2 : i ∈ M <;> simp [h1, h2]
  by_cases h : i ∈ sd N M
  · rw [decide_eq_true h, this.mp h]
  · rw [decide_eq_false h]
    cases e : (decide (i ∈ N) ^^ decide (i ∈ M)) with
    | true => exact absurd (this.mpr e) h
    | false => rfl
abbrev RL := Row × List Nat
def stepP (a x : RL) : RL := if bit a.1 (lead x.1) then (xr a.1 x.1, sd a.2 x.2) else a
def reduP (F : List RL) (a : RL) : RL := F.foldl stepP a
theorem reduP_fst : ∀ (F : List RL) (a : RL), (reduP F a).1 = redu (F.map (·.1)) a.1
  | [], _ => rfl
  | x :: F, a => by
    show (reduP F (stepP a x)).1 = redu (F.map (·.1)) (if bit a.1 (lead x.1) then xr a.1 x.1 else a.1)
    rw [reduP_fst]
    unfold stepP
    split <;> rfl
structure Made (n : Nat) (O : List Row) (a : RL) : Prop where
  low : ∀ i ∈ a.2, i < O.length
  sum : comb n O (fun i => decide (i ∈ a.2)) = a.1
theorem Made.step {n : Nat} {O : List Row} (hO : Len n O) {a x : RL} (ha : Made n O a) (hx : Made n O x) : Made n O (stepP a x) := by
  unfold stepP
  split
  · refine ⟨?_, ?_⟩
    · intro i hi
      have h1 : decide (i ∈ sd a.2 x.2) = true := decide_eq_true hi
      rw [mem_sd] at h1
      by_cases h2 : i ∈ a.2
      · exact ha.low i h2
      · by_cases h3 : i ∈ x.2
        · exact hx.low i h3
        · simp [h2, h3] at h1
    · simp only [mem_sd]
      rw [comb_xor hO, ha.sum, hx.sum]
  · exact ha
theorem Made.redu {n : Nat} {O : List Row} (hO : Len n O) : ∀ {F : List RL}, (∀ x ∈ F, Made n O x) → ∀ {a : RL}, Made n O a → Made n O (reduP F a)
  | [], _, _, ha => ha
  | x :: F, hF, a, ha => show Made n O (reduP F (stepP a x)) from Made.redu hO (fun y hy => hF y (by simp [hy])) (ha.step hO (hF x (by simp)))
theorem Made.one {n : Nat} {O : List Row} (hO : Len n O) {i : Nat} (hi : i < O.length) : Made n O (O[i], [i]) :=
  ⟨fun j hj => by simp at hj; omega, comb_one hO hi fun j => by simp⟩
theorem Made.none {n : Nat} (O : List Row) : Made n O (zeros n, []) := ⟨fun j hj => by simp at hj, comb_none O fun j => by simp⟩
/-- the lots so far -/
structure Lots (n : Nat) (O : List Row) (F : List RL) (j : Nat) : Prop where
  made : ∀ x ∈ F, Made n O x
  tri : Tri n (F.map (·.1))
  sp : ∀ i (hi : i < O.length), i < j → Sp n (F.map (·.1)) O[i]
  few : F.length ≤ j
theorem Lots.start (n : Nat) (O : List Row) : Lots n O [] 0 := ⟨fun _ h => by simp at h, Tri.nil n, fun _ _ h => by omega, Nat.le_refl _⟩
theorem Lots.next {n : Nat} {O : List Row} (hO : Len n O) {F : List RL} {j : Nat} (L : Lots n O F j) (hj : j < O.length) :
    (has (reduP F (O[j], [j])).1 → Lots n O (F ++ [reduP F (O[j], [j])]) (j + 1)) ∧ (¬ has (reduP F (O[j], [j])).1 → Lots n O F (j + 1)) := by
  have hoj : O[j].length = n := hO _ (List.getElem_mem hj)
  obtain ⟨h1, h2, s, h3, h4⟩ := L.tri.redu hoj
  have ef := reduP_fst F (O[j], [j])
  simp only at ef
  have hm := Made.redu hO L.made (Made.one hO hj)
  constructor
  · intro hh
    rw [ef] at hh
    refine ⟨?_, ?_, ?_, by simp; exact L.few⟩
    · intro x hx
      rcases List.mem_append.mp hx with hx | hx
      · exact L.made x hx
      · simp at hx
        subst hx
        exact hm
    · rw [List.map_append, List.map_cons, List.map_nil, ef]
      exact L.tri.snoc h1 hh h2
    · intro i hi hij
      have l2 : Len n ((F ++ [reduP F (O[j], [j])]).map (·.1)) := by
        rw [List.map_append, List.map_cons, List.map_nil, ef]
        exact L.tri.len.snoc h1
      have sub : ∀ b ∈ F.map (·.1), Sp n ((F ++ [reduP F (O[j], [j])]).map (·.1)) b := fun b hb => .one l2 (by rw [List.map_append]; exact List.mem_append.mpr (.inl hb))
      by_cases e : i < j
      · exact (L.sp i hi e).le l2 sub
      · have e2 : i = j := by omega
        subst e2
        have hw : Sp n ((F ++ [reduP F (O[i], [i])]).map (·.1)) (F2.redu (F.map (·.1)) O[i]) := .one l2 (by rw [List.map_append, List.map_cons, List.map_nil, ef]; simp)
        have hs := h3.le l2 sub
        have := hw.xr l2 hs
        rwa [h4, xr_cancel hoj (h3.len L.tri.len)] at this
  · intro hh
    rw [ef] at hh
    refine ⟨L.made, L.tri, ?_, Nat.le_succ_of_le L.few⟩
    intro i hi hij
    by_cases e : i < j
    · exact L.sp i hi e
    · have e2 : i = j := by omega
      subst e2
      have hz := zeros_of h1 hh
      rw [h4] at hz
      have h6 := xr_cancel hoj (h3.len L.tri.len)
      rw [hz, zeros_xr (h3.len L.tri.len)] at h6
      rw [← h6]
      exact h3
theorem Lots.last {n : Nat} {O : List Row} (hO : Len n O) {F : List RL} (L : Lots n O F O.length) {v : Row} (hv : Sp n O v) :
    ¬ has (reduP F (v, [])).1 ∧ (∀ i ∈ (reduP F (v, [])).2, i < O.length) ∧ comb n O (fun i => decide (i ∈ (reduP F (v, [])).2)) = v := by
  have hvl := hv.len hO
  obtain ⟨h1, h2, s, h3, h4⟩ := L.tri.redu hvl
  have ef := reduP_fst F (v, [])
  simp only at ef
  have sv : Sp n (F.map (·.1)) v := hv.le L.tri.len fun b hb => by
    obtain ⟨i, hi, rfl⟩ := List.getElem_of_mem hb
    exact L.sp i hi hi
  have hz : F2.redu (F.map (·.1)) v = zeros n := by
    refine L.tri.zero ?_ h2
    rw [h4]
    exact sv.xr L.tri.len h3
  -- the lot of v reduced, off by v
  have key : ∀ (G : List RL), (∀ x ∈ G, Made n O x) → ∀ (a : RL) (u : Row), u.length = n → a.1.length = n → (∀ i ∈ a.2, i < O.length) → xr (comb n O fun i => decide (i ∈ a.2)) a.1 = u → (∀ i ∈ (reduP G a).2, i < O.length) ∧ xr (comb n O fun i => decide (i ∈ (reduP G a).2)) (reduP G a).1 = u := by
    intro G
    induction G with
    | nil => intro _ a u _ _ hl he; exact ⟨hl, he⟩
    | cons x G ih =>
      intro hG a u hu hal hl he
      have hx := hG x (by simp)
      have hxl : x.1.length = n := by rw [← hx.sum]; exact comb_len hO _
      refine ih (fun y hy => hG y (by simp [hy])) (stepP a x) u hu ?_ ?_ ?_
      · unfold stepP
        split
        · exact xr_len' hal hxl
        · exact hal
      · unfold stepP
        split
        · intro i hi
          have h1 : decide (i ∈ sd a.2 x.2) = true := decide_eq_true hi
          rw [mem_sd] at h1
          by_cases h2 : i ∈ a.2
          · exact hl i h2
          · by_cases h3 : i ∈ x.2
            · exact hx.low i h3
            · simp [h2, h3] at h1
        · exact hl
      · unfold stepP
        split
        · simp only [mem_sd]
          have lc := comb_len hO fun i => decide (i ∈ a.2)
          rw [comb_xor hO, hx.sum, xr_assoc lc hxl (xr_len' hal hxl), xr_comm a.1 x.1, ← xr_assoc hxl hxl hal, xr_self hxl, zeros_xr hal]
          exact he
        · exact he
  obtain ⟨k1, k2⟩ := key F L.made (v, []) v hvl hvl (fun i hi => by simp at hi) (by rw [comb_none O fun j => by simp]; exact zeros_xr hvl)
  refine ⟨by rw [ef, hz]; exact not_has_zeros n, k1, ?_⟩
  rw [ef, hz, xr_zeros (comb_len hO _)] at k2
  exact k2
end F2
set_option Elab.async false
set_option linter.all false
set_option maxRecDepth 100000
set_option maxHeartbeats 400000
set_option autoImplicit false
/-! Wi: more rules: loops that hand back, lists of the store, whole numbers as data. -/
namespace Vi
open PySem L2
section
variable {C : Cfg} {env env' : En} {st : Sto} {Q : D → Sto → Prop} {G : D → Prop} {F : Flow → En → Sto → Prop} {B : Bool → Prop}
theorem forL_ret {ι : Type} {body : D → En → Sto → R (Flow × En × Sto)} {e : ι → D} (I : List ι → En → Sto → Prop) (K : D → En → Sto → Prop) : ∀ (xs : List ι) (env : En) (st : Sto),
    (∀ x r env st, I (x :: r) env st → Ok3 (body (e x) env st) fun fl env st => (fl = .nx ∧ I r env st) ∨ ∃ d, fl = .rt d ∧ K d env st) → I xs env st → Ok3 (forL body (xs.map e) env st) fun fl env st => (fl = .nx ∧ I [] env st) ∨ ∃ d, fl = .rt d ∧ K d env st
  | [], env, st, _, hi => ⟨.nx, env, st, by simp [forL], .inl ⟨rfl, hi⟩⟩
  | x :: xs, env, st, h, hi => by
    simp only [List.map_cons, forL]
    refine b33 ((h x xs env st hi).mono fun fl env' st' z => ?_)
    rcases z with ⟨rfl, hi'⟩ | ⟨d, rfl, hk⟩
    · exact forL_ret I K xs env' st' h hi'
    · exact r3 (.inr ⟨d, rfl, hk⟩)
theorem fo_ret {ι : Type} {body : D → En → Sto → R (Flow × En × Sto)} {e : ι → D} {xs : List ι} (I : List ι → En → Sto → Prop) (K : D → En → Sto → Prop) (ht : ∀ x r env st, I (x :: r) env st → Ok3 (body (e x) env st) fun fl env st => (fl = .nx ∧ I r env st) ∨ ∃ d, fl = .rt d ∧ K d env st) (hi : I xs env st) (h : ∀ env st, I [] env st → F .nx env st) (h2 : ∀ d env st, K d env st → F (.rt d) env st) : Ok3 (forOf C body (.items (xs.map e)) env st) F := by
  refine (forL_ret I K xs env st ht hi).mono fun fl env' st' z => ?_
  rcases z with ⟨rfl, hi'⟩ | ⟨d, rfl, hk⟩
  · exact h _ _ hi'
  · exact h2 _ _ _ hk
theorem forV_inv {ι : Type} {body : D → En → Sto → R (Flow × En × Sto)} {e : ι → D} {n : Nat} {xs : List ι} (hst : st[n]? = some (.lst (xs.map e))) (I : List ι → En → Prop)
    (ht : ∀ x r env, I (x :: r) env → Ok3 (body (e x) env st) fun fl env' st' => fl = .nx ∧ st' = st ∧ I r env') (k : Nat) : ∀ (i : Nat) (env : En), xs.length < i + k → I (xs.drop i) env → i ≤ xs.length → Ok3 (forV body n k i env st) fun fl env' st' => fl = .nx ∧ st' = st ∧ I [] env' := by
  induction k with
  | zero => intro i env hk hi hil; omega
  | succ k ih =>
    intro i env hk hi hil
    unfold forV
    simp only [hst]
    by_cases hx : i < xs.length
    · rw [List.getElem?_map, List.getElem?_eq_getElem hx]
      simp only [Option.map_some]
      rw [List.drop_eq_getElem_cons hx] at hi
      refine b33 ((ht _ _ env hi).mono fun fl env' st' z => ?_)
      obtain ⟨rfl, rfl, hi'⟩ := z
      exact ih (i + 1) env' (by omega) hi' (by omega)
    · rw [List.getElem?_eq_none (by simpa using hx)]
      rw [List.drop_eq_nil_of_le (by omega)] at hi
      exact r3 ⟨rfl, rfl, hi⟩
theorem fv_inv {ι : Type} {body : D → En → Sto → R (Flow × En × Sto)} {e : ι → D} {n : Nat} {xs : List ι} (hst : st[n]? = some (.lst (xs.map e))) (hl : xs.length < C.lim) (I : List ι → En → Prop)
    (ht : ∀ x r env, I (x :: r) env → Ok3 (body (e x) env st) fun fl env' st' => fl = .nx ∧ st' = st ∧ I r env') (hi : I xs env) (h : ∀ env, I [] env → F .nx env st) : Ok3 (forOf C body (.live n) env st) F := by
  refine (forV_inv hst I ht C.lim 0 env (by omega) hi (by omega)).mono fun fl env' st' z => ?_
  obtain ⟨rfl, rfl, hi'⟩ := z
  exact h _ hi'
theorem it_ref {n : Nat} {xs : List D} {P : Src → Prop} (hx : st[n]? = some (.lst xs)) (h : P (.live n)) : Ok (itOf st (.ref n)) P := ⟨_, by simp [itOf, hx], h⟩
theorem sl_hi {xs : List PyData} {k : Nat} (h : G (.v (.tuple (xs.take k)))) : Ok (sliced st (.v (.tuple xs)) none (some (k : Nat))) G := by
  refine ⟨_, ?_, h⟩
  show R.ok (D.v (.tuple (cut xs none (some ((k : Nat) : Int))))) = _
  unfold cut
  rw [HT.sIx_none, HT.sIx_nat, List.drop_zero, Nat.sub_zero]
  congr 3
  rw [List.take_eq_take_iff]
  simp
theorem sl_lo {xs : List PyData} {k : Nat} (h : G (.v (.tuple (xs.drop k)))) : Ok (sliced st (.v (.tuple xs)) (some (k : Nat)) none) G := by
  refine ⟨_, ?_, h⟩
  show R.ok (D.v (.tuple (cut xs (some ((k : Nat) : Int)) none))) = _
  unfold cut
  rw [HT.sIx_none, HT.sIx_nat]
  congr 3
  by_cases hk : k ≤ xs.length
  · rw [Nat.min_eq_left hk, List.take_of_length_le (by simp)]
  · rw [List.drop_eq_nil_of_le (by omega), List.drop_eq_nil_of_le (by omega)]
    simp
theorem ix_refl {n k : Nat} {xs : List D} {d : D} (hx : st[n]? = some (.lst xs)) (h : xs[k]? = some d) (g : G d) : Ok (index st (.ref n) (.v (.int (k : Nat)))) G := by
  refine ⟨d, ?_, g⟩
  have e : dAt st (.ref n) (.v (.int (k : Nat))) = none := by simp [dAt, objOf, hx, dGet]
  simp only [index, e, index0, seqOf, hx]
  rw [Vi.atI_nat, h]
  rfl
theorem to_lst {n k : Nat} {xs : List D} {d : D} {P : Sto → Prop} (hx : st[n]? = some (.lst xs)) (hk : k < xs.length) (h : P (st.set n (.lst (xs.set k d)))) : Ok (store st (.ref n) (.v (.int (k : Nat))) d) P := by
  refine ⟨_, ?_, h⟩
  have : ixN xs.length (k : Int) = some k := by
    unfold ixN
    rw [if_pos (by omega), if_pos (by omega), Int.toNat_natCast]
  simp only [store, hx, Option.bind_some, dPut, store0, this]
theorem op_neB {a b : Bool} (h : B (a ^^ b)) : Ok (cmpop st .NotEq (.v (.bool a)) (.v (.bool b))) B := ⟨_, by cases a <;> cases b <;> rfl, h⟩
abbrev natP (i : Nat) : PyData := .int (i : Nat)
theorem nats_shaped (N : List Nat) : SeqAt.shaped (.tuple (N.map natP)) = true ∧ SeqAt.shaped (.list (N.map natP)) = true := by
  have h : PyData.canLayAll0 (N.map natP) = true ∧ PyData.depthAll (N.map natP) = 0 := by
    induction N with
    | nil => exact ⟨rfl, rfl⟩
    | cons x N ih => simp [PyData.canLayAll0, PyData.canLay0, PyData.depthAll, PyData.depth, ih]
  simp [SeqAt.shaped, PyData.canLay0, PyData.depth, h]
theorem in_nats {i : Nat} {N : List Nat} (h : B (decide (i ∈ N))) : Ok (cmpop st .In (.v (natP i)) (.v (.tuple (N.map natP)))) B := by
  refine ⟨_, ?_, h⟩
  have e : cmpop st .In (.v (natP i)) (.v (.tuple (N.map natP))) = match plains ((N.map natP).map D.v) with
      | some qs => if SeqAt.shaped (natP i) && SeqAt.shaped (.list qs) && SeqAt.shaped (.tuple qs) then .ok (qs.any fun z => PyData.eqv z (natP i)) else .no
      | none => .no := rfl
  rw [e, plains_map]
  simp only [(nats_shaped N).1, (nats_shaped N).2, shaped_int, Bool.and_self, if_true, R.ok.injEq]
  clear e h
  induction N with
  | nil => rfl
  | cons x N ih =>
    rw [List.map_cons, List.any_cons, ih]
    have : PyData.eqv (natP x) (natP i) = decide (i = x) := by
      have : PyData.eqv (natP x) (natP i) = ((x : Int) == (i : Int)) := rfl
      rw [this]
      by_cases hx : i = x
      · subst hx; simp
      · simp [hx]; omega
    rw [this]
    by_cases hx : i = x <;> by_cases hN : i ∈ N <;> simp [hx, hN]
theorem sort_nats {N : List Nat} (hl : N.length ≤ 16777216) (g : G (.v (.list ((N.mergeSort fun a b => decide (a ≤ b)).map natP)))) : Ok (sortedOf st false (.v (.list (N.map natP)))) G := by
  refine ⟨_, ?_, g⟩
  have e : sortedOf st false (.v (.list (N.map natP))) = match plains ((N.map natP).map D.v) with
      | some ps => if sortOk ps then .ok (.v (.list (ps.mergeSort (PySem.W.dataLe false id)))) else .no
      | none => .no := rfl
  rw [e, plains_map]
  have so : sortOk (N.map natP) = true := by
    simp only [sortOk, Bool.and_eq_true, Bool.or_eq_true]
    refine ⟨⟨⟨small_le (by simpa using hl), ?_⟩, .inr ?_⟩, ?_⟩
    · simp only [alikeAllB, List.all_eq_true]
      intro p hp q hq
      obtain ⟨a, _, rfl⟩ := List.mem_map.mp hp
      obtain ⟨b, _, rfl⟩ := List.mem_map.mp hq
      rfl
    · rw [List.all_eq_true]
      intro p hp
      obtain ⟨a, ha, rfl⟩ := List.mem_map.mp hp
      rfl
    · rw [List.all_eq_true]
      intro p hp
      obtain ⟨a, ha, rfl⟩ := List.mem_map.mp hp
      rfl
  simp only [so, if_true]
  congr 3
  rw [List.map_mergeSort]
  intro a _ b _
  show decide (a ≤ b) = PySem.W.dataLe false id (natP a) (natP b)
  rw [PySem.W.dataLe_eq]
  simp only [cond_false, id, PySem.W.dataLt_int]
  by_cases h : a ≤ b
  · simp [h] <;> omega
  · simp [h] <;> omega
abbrev pairP (a : F2.RL) : PyData := .tuple [rowP a.1, .tuple (a.2.map natP)]
abbrev pairD (a : F2.RL) : D := .v (pairP a)
end
end Vi
set_option Elab.async false
set_option linter.all false
set_option maxRecDepth 100000
set_option autoImplicit false
/-! Xa: fold rows are as many as forests tell. -/
namespace Fo
abbrev Fr := Nat → Int
abbrev Ed := List (Nat × Nat)
def one (v : Nat) : Fr := fun w => if w = v then 1 else 0
/-- the row of an edge lot: the edge i gives q - k to its first end, k to its second -/
def row (q : Nat) (π : Nat → Nat) : Ed → List Nat → Fr
  | (a, b) :: E, k :: ks => fun v => row q π E ks v + (if v = π a then (q : Int) - k else 0) + (if v = π b then (k : Int) else 0)
  | _, _ => fun _ => 0
structure Val (q : Nat) (E : Ed) (ks : List Nat) : Prop where
  len : ks.length = E.length
  le : ∀ k ∈ ks, k ≤ q
def dist : List Nat → List Nat → Nat
  | a :: as, b :: bs => (a - b) + (b - a) + dist as bs
  | _, _ => 0
theorem Val.cons {q : Nat} {e : Nat × Nat} {E : Ed} {k : Nat} {ks : List Nat} (h : Val q E ks) (hk : k ≤ q) : Val q (e :: E) (k :: ks) :=
  ⟨by simp [h.len], fun j hj => (List.mem_cons.mp hj).elim (fun e => e ▸ hk) (h.le j)⟩
theorem Val.tail {q : Nat} {e : Nat × Nat} {E : Ed} {k : Nat} {ks : List Nat} (h : Val q (e :: E) (k :: ks)) : Val q E ks ∧ k ≤ q :=
  ⟨⟨by simpa using h.len, fun j hj => h.le j (by simp [hj])⟩, h.le k (by simp)⟩
theorem step {q : Nat} {π : Nat → Nat} {w : Nat} : ∀ {E : Ed} {ks k2 : List Nat}, Val q E ks → Val q E k2 → row q π E k2 w < row q π E ks w →
    ∃ ks' w', Val q E ks' ∧ dist ks' k2 < dist ks k2 ∧ ∀ v, row q π E ks' v = row q π E ks v - one w v + one w' v
  | [], ks, k2, h, h2, hl => by simp [row] at hl
  | (a, b) :: E, [], k2, h, _, _ => by have := h.len; simp at this
  | (a, b) :: E, k :: ks, [], _, h, _ => by have := h.len; simp at this
  | (a, b) :: E, k :: ks, j :: k2, h, h2, hl => by
    obtain ⟨hv, hk⟩ := h.tail
    obtain ⟨hv2, hj⟩ := h2.tail
    by_cases ht : row q π E k2 w < row q π E ks w
    · obtain ⟨ks', w', g1, g2, g3⟩ := step hv hv2 ht
      refine ⟨k :: ks', w', g1.cons hk, by simp only [dist]; omega, fun v => ?_⟩
      simp only [row, g3 v]
      omega
    · simp only [row] at hl
      by_cases ha : w = π a
      · by_cases hb : w = π b
        · rw [if_pos ha, if_pos ha, if_pos hb, if_pos hb] at hl
          omega
        · rw [if_pos ha, if_pos ha, if_neg hb, if_neg hb] at hl
          have hlt : k < j := by omega
          refine ⟨(k + 1) :: ks, π b, hv.cons (by omega), by simp only [dist]; omega, fun v => ?_⟩
          simp only [row, one]
          by_cases e1 : v = π a <;> by_cases e2 : v = π b
          · exact absurd (ha.trans (e1.symm.trans e2)) hb
          · rw [if_pos e1, if_pos e1, if_neg e2, if_neg e2, if_neg e2, if_pos (e1.trans ha.symm)]; omega
          · have : v ≠ w := fun e => e1 (e.trans ha)
            rw [if_neg e1, if_neg e1, if_pos e2, if_pos e2, if_pos e2, if_neg this]; omega
          · have : v ≠ w := fun e => e1 (e.trans ha)
            rw [if_neg e1, if_neg e1, if_neg e2, if_neg e2, if_neg e2, if_neg this]; omega
      · by_cases hb : w = π b
        · rw [if_neg ha, if_neg ha, if_pos hb, if_pos hb] at hl
          have hlt : j < k := by omega
          refine ⟨(k - 1) :: ks, π a, hv.cons (by omega), by simp only [dist]; omega, fun v => ?_⟩
          simp only [row, one]
          by_cases e1 : v = π a <;> by_cases e2 : v = π b
          · exact absurd (hb.trans (e2.symm.trans e1)) ha
          · have : v ≠ w := fun e => e2 (e.trans hb)
            rw [if_pos e1, if_pos e1, if_neg e2, if_neg e2, if_neg this, if_pos e1]; omega
          · rw [if_neg e1, if_neg e1, if_pos e2, if_pos e2, if_pos (e2.trans hb.symm), if_neg e1]; omega
          · have : v ≠ w := fun e => e2 (e.trans hb)
            rw [if_neg e1, if_neg e1, if_neg e2, if_neg e2, if_neg this, if_neg e1]; omega
        · rw [if_neg ha, if_neg ha, if_neg hb, if_neg hb] at hl
          omega
theorem walk {q : Nat} {π : Nat → Nat} {E : Ed} {A B : Nat} (hAB : A ≠ B) {k2 : List Nat} (h2 : Val q E k2) : ∀ (N : Nat) (ks : List Nat) (w : Nat), Val q E ks → dist ks k2 < N →
    (∃ d : Int, 1 ≤ d ∧ ∀ v, row q π E k2 v = row q π E ks v + d * one B v - (d - 1) * one A v - one w v) → ∃ k', Val q E k' ∧ ∀ v, row q π E k' v = row q π E ks v - one w v + one B v
  | 0, _, _, _, h, _ => absurd h (Nat.not_lt_zero _)
  | N + 1, ks, w, hv, hN, ⟨d, hd, he⟩ => by
    by_cases hw : w = B
    · subst hw
      exact ⟨ks, hv, fun v => by omega⟩
    · have hlt : row q π E k2 w < row q π E ks w := by
        have := he w
        have e1 : one B w = 0 := by simp [one, hw]
        have e2 : one w w = 1 := by simp [one]
        rw [e1, e2] at this
        by_cases hA : w = A
        · have e3 : one A w = 1 := by simp [one, hA]
          rw [e3] at this
          omega
        · have e3 : one A w = 0 := by simp [one, hA]
          rw [e3] at this
          omega
      obtain ⟨ks', w', g1, g2, g3⟩ := step hv h2 hlt
      obtain ⟨k', l1, l2⟩ := walk hAB h2 N ks' w' g1 (by omega) ⟨d, hd, fun v => by rw [he v, g3 v]; omega⟩
      exact ⟨k', l1, fun v => by rw [l2 v, g3 v]; omega⟩
/-- the rows -/
def In (q : Nat) (E : Ed) (π : Nat → Nat) (r : Fr) : Prop := ∃ ks, Val q E ks ∧ r = row q π E ks
/-- moved by d from A to B -/
def mv (A B : Nat) (d : Int) (r : Fr) : Fr := fun v => r v - d * one A v + d * one B v
theorem between {q : Nat} {E : Ed} {π : Nat → Nat} {A B : Nat} (hAB : A ≠ B) {r : Fr} {d : Int} (hd : 1 ≤ d) (h : In q E π r) (h2 : In q E π (mv A B d r)) : In q E π (mv A B 1 r) := by
  obtain ⟨ks, hv, rfl⟩ := h
  obtain ⟨k2, hv2, e⟩ := h2
  obtain ⟨k', g1, g2⟩ := walk (π := π) hAB hv2 (dist ks k2 + 1) ks A hv (Nat.lt_succ_self _) ⟨d, hd, fun v => by
    have := congrFun e v
    simp only [mv] at this
    rw [← this, Int.sub_mul]
    omega⟩
  refine ⟨k', g1, funext fun v => ?_⟩
  rw [g2 v]
  simp only [mv]
  omega
/-! ### lists of just the rows -/
def Enum {α : Type} (P : α → Prop) (l : List α) : Prop := l.Nodup ∧ ∀ x, x ∈ l ↔ P x
open Classical in
theorem nodup_le {α : Type} : ∀ {l l' : List α}, l.Nodup → (∀ x ∈ l, x ∈ l') → l.length ≤ l'.length
  | [], l', _, _ => Nat.zero_le _
  | a :: l, l', nd, sub => by
    have ha := sub a (by simp)
    obtain ⟨n1, n2⟩ := List.nodup_cons.mp nd
    have e := List.length_erase_of_mem ha
    have p := nodup_le (l := l) (l' := l'.erase a) n2 (fun x hx => by
      have hx' := sub x (by simp [hx])
      have hne : x ≠ a := by
        rintro rfl
        exact n1 hx
      exact (List.mem_erase_of_ne hne).mpr hx')
    have := List.length_pos_of_mem ha
    simp only [List.length_cons]
    omega
theorem Enum.length {α : Type} {P : α → Prop} {l l' : List α} (h : Enum P l) (h' : Enum P l') : l.length = l'.length :=
  Nat.le_antisymm (nodup_le h.1 fun x hx => (h'.2 x).mpr ((h.2 x).mp hx)) (nodup_le h'.1 fun x hx => (h.2 x).mpr ((h'.2 x).mp hx))
theorem Enum.map {α β : Type} {P : α → Prop} {Q : β → Prop} {l : List α} (h : Enum P l) (f : α → β) (inj : ∀ x y, P x → P y → f x = f y → x = y) (hq : ∀ y, Q y ↔ ∃ x, P x ∧ f x = y) : Enum Q (l.map f) := by
  refine ⟨?_, fun y => ?_⟩
  · unfold List.Nodup
    rw [List.pairwise_map]
    exact h.1.imp_of_mem fun {a b} ha hb hab e => hab (inj a b ((h.2 a).mp ha) ((h.2 b).mp hb) e)
  · rw [List.mem_map, hq]
    exact ⟨fun ⟨x, hx, e⟩ => ⟨x, (h.2 x).mp hx, e⟩, fun ⟨x, hx, e⟩ => ⟨x, (h.2 x).mpr hx, e⟩⟩
/-- one edge more -/
theorem in_cons {q : Nat} {a b : Nat} {E : Ed} {π : Nat → Nat} {r : Fr} : In q ((a, b) :: E) π r ↔ ∃ t k, In q E π t ∧ k ≤ q ∧ r = fun v => t v + (if v = π a then (q : Int) - k else 0) + (if v = π b then (k : Int) else 0) := by
  constructor
  · rintro ⟨ks, hv, rfl⟩
    cases ks with
    | nil => have := hv.len; simp at this
    | cons k ks =>
      obtain ⟨h1, h2⟩ := hv.tail
      exact ⟨_, k, ⟨ks, h1, rfl⟩, h2, rfl⟩
  · rintro ⟨t, k, ⟨ks, h1, rfl⟩, h2, rfl⟩
    exact ⟨k :: ks, h1.cons h2, rfl⟩
theorem in_loop {q : Nat} {a b : Nat} {E : Ed} {π : Nat → Nat} (h : π a = π b) {r : Fr} : In q ((a, b) :: E) π r ↔ ∃ t, In q E π t ∧ (fun v => t v + (q : Int) * one (π a) v) = r := by
  rw [in_cons]
  have key : ∀ (t : Fr) (k : Nat), (fun v => t v + (if v = π a then (q : Int) - k else 0) + (if v = π b then (k : Int) else 0)) = fun v => t v + (q : Int) * one (π a) v := fun t k => by
    funext v
    rw [← h]
    unfold one
    split <;> omega
  constructor
  · rintro ⟨t, k, h1, _, rfl⟩
    exact ⟨t, h1, (key t k).symm⟩
  · rintro ⟨t, h1, rfl⟩
    exact ⟨t, 0, h1, Nat.zero_le _, (key t 0).symm⟩
/-- all put together: B's part goes to A -/
def mrg (A B : Nat) (r : Fr) : Fr := fun v => if v = A then r A + r B else if v = B then 0 else r v
def mp (A B : Nat) (π : Nat → Nat) : Nat → Nat := fun x => if π x = B then A else π x
theorem row_mrg {q : Nat} {π : Nat → Nat} {A B : Nat} (hAB : A ≠ B) : ∀ (E : Ed) (ks : List Nat), row q (mp A B π) E ks = mrg A B (row q π E ks)
  | [], ks => by funext v; simp [row, mrg]
  | (a, b) :: E, [] => by funext v; simp [row, mrg]
  | (a, b) :: E, k :: ks => by
    have ih := row_mrg (q := q) (π := π) hAB E ks
    funext v
    have ihv := congrFun ih v
    simp only [row]
    rw [ihv]
    have hBA : B ≠ A := fun e => hAB e.symm
    unfold mrg mp
    simp only [row]
    by_cases v1 : v = A
    · subst v1
      by_cases a1 : π a = B <;> by_cases b1 : π b = B <;> by_cases a2 : v = π a <;> by_cases b2 : v = π b <;> simp_all <;> omega
    · by_cases v2 : v = B
      · subst v2
        by_cases a1 : π a = v <;> by_cases b1 : π b = v <;> simp_all [eq_comm]
      · by_cases a1 : π a = B <;> by_cases b1 : π b = B <;> simp_all
theorem in_mrg {q : Nat} {E : Ed} {π : Nat → Nat} {A B : Nat} (hAB : A ≠ B) {r : Fr} : In q E (mp A B π) r ↔ ∃ t, In q E π t ∧ mrg A B t = r := by
  constructor
  · rintro ⟨ks, hv, rfl⟩
    exact ⟨_, ⟨ks, hv, rfl⟩, (row_mrg hAB E ks).symm⟩
  · rintro ⟨_, ⟨ks, hv, rfl⟩, rfl⟩
    exact ⟨ks, hv, (row_mrg hAB E ks).symm⟩
end Fo
set_option Elab.async false
set_option linter.all false
set_option maxRecDepth 100000
set_option autoImplicit false
/-! Xb: the count of the rows. -/
namespace Fo
theorem row_nn {q : Nat} {π : Nat → Nat} : ∀ {E : Ed} {ks : List Nat}, Val q E ks → ∀ v, 0 ≤ row q π E ks v
  | [], ks, _, v => by simp [row]
  | (a, b) :: E, [], h, v => by simp [row]
  | (a, b) :: E, k :: ks, h, v => by
    obtain ⟨h1, h2⟩ := h.tail
    have := row_nn (π := π) h1 v
    simp only [row]
    split <;> split <;> omega
theorem In.nn {q : Nat} {E : Ed} {π : Nat → Nat} {r : Fr} (h : In q E π r) (v : Nat) : 0 ≤ r v := by
  obtain ⟨ks, hv, rfl⟩ := h
  exact row_nn hv v
section
variable {q : Nat} {E : Ed} {π : Nat → Nat} {A B : Nat}
theorem mv_mv (c d : Int) (r : Fr) : mv A B c (mv A B d r) = mv A B (d + c) r := by
  funext v
  simp only [mv, Int.add_mul]
  omega
theorem mv_zero (r : Fr) : mv A B 0 r = r := by
  funext v
  simp [mv]
theorem mrg_mv (hAB : A ≠ B) (d : Int) (r : Fr) : mrg A B (mv A B d r) = mrg A B r := by
  have hBA : B ≠ A := fun e => hAB e.symm
  funext v
  unfold mrg mv one
  by_cases v1 : v = A
  · subst v1
    simp [hAB, hBA]
    omega
  · by_cases v2 : v = B
    · subst v2
      simp [v1]
    · simp [v1, v2]
theorem mrg_eq (hAB : A ≠ B) {r s : Fr} (h : mrg A B r = mrg A B s) : s = mv A B (r A - s A) r := by
  have hBA : B ≠ A := fun e => hAB e.symm
  have hA := congrFun h A
  simp [mrg] at hA
  funext v
  have hv := congrFun h v
  simp only [mrg] at hv
  unfold mv one
  by_cases v1 : v = A
  · subst v1
    simp [hAB]
    omega
  · by_cases v2 : v = B
    · subst v2
      simp [v1]
      omega
    · rw [if_neg v1, if_neg v2, if_neg v1, if_neg v2] at hv
      simp [v1, v2, hv]
theorem top_of (hAB : A ≠ B) : ∀ (n : Nat) (r : Fr), In q E π r → (r A).toNat < n → ∃ s, In q E π s ∧ ¬ In q E π (mv A B 1 s) ∧ mrg A B s = mrg A B r
  | 0, _, _, h => absurd h (Nat.not_lt_zero _)
  | n + 1, r, hr, hn => by
    by_cases h : In q E π (mv A B 1 r)
    · have h1 := h.nn A
      have h2 : mv A B 1 r A = r A - 1 := by
        have : A ≠ B := hAB
        simp [mv, one, this]
      rw [h2] at h1
      obtain ⟨s, g1, g2, g3⟩ := top_of hAB n (mv A B 1 r) h (by rw [h2]; omega)
      exact ⟨s, g1, g2, by rw [g3, mrg_mv hAB]⟩
    · exact ⟨r, hr, h, rfl⟩
/-- two tops on one line are one -/
theorem top_eq (hAB : A ≠ B) {r s : Fr} {d : Int} (hr : In q E π r) (hs : In q E π s) (tr : ¬ In q E π (mv A B 1 r)) (ts : ¬ In q E π (mv A B 1 s)) (h : s = mv A B d r) : s = r ∧ d = 0 := by
  by_cases h0 : d = 0
  · subst h0
    exact ⟨by rw [h, mv_zero], rfl⟩
  · exfalso
    by_cases h1 : 1 ≤ d
    · exact tr (between hAB h1 hr (h ▸ hs))
    · have e : r = mv A B (-d) s := by
        rw [h, mv_mv]
        have : d + -d = 0 := by omega
        rw [this, mv_zero]
      exact ts (between hAB (d := -d) (by omega) hs (e ▸ hr))
open Classical in
theorem tops_enum (hAB : A ≠ B) {T : List Fr} (hT : Enum (In q E π) T) : Enum (In q E (mp A B π)) ((T.filter fun t => decide (¬ In q E π (mv A B 1 t))).map (mrg A B)) := by
  have hF : Enum (fun t => In q E π t ∧ ¬ In q E π (mv A B 1 t)) (T.filter fun t => decide (¬ In q E π (mv A B 1 t))) := by
    refine ⟨hT.1.filter _, fun t => ?_⟩
    rw [List.mem_filter, hT.2, decide_eq_true_eq]
  refine hF.map _ ?_ fun r => ?_
  · rintro r s ⟨hr, tr⟩ ⟨hs, ts⟩ e
    exact (top_eq hAB hr hs tr ts (mrg_eq hAB e)).1.symm
  · rw [in_mrg hAB]
    constructor
    · rintro ⟨t, ht, rfl⟩
      obtain ⟨s, g1, g2, g3⟩ := top_of hAB ((t A).toNat + 1) t ht (Nat.lt_succ_self _)
      exact ⟨s, ⟨g1, g2⟩, g3⟩
    · rintro ⟨t, ⟨ht, _⟩, rfl⟩
      exact ⟨t, ht, rfl⟩
/-- k of q at B -/
def pt (q : Nat) (A B : Nat) (t : Fr) (k : Nat) : Fr := fun v => t v + (q : Int) * one A v - (k : Int) * one A v + (k : Int) * one B v
theorem pt_eq {t s : Fr} {k j : Nat} (h : pt q A B t k = pt q A B s j) : s = mv A B ((k : Int) - j) t := by
  funext v
  have := congrFun h v
  simp only [pt] at this
  simp only [mv, Int.sub_mul]
  omega
theorem in_pt {a b : Nat} (hA : π a = A) (hB : π b = B) (hAB : A ≠ B) {r : Fr} : In q ((a, b) :: E) π r ↔ ∃ t k, In q E π t ∧ k ≤ q ∧ r = pt q A B t k := by
  rw [in_cons, hA, hB]
  have key : ∀ (t : Fr) (k : Nat), (fun v => t v + (if v = A then (q : Int) - k else 0) + (if v = B then (k : Int) else 0)) = pt q A B t k := fun t k => by
    funext v
    unfold pt one
    have hBA : B ≠ A := fun e => hAB e.symm
    by_cases v1 : v = A
    · subst v1
      simp [hAB]
      omega
    · by_cases v2 : v = B
      · subst v2
        simp [v1]
      · simp [v1, v2]
  constructor
  · rintro ⟨t, k, h1, h2, rfl⟩
    exact ⟨t, k, h1, h2, key t k⟩
  · rintro ⟨t, k, h1, h2, rfl⟩
    exact ⟨t, k, h1, h2, (key t k).symm⟩
theorem pt_step {t : Fr} {k : Nat} (hk : 0 < k) : pt q A B t k = pt q A B (mv A B 1 t) (k - 1) := by
  funext v
  obtain ⟨j, rfl⟩ : ∃ j, k = j + 1 := ⟨k - 1, by omega⟩
  have e : ((j + 1 : Nat) : Int) = (j : Int) + 1 := by omega
  simp only [pt, mv, Nat.add_sub_cancel, e, Int.add_mul]
  omega
theorem pt_cover (hAB : A ≠ B) : ∀ (k : Nat) (t : Fr), k ≤ q → In q E π t → (∃ s, In q E π s ∧ pt q A B t k = pt q A B s 0) ∨ ∃ s j, In q E π s ∧ ¬ In q E π (mv A B 1 s) ∧ j < q ∧ pt q A B t k = pt q A B s (j + 1)
  | 0, t, _, ht => .inl ⟨t, ht, rfl⟩
  | k + 1, t, hk, ht => by
    by_cases h : In q E π (mv A B 1 t)
    · rw [pt_step (Nat.succ_pos k)]
      exact pt_cover hAB k _ (by omega) h
    · exact .inr ⟨t, k, ht, h, hk, rfl⟩
open Classical in
theorem cons_enum {a b : Nat} (hA : π a = A) (hB : π b = B) (hAB : A ≠ B) {T : List Fr} (hT : Enum (In q E π) T) :
    Enum (In q ((a, b) :: E) π) (T.map (fun t => pt q A B t 0) ++ (T.filter fun t => decide (¬ In q E π (mv A B 1 t))).flatMap fun t => (List.range q).map fun j => pt q A B t (j + 1)) := by
  have mf : ∀ {t : Fr}, t ∈ (T.filter fun t => decide (¬ In q E π (mv A B 1 t))) ↔ In q E π t ∧ ¬ In q E π (mv A B 1 t) := fun {t} => by
    rw [List.mem_filter, hT.2, decide_eq_true_eq]
  refine ⟨?_, fun r => ?_⟩
  · unfold List.Nodup
    rw [List.pairwise_append]
    refine ⟨?_, ?_, ?_⟩
    · rw [List.pairwise_map]
      exact hT.1.imp fun {x y} hxy e => hxy (by
        have := pt_eq e
        rw [Int.sub_self, mv_zero] at this
        exact this.symm)
    · rw [List.pairwise_flatMap]
      refine ⟨fun t ht => ?_, ?_⟩
      · rw [List.pairwise_map]
        refine List.pairwise_lt_range.imp fun {i j} hij e => ?_
        obtain ⟨h1, h2⟩ := mf.mp ht
        have := (top_eq hAB h1 h1 h2 h2 (pt_eq e)).2
        omega
      · refine (hT.1.filter _).imp_of_mem fun {x y} hx hy hxy r hr s hs e => ?_
        obtain ⟨i, _, rfl⟩ := List.mem_map.mp hr
        obtain ⟨j, _, rfl⟩ := List.mem_map.mp hs
        obtain ⟨h1, h2⟩ := mf.mp hx
        obtain ⟨k1, k2⟩ := mf.mp hy
        exact hxy (top_eq hAB h1 k1 h2 k2 (pt_eq e)).1.symm
    · intro r hr s hs e
      obtain ⟨t, ht, rfl⟩ := List.mem_map.mp hr
      obtain ⟨u, hu, hs⟩ := List.mem_flatMap.mp hs
      obtain ⟨j, _, rfl⟩ := List.mem_map.mp hs
      obtain ⟨h1, h2⟩ := mf.mp hu
      have ht' := (hT.2 t).mp ht
      have e2 : t = mv A B ((j : Int) + 1) u := by
        have := pt_eq e.symm
        rw [this]
        congr 1
      exact h2 (between hAB (d := (j : Int) + 1) (by omega) h1 (e2 ▸ ht'))
  · rw [in_pt hA hB hAB, List.mem_append, List.mem_map, List.mem_flatMap]
    constructor
    · rintro (⟨t, ht, rfl⟩ | ⟨t, ht, hr⟩)
      · exact ⟨t, 0, (hT.2 t).mp ht, Nat.zero_le _, rfl⟩
      · obtain ⟨j, hj, rfl⟩ := List.mem_map.mp hr
        exact ⟨t, j + 1, (mf.mp ht).1, List.mem_range.mp hj, rfl⟩
    · rintro ⟨t, k, ht, hk, rfl⟩
      rcases pt_cover hAB k t hk ht with ⟨s, hs, e⟩ | ⟨s, j, hs, ts, hj, e⟩
      · exact .inl ⟨s, (hT.2 s).mpr hs, e.symm⟩
      · exact .inr ⟨s, mf.mpr ⟨hs, ts⟩, List.mem_map.mpr ⟨j, List.mem_range.mpr hj, e.symm⟩⟩
end
/-- the forests' count, q taken by their roads -/
def cnt (q : Nat) : Ed → (Nat → Nat) → Nat
  | [], _ => 1
  | (a, b) :: E, π => cnt q E π + if π a = π b then 0 else q * cnt q E (mp (π a) (π b) π)
theorem count {q : Nat} : ∀ (E : Ed) (π : Nat → Nat), ∃ l, Enum (In q E π) l ∧ l.length = cnt q E π
  | [], π => by
    refine ⟨[fun _ => 0], ⟨by simp, fun r => ?_⟩, rfl⟩
    rw [List.mem_singleton]
    constructor
    · rintro rfl
      exact ⟨[], ⟨rfl, fun k hk => by simp at hk⟩, by funext v; simp [row]⟩
    · rintro ⟨ks, _, rfl⟩
      funext v
      simp [row]
  | (a, b) :: E, π => by
    obtain ⟨T, hT, hl⟩ := count (q := q) E π
    by_cases h : π a = π b
    · refine ⟨T.map fun t => fun v => t v + (q : Int) * one (π a) v, hT.map _ (fun x y _ _ e => ?_) fun r => in_loop h, ?_⟩
      · funext v
        have := congrFun e v
        omega
      · rw [List.length_map, hl]
        simp [cnt, h]
    · obtain ⟨T', hT', hl'⟩ := count (q := q) E (mp (π a) (π b) π)
      have h1 := (tops_enum h hT).length hT'
      rw [List.length_map, hl'] at h1
      refine ⟨_, cons_enum rfl rfl h hT, ?_⟩
      rw [List.length_append, List.length_map, List.length_flatMap, hl]
      simp only [List.length_map, List.length_range, Function.comp_def]
      rw [List.map_const', List.sum_replicate_nat, h1]
      simp only [cnt, if_neg h]
      rw [Nat.mul_comm]
end Fo
set_option Elab.async false
set_option linter.all false
set_option maxRecDepth 100000
set_option autoImplicit false
/-! Xc: rows as lists; the rows road by road. -/
namespace Fo
theorem Enum.perm {α : Type} {P : α → Prop} {l l' : List α} (h : Enum P l) (h' : Enum P l') : l.Perm l' :=
  (List.perm_ext_iff_of_nodup h.1 h'.1).mpr fun x => by rw [h.2, h'.2]
/-- a number added at a crossing -/
def put (r : List Nat) (c k : Nat) : List Nat := r.modify c (· + k)
theorem put_length (r : List Nat) (c k : Nat) : (put r c k).length = r.length := by simp [put]
theorem put_zero (r : List Nat) (c : Nat) : put r c 0 = r := by
  unfold put
  refine List.ext_getElem (by simp) fun i h1 h2 => ?_
  rw [List.getElem_modify]
  split <;> simp
def ins (l : List (List Nat)) (r : List Nat) : List (List Nat) := if r ∈ l then l else l ++ [r]
theorem mem_ins {l : List (List Nat)} {r x : List Nat} : x ∈ ins l r ↔ x ∈ l ∨ x = r := by
  unfold ins
  split
  · rename_i h
    exact ⟨.inl, fun e => e.elim id fun e => e ▸ h⟩
  · simp
theorem nodup_ins {l : List (List Nat)} {r : List Nat} (h : l.Nodup) : (ins l r).Nodup := by
  unfold ins
  split
  · exact h
  · rename_i hn
    unfold List.Nodup
    rw [List.pairwise_append]
    refine ⟨h, by simp, fun a ha b hb => ?_⟩
    rw [List.mem_singleton] at hb
    subst hb
    exact fun e => hn (e ▸ ha)
theorem ins_length (l : List (List Nat)) (r : List Nat) : (ins l r).length ≤ l.length + 1 := by
  unfold ins
  split <;> simp
def inss (l : List (List Nat)) (rs : List (List Nat)) : List (List Nat) := rs.foldl ins l
theorem mem_inss {rs : List (List Nat)} : ∀ {l : List (List Nat)} {x : List Nat}, x ∈ inss l rs ↔ x ∈ l ∨ x ∈ rs := by
  induction rs with
  | nil => intro l x; simp [inss]
  | cons r rs ih =>
    intro l x
    show x ∈ inss (ins l r) rs ↔ _
    rw [ih, mem_ins, List.mem_cons, or_assoc]
theorem nodup_inss {rs : List (List Nat)} : ∀ {l : List (List Nat)}, l.Nodup → (inss l rs).Nodup := by
  induction rs with
  | nil => intro l h; exact h
  | cons r rs ih => intro l h; exact ih (nodup_ins h)
theorem inss_length {rs : List (List Nat)} : ∀ {l : List (List Nat)}, (inss l rs).length ≤ l.length + rs.length := by
  induction rs with
  | nil => intro l; simp [inss]
  | cons r rs ih =>
    intro l
    have h1 : (inss (ins l r) rs).length ≤ _ := ih
    have h2 := ins_length l r
    show (inss (ins l r) rs).length ≤ _
    simp only [List.length_cons]
    omega
theorem inss_append (l a b : List (List Nat)) : inss l (a ++ b) = inss (inss l a) b := List.foldl_append
/-- the rows of one road from one row -/
def outs1 (q : Nat) (e : Nat × Nat) (r : List Nat) : List (List Nat) := (List.range (q + 1)).map fun k => put (put r e.1 (q - k)) e.2 k
def stepR (q : Nat) (l : List (List Nat)) (e : Nat × Nat) : List (List Nat) := inss [] (l.flatMap (outs1 q e))
def rows (q : Nat) (l : List (List Nat)) (E : Ed) : List (List Nat) := E.foldl (stepR q) l
theorem stepR_length (q : Nat) (l : List (List Nat)) (e : Nat × Nat) : (stepR q l e).length ≤ (q + 1) * l.length := by
  have h : (stepR q l e).length ≤ _ := inss_length
  have e2 : (l.flatMap (outs1 q e)).length = (q + 1) * l.length := by
    induction l with
    | nil => simp
    | cons a l ih =>
      have h1 : (outs1 q e a).length = q + 1 := by simp [outs1]
      rw [List.flatMap_cons, List.length_append, ih (inss_length), List.length_cons, h1, Nat.mul_succ]
      omega
  rw [e2] at h
  simpa using h
theorem rows_length (q : Nat) : ∀ (E : Ed) (l : List (List Nat)), (rows q l E).length ≤ (q + 1) ^ E.length * l.length
  | [], l => by simp [rows]
  | e :: E, l => by
    have h1 := rows_length q E (stepR q l e)
    have h2 := stepR_length q l e
    have h3 : (rows q l (e :: E)).length = (rows q (stepR q l e) E).length := rfl
    rw [h3]
    refine Nat.le_trans h1 (Nat.le_trans (Nat.mul_le_mul_left _ h2) ?_)
    rw [List.length_cons, Nat.pow_succ, Nat.mul_assoc]
    exact Nat.le_refl _
theorem rows_nodup (q : Nat) : ∀ (E : Ed) (l : List (List Nat)), l.Nodup → (rows q l E).Nodup
  | [], l, h => h
  | e :: E, l, h => rows_nodup q E _ (nodup_inss List.nodup_nil)
/-- the row's function -/
def fn (r : List Nat) : Fr := fun v => ((r.getD v 0 : Nat) : Int)
theorem fn_put {r : List Nat} {c : Nat} (k : Nat) (hc : c < r.length) (v : Nat) : fn (put r c k) v = fn r v + if v = c then (k : Int) else 0 := by
  unfold fn put
  simp only [List.getD_eq_getElem?_getD, List.getElem?_modify]
  by_cases h : v = c
  · subst h
    simp [List.getElem?_eq_getElem hc]
  · have : ¬ c = v := fun e => h e.symm
    simp [h, this]
theorem fn_inj {r s : List Nat} (h : r.length = s.length) (e : fn r = fn s) : r = s := by
  refine List.ext_getElem h fun i h1 h2 => ?_
  have := congrFun e i
  unfold fn at this
  simp only [List.getD_eq_getElem?_getD, List.getElem?_eq_getElem h1, List.getElem?_eq_getElem h2, Option.getD_some] at this
  omega
theorem mem_rows {q n : Nat} : ∀ (E : Ed) (l : List (List Nat)), (∀ e ∈ E, e.1 < n ∧ e.2 < n) → (∀ r ∈ l, r.length = n) → (∀ r ∈ rows q l E, r.length = n) ∧ ∀ f, f ∈ (rows q l E).map fn ↔ ∃ y ∈ l, ∃ r, In q E id r ∧ f = fun v => fn y v + r v
  | [], l, _, hl => by
    refine ⟨hl, fun f => ?_⟩
    show f ∈ l.map fn ↔ _
    rw [List.mem_map]
    constructor
    · rintro ⟨y, hy, rfl⟩
      exact ⟨y, hy, fun _ => 0, ⟨[], ⟨rfl, fun k hk => by simp at hk⟩, by funext v; simp [row]⟩, by funext v; simp⟩
    · rintro ⟨y, hy, r, ⟨ks, _, rfl⟩, rfl⟩
      exact ⟨y, hy, by funext v; simp [row]⟩
  | e :: E, l, he, hl => by
    obtain ⟨a, b⟩ := e
    obtain ⟨ha, hb⟩ := he (a, b) (by simp)
    have hs : ∀ r, r ∈ stepR q l (a, b) ↔ ∃ y ∈ l, ∃ k ≤ q, r = put (put y a (q - k)) b k := fun r => by
      unfold stepR
      rw [mem_inss, List.mem_flatMap]
      constructor
      · rintro (h | ⟨y, hy, h⟩)
        · simp at h
        · obtain ⟨k, hk, rfl⟩ := List.mem_map.mp h
          exact ⟨y, hy, k, by have := List.mem_range.mp hk; omega, rfl⟩
      · rintro ⟨y, hy, k, hk, rfl⟩
        exact .inr ⟨y, hy, List.mem_map.mpr ⟨k, List.mem_range.mpr (by omega), rfl⟩⟩
    obtain ⟨ih1, ih2⟩ := mem_rows (q := q) E (stepR q l (a, b)) (fun e h => he e (by simp [h])) (fun r hr => by
      obtain ⟨y, hy, k, hk, rfl⟩ := (hs r).mp hr
      rw [put_length, put_length, hl y hy])
    refine ⟨ih1, fun f => ?_⟩
    show f ∈ (rows q (stepR q l (a, b)) E).map fn ↔ _
    rw [ih2]
    have key : ∀ y ∈ l, ∀ k ≤ q, ∀ v, fn (put (put y a (q - k)) b k) v = fn y v + (if v = a then (q : Int) - k else 0) + (if v = b then (k : Int) else 0) := fun y hy k hk v => by
      have hn := hl y hy
      rw [fn_put k (by rw [put_length]; omega), fn_put (q - k) (by omega)]
      have : ((q - k : Nat) : Int) = (q : Int) - k := by omega
      rw [this]
    constructor
    · rintro ⟨y', hy', r, hr, rfl⟩
      obtain ⟨y, hy, k, hk, rfl⟩ := (hs y').mp hy'
      refine ⟨y, hy, _, in_cons.mpr ⟨r, k, hr, hk, rfl⟩, ?_⟩
      funext v
      rw [key y hy k hk v]
      simp only [id]
      omega
    · rintro ⟨y, hy, r, hr, rfl⟩
      obtain ⟨t, k, ht, hk, rfl⟩ := in_cons.mp hr
      refine ⟨_, (hs _).mpr ⟨y, hy, k, hk, rfl⟩, t, ht, ?_⟩
      funext v
      rw [key y hy k hk v]
      simp only [id]
      omega
def zer (n : Nat) : List Nat := List.replicate n 0
theorem fn_zer (n v : Nat) : fn (zer n) v = 0 := by
  unfold fn zer
  simp [List.getD_eq_getElem?_getD, List.getElem?_replicate]
  split <;> simp
theorem rows_enum {q n : Nat} {E : Ed} (he : ∀ e ∈ E, e.1 < n ∧ e.2 < n) : (∀ r ∈ rows q [zer n] E, r.length = n) ∧ Enum (In q E id) ((rows q [zer n] E).map fn) := by
  obtain ⟨h1, h2⟩ := mem_rows (q := q) E [zer n] he (fun r hr => by rw [List.mem_singleton.mp hr]; simp [zer])
  refine ⟨h1, ?_, fun f => ?_⟩
  · unfold List.Nodup
    rw [List.pairwise_map]
    exact (rows_nodup q E [zer n] (by simp)).imp_of_mem fun {a b} ha hb hab e => hab (fn_inj ((h1 a ha).trans (h1 b hb).symm) e)
  · rw [h2]
    constructor
    · rintro ⟨y, hy, r, hr, rfl⟩
      rw [List.mem_singleton.mp hy]
      have : (fun v => fn (zer n) v + r v) = r := by
        funext v
        rw [fn_zer, Int.zero_add]
      rw [this]
      exact hr
    · intro h
      refine ⟨zer n, by simp, f, h, ?_⟩
      funext v
      rw [fn_zer, Int.zero_add]
theorem rows_count {q n : Nat} {E : Ed} (he : ∀ e ∈ E, e.1 < n ∧ e.2 < n) : (rows q [zer n] E).length = cnt q E id := by
  obtain ⟨l, hl, e⟩ := count (q := q) E id
  have := (rows_enum he).2.length hl
  rw [List.length_map, e] at this
  exact this
/-! ### each road q times -/
theorem in_app {q : Nat} {π : Nat → Nat} {E' : Ed} : ∀ (E : Ed) (r : Fr), In q (E ++ E') π r ↔ ∃ s t, In q E π s ∧ In q E' π t ∧ r = fun v => s v + t v
  | [], r => by
    constructor
    · intro h
      exact ⟨fun _ => 0, r, ⟨[], ⟨rfl, fun k hk => by simp at hk⟩, by funext v; simp [row]⟩, h, by funext v; simp⟩
    · rintro ⟨s, t, ⟨ks, _, rfl⟩, ht, rfl⟩
      have : (fun v => row q π [] ks v + t v) = t := by funext v; simp [row]
      rw [this]
      exact ht
  | (a, b) :: E, r => by
    rw [List.cons_append, in_cons]
    constructor
    · rintro ⟨t, k, ht, hk, rfl⟩
      obtain ⟨s, u, hs, hu, rfl⟩ := (in_app E t).mp ht
      exact ⟨_, u, in_cons.mpr ⟨s, k, hs, hk, rfl⟩, hu, by funext v; dsimp only; omega⟩
    · rintro ⟨s, u, hs, hu, rfl⟩
      obtain ⟨t, k, ht, hk, rfl⟩ := in_cons.mp hs
      exact ⟨_, k, (in_app E _).mpr ⟨t, u, ht, hu, rfl⟩, hk, by funext v; dsimp only; omega⟩
theorem in_succ {q : Nat} {π : Nat → Nat} : ∀ (E : Ed) (r : Fr), In (q + 1) E π r ↔ ∃ s t, In 1 E π s ∧ In q E π t ∧ r = fun v => s v + t v
  | [], r => by
    have e : ∀ (p : Nat) (ks : List Nat), row p π [] ks = fun _ => 0 := fun p ks => by funext v; simp [row]
    constructor
    · rintro ⟨ks, _, rfl⟩
      exact ⟨fun _ => 0, fun _ => 0, ⟨[], ⟨rfl, fun k hk => by simp at hk⟩, (e _ _).symm⟩, ⟨[], ⟨rfl, fun k hk => by simp at hk⟩, (e _ _).symm⟩, by rw [e]; rfl⟩
    · rintro ⟨s, t, ⟨ks, _, rfl⟩, ⟨k2, _, rfl⟩, rfl⟩
      exact ⟨[], ⟨rfl, fun k hk => by simp at hk⟩, by rw [e, e, e]; rfl⟩
  | (a, b) :: E, r => by
    rw [in_cons]
    constructor
    · rintro ⟨t, k, ht, hk, rfl⟩
      obtain ⟨s, u, hs, hu, rfl⟩ := (in_succ E t).mp ht
      by_cases h : k ≤ q
      · refine ⟨_, _, in_cons.mpr ⟨s, 0, hs, Nat.zero_le _, rfl⟩, in_cons.mpr ⟨u, k, hu, h, rfl⟩, ?_⟩
        funext v
        dsimp only
        split <;> split <;> omega
      · refine ⟨_, _, in_cons.mpr ⟨s, 1, hs, Nat.le_refl _, rfl⟩, in_cons.mpr ⟨u, k - 1, hu, by omega, rfl⟩, ?_⟩
        funext v
        dsimp only
        split <;> split <;> omega
    · rintro ⟨s, u, hs, hu, rfl⟩
      obtain ⟨t, k, ht, hk, rfl⟩ := in_cons.mp hs
      obtain ⟨w, j, hw, hj, rfl⟩ := in_cons.mp hu
      refine ⟨_, k + j, (in_succ E _).mpr ⟨t, w, ht, hw, rfl⟩, by omega, ?_⟩
      funext v
      dsimp only
      split <;> split <;> omega
theorem in_zero {π : Nat → Nat} : ∀ (E : Ed) (r : Fr), In 0 E π r ↔ r = fun _ => 0
  | [], r => by
    have e : ∀ (p : Nat) (ks : List Nat), row p π [] ks = fun _ => 0 := fun p ks => by funext v; simp [row]
    constructor
    · rintro ⟨ks, _, rfl⟩
      exact e _ _
    · rintro rfl
      exact ⟨[], ⟨rfl, fun k hk => by simp at hk⟩, (e _ _).symm⟩
  | (a, b) :: E, r => by
    rw [in_cons]
    constructor
    · rintro ⟨t, k, ht, hk, rfl⟩
      rw [(in_zero E t).mp ht]
      funext v
      dsimp only
      split <;> split <;> omega
    · rintro rfl
      refine ⟨_, 0, (in_zero E _).mpr rfl, Nat.le_refl _, ?_⟩
      funext v
      skip
      split <;> split <;> omega
theorem in_rep {π : Nat → Nat} {E : Ed} : ∀ (q : Nat) (r : Fr), In 1 (List.replicate q E).flatten π r ↔ In q E π r
  | 0, r => by
    rw [in_zero]
    constructor
    · rintro ⟨ks, _, rfl⟩
      funext v
      simp [row]
    · rintro rfl
      exact ⟨[], ⟨rfl, fun k hk => by simp at hk⟩, by funext v; simp [row]⟩
  | q + 1, r => by
    rw [List.replicate_succ, List.flatten_cons, in_app, in_succ]
    constructor
    · rintro ⟨s, t, hs, ht, rfl⟩
      exact ⟨s, t, hs, (in_rep q t).mp ht, rfl⟩
    · rintro ⟨s, t, hs, ht, rfl⟩
      exact ⟨s, t, hs, (in_rep q t).mpr ht, rfl⟩
theorem rows_rep {q n : Nat} {E : Ed} (he : ∀ e ∈ E, e.1 < n ∧ e.2 < n) : (rows 1 [zer n] (List.replicate q E).flatten).Perm (rows q [zer n] E) := by
  have he2 : ∀ e ∈ (List.replicate q E).flatten, e.1 < n ∧ e.2 < n := fun e h => by
    obtain ⟨l, hl, h⟩ := List.mem_flatten.mp h
    rw [(List.mem_replicate.mp hl).2] at h
    exact he e h
  obtain ⟨h1, h2⟩ := rows_enum (q := 1) he2
  obtain ⟨k1, k2⟩ := rows_enum (q := q) he
  refine (List.perm_ext_iff_of_nodup (rows_nodup _ _ _ (by simp)) (rows_nodup _ _ _ (by simp))).mpr fun x => ?_
  have m1 : fn x ∈ (rows 1 [zer n] (List.replicate q E).flatten).map fn ↔ fn x ∈ (rows q [zer n] E).map fn := by rw [h2.2, k2.2, in_rep]
  constructor
  · intro hx
    obtain ⟨y, hy, e⟩ := List.mem_map.mp (m1.mp (List.mem_map.mpr ⟨x, hx, rfl⟩))
    have := fn_inj ((k1 y hy).trans (h1 x hx).symm) e
    exact this ▸ hy
  · intro hx
    obtain ⟨y, hy, e⟩ := List.mem_map.mp (m1.mpr (List.mem_map.mpr ⟨x, hx, rfl⟩))
    have := fn_inj ((h1 y hy).trans (k1 x hx).symm) e
    exact this ▸ hy
end Fo
set_option Elab.async false
set_option linter.all false
set_option maxRecDepth 100000
set_option autoImplicit false
/-! Xd: heads, pieces, forests. -/
namespace Fo
/-- two names of crossings part them alike -/
def Ker (n : Nat) (π ρ : Nat → Nat) : Prop := ∀ x y, x < n → y < n → (π x = π y ↔ ρ x = ρ y)
theorem mp_ker {A B : Nat} {π : Nat → Nat} (x y : Nat) : mp A B π x = mp A B π y ↔ (π x = π y ∨ ((π x = A ∨ π x = B) ∧ (π y = A ∨ π y = B))) := by
  unfold mp
  by_cases h1 : π x = B <;> by_cases h2 : π y = B
  · simp [h1, h2]
  · rw [if_pos h1, if_neg h2]
    constructor
    · intro h; exact .inr ⟨.inr h1, .inl h.symm⟩
    · rintro (h | ⟨_, h | h⟩)
      · exact absurd (h.symm.trans h1) h2
      · exact h.symm
      · exact absurd h h2
  · rw [if_neg h1, if_pos h2]
    constructor
    · intro h; exact .inr ⟨.inl h, .inr h2⟩
    · rintro (h | ⟨h | h, _⟩)
      · exact absurd (h.trans h2) h1
      · exact h
      · exact absurd h h1
  · rw [if_neg h1, if_neg h2]
    constructor
    · intro h; exact .inl h
    · rintro (h | ⟨h | h, k | k⟩)
      · exact h
      · exact h.trans k.symm
      · exact absurd k h2
      · exact absurd h h1
      · exact absurd h h1
/-- the step by a road -/
def stp (π : Nat → Nat) (e : Nat × Nat) : Nat → Nat := mp (min (π e.1) (π e.2)) (max (π e.1) (π e.2)) π
theorem stp_ker {n : Nat} {π ρ : Nat → Nat} (h : Ker n π ρ) (a b : Nat) (ha : a < n) (hb : b < n) : Ker n (mp (π a) (π b) π) (stp ρ (a, b)) := by
  intro x y hx hy
  unfold stp
  rw [mp_ker, mp_ker, h x y hx hy, h x a hx ha, h x b hx hb, h y a hy ha, h y b hy hb]
  have hm : ∀ z : Nat, (z = min (ρ a) (ρ b) ∨ z = max (ρ a) (ρ b)) ↔ (z = ρ a ∨ z = ρ b) := fun z => by omega
  simp only
  rw [hm, hm]
/-- each road of a lot ties two pieces -/
def good (π : Nat → Nat) : Ed → Bool
  | [] => true
  | e :: E => decide (π e.1 ≠ π e.2) && good (stp π e) E
/-- all lots of a list -/
def subs {α : Type} : List α → List (List α)
  | [] => [[]]
  | x :: xs => subs xs ++ (subs xs).map (x :: ·)
def psum (q : Nat) (l : List Ed) : Nat := (l.map fun F => q ^ F.length).sum
theorem psum_append (q : Nat) (a b : List Ed) : psum q (a ++ b) = psum q a + psum q b := by simp [psum]
theorem cnt_subs {q n : Nat} : ∀ (E : Ed) (π ρ : Nat → Nat), (∀ e ∈ E, e.1 < n ∧ e.2 < n) → Ker n π ρ → cnt q E π = psum q ((subs E).filter (good ρ))
  | [], π, ρ, _, _ => by
    show 1 = psum q [[]]
    simp [psum]
  | (a, b) :: E, π, ρ, he, h => by
    obtain ⟨ha, hb⟩ := he (a, b) (by simp)
    have he := fun e h => he e (List.mem_cons_of_mem _ h)
    unfold cnt subs
    rw [List.filter_append, psum_append, cnt_subs E π ρ he h]
    congr 1
    by_cases e : π a = π b
    · have e2 := (h a b ha hb).mp e
      rw [if_pos e]
      have : ((subs E).map ((a, b) :: ·)).filter (good ρ) = [] := by
        rw [List.filter_eq_nil_iff]
        intro F hF
        obtain ⟨G, _, rfl⟩ := List.mem_map.mp hF
        simp [good, e2]
      rw [this]
      rfl
    · have e2 : ρ a ≠ ρ b := fun g => e ((h a b ha hb).mpr g)
      rw [if_neg e, cnt_subs E _ _ he (stp_ker h a b ha hb), List.filter_map]
      have : (good ρ ∘ fun x => (a, b) :: x) = good (stp ρ (a, b)) := by
        funext F
        simp [good, e2]
      rw [this]
      unfold psum
      rw [List.map_map]
      generalize (subs E).filter (good (stp ρ (a, b))) = L
      induction L with
      | nil => simp
      | cons F L ih =>
        simp only [List.map_cons, List.sum_cons, Nat.mul_add, ih, Function.comp_apply, List.length_cons, Nat.pow_succ, Nat.mul_comm]
/-! ### the law's lots -/
def lots {α : Type} (xs : List α) : List (List α) := xs.foldl (fun found x => found ++ found.map (· ++ [x])) [[]]
theorem subs_snoc {α : Type} (x : α) : ∀ xs : List α, (subs (xs ++ [x])).Perm (subs xs ++ (subs xs).map (· ++ [x]))
  | [] => by simp [subs]
  | y :: xs => by
    have ih := subs_snoc x xs
    simp only [List.cons_append, subs]
    refine (ih.append (ih.map _)).trans ?_
    simp only [List.map_append, List.map_map, List.append_assoc]
    refine List.Perm.append_left _ ?_
    have e : ((fun x => y :: x) ∘ fun x_1 => x_1 ++ [x]) = ((fun x_1 => x_1 ++ [x]) ∘ fun x => y :: x) := by
      funext l
      simp
    rw [e, ← List.append_assoc, ← List.append_assoc]
    exact List.Perm.append_right _ List.perm_append_comm
theorem lots_snoc {α : Type} (x : α) (xs : List α) : lots (xs ++ [x]) = lots xs ++ (lots xs).map (· ++ [x]) := by
  unfold lots
  rw [List.foldl_append]
  rfl
theorem lots_perm {α : Type} (xs : List α) : (lots xs).Perm (subs xs) := by
  have : ∀ (n : Nat) (xs : List α), xs.length = n → (lots xs).Perm (subs xs) := by
    intro n
    induction n with
    | zero =>
      intro xs h
      rw [List.length_eq_zero_iff.mp h]
      exact .refl _
    | succ n ih =>
      intro xs h
      have hne : xs ≠ [] := by
        rintro rfl
        simp at h
      have e := List.dropLast_concat_getLast hne
      have hl : xs.dropLast.length = n := by simp [h]
      rw [← e, lots_snoc]
      refine .trans ?_ (subs_snoc _ _).symm
      exact (ih _ hl).append ((ih _ hl).map _)
  exact this _ xs rfl
theorem subs_map {α β : Type} (f : α → β) : ∀ xs : List α, subs (xs.map f) = (subs xs).map (List.map f)
  | [] => rfl
  | x :: xs => by
    simp only [List.map_cons, subs, subs_map f xs, List.map_append, List.map_map]
    rfl
theorem lots_length {α : Type} (xs : List α) : (lots xs).length = 2 ^ xs.length := by
  rw [(lots_perm xs).length_eq]
  induction xs with
  | nil => rfl
  | cons x xs ih =>
    simp only [subs, List.length_append, List.length_map, ih, List.length_cons, Nat.pow_succ]
    omega
theorem mem_subs {α : Type} : ∀ {xs l : List α}, l ∈ subs xs → l.Sublist xs
  | [], l, h => by
    rw [List.mem_singleton.mp h]
    exact .slnil
  | x :: xs, l, h => by
    rcases List.mem_append.mp h with h | h
    · exact (mem_subs h).cons x
    · obtain ⟨m, hm, rfl⟩ := List.mem_map.mp h
      exact (mem_subs hm).cons₂ x
theorem lots_nodup {α : Type} : ∀ {xs : List α}, xs.Nodup → (lots xs).Nodup := by
  intro xs h
  rw [(lots_perm xs).nodup_iff]
  induction xs with
  | nil => simp [subs]
  | cons x xs ih =>
    obtain ⟨h1, h2⟩ := List.nodup_cons.mp h
    have ih := ih h2
    unfold subs List.Nodup
    rw [List.pairwise_append]
    refine ⟨ih, ?_, fun a ha b hb e => ?_⟩
    · rw [List.pairwise_map]
      exact ih.imp fun {a b} hab e => hab (List.cons.inj e).2
    · obtain ⟨m, hm, rfl⟩ := List.mem_map.mp hb
      exact h1 ((mem_subs ha).subset (by rw [e]; simp))
/-! ### heads -/
def hd (h : List Nat) (v : Nat) : Nat := h.getD v 0
def stepH (h : List Nat) (e : Nat × Nat) : List Nat := h.map fun z => if z = max (hd h e.1) (hd h e.2) then min (hd h e.1) (hd h e.2) else z
theorem hd_step (h : List Nat) (e : Nat × Nat) : hd (stepH h e) = stp (hd h) e := by
  funext v
  have e1 : stp (hd h) e v = if hd h v = max (hd h e.1) (hd h e.2) then min (hd h e.1) (hd h e.2) else hd h v := rfl
  rw [e1]
  show (stepH h e).getD v 0 = _
  rw [List.getD_eq_getElem?_getD]
  unfold stepH
  rw [List.getElem?_map]
  by_cases hv : v < h.length
  · rw [List.getElem?_eq_getElem hv]
    have : hd h v = h[v] := by simp [hd, List.getElem?_eq_getElem hv]
    rw [this]
    rfl
  · rw [List.getElem?_eq_none (by omega)]
    have : hd h v = 0 := by simp [hd, List.getElem?_eq_none (Nat.le_of_not_lt hv)]
    rw [this]
    show (0 : Nat) = _
    split <;> omega
structure Hs (n : Nat) (h : List Nat) : Prop where
  len : h.length = n
  lt : ∀ v < n, hd h v < n
  idem : ∀ v < n, hd h (hd h v) = hd h v
theorem hs_range (n : Nat) : Hs n (List.range n) := by
  have e : ∀ v < n, hd (List.range n) v = v := fun v hv => by simp [hd, hv]
  exact ⟨by simp, fun v hv => by rw [e v hv]; exact hv, fun v hv => by rw [e v hv, e v hv]⟩
theorem hs_step {n : Nat} {h : List Nat} {e : Nat × Nat} (H : Hs n h) (h1 : e.1 < n) (h2 : e.2 < n) : Hs n (stepH h e) := by
  have a1 := H.lt _ h1
  have a2 := H.lt _ h2
  have b1 := H.idem _ h1
  have b2 := H.idem _ h2
  refine ⟨by simp [stepH, H.len], fun v hv => ?_, fun v hv => ?_⟩
  · rw [hd_step]
    have := H.lt v hv
    unfold stp mp
    split <;> omega
  · have hv1 := H.idem v hv
    rw [hd_step]
    generalize hx : hd h e.1 = x at a1 b1
    generalize hy : hd h e.2 = y at a2 b2
    have es : ∀ z, stp (hd h) e z = if hd h z = max x y then min x y else hd h z := fun z => by
      rw [← hx, ← hy]
      rfl
    rw [es v]
    have hmin : hd h (min x y) = min x y := by
      rcases Nat.le_total x y with g | g
      · rw [Nat.min_eq_left g]; exact b1
      · rw [Nat.min_eq_right g]; exact b2
    by_cases hc : hd h v = max x y
    · rw [if_pos hc, es, hmin]
      split <;> rfl
    · rw [if_neg hc, es, hv1, if_neg hc]
/-- the roots -/
def roots (n : Nat) (h : List Nat) : List Nat := (List.range n).filter fun c => decide (hd h c = c)
theorem roots_step {n : Nat} {h : List Nat} {e : Nat × Nat} (H : Hs n h) (h1 : e.1 < n) (h2 : e.2 < n) : (roots n h).length = (roots n (stepH h e)).length + if hd h e.1 = hd h e.2 then 0 else 1 := by
  have a1 := H.lt _ h1
  have a2 := H.lt _ h2
  have b1 := H.idem _ h1
  have b2 := H.idem _ h2
  have es : ∀ z, hd (stepH h e) z = if hd h z = max (hd h e.1) (hd h e.2) then min (hd h e.1) (hd h e.2) else hd h z := fun z => by rw [hd_step]; rfl
  generalize hd h e.1 = x at a1 b1 es
  generalize hd h e.2 = y at a2 b2 es
  by_cases hxy : x = y
  · subst hxy
    have : roots n (stepH h e) = roots n h := by
      unfold roots
      congr 1
      funext c
      rw [es c]
      simp only [Nat.max_self, Nat.min_self]
      split
      · rename_i g; rw [g]
      · rfl
    rw [this]
    simp
  · rw [if_neg hxy]
    have hB : hd h (max x y) = max x y := by
      rcases Nat.le_total x y with g | g
      · rw [Nat.max_eq_right g]; exact b2
      · rw [Nat.max_eq_left g]; exact b1
    have e1 : roots n (stepH h e) = (roots n h).filter fun c => decide (c ≠ max x y) := by
      unfold roots
      rw [List.filter_filter]
      refine List.filter_congr fun c hc => ?_
      rw [es c]
      by_cases g : hd h c = max x y
      · rw [if_pos g]
        by_cases g2 : c = max x y
        · subst g2
          rw [hB]
          simp
          omega
        · have : ¬ hd h c = c := fun k => g2 (k.symm.trans g)
          simp only [this, decide_false, Bool.and_false, decide_eq_false_iff_not]
          intro k
          have hm : hd h (min x y) = min x y := by
            rcases Nat.le_total x y with g | g
            · rw [Nat.min_eq_left g]; exact b1
            · rw [Nat.min_eq_right g]; exact b2
          rw [← k, hm] at g
          omega
      · rw [if_neg g]
        by_cases g2 : hd h c = c
        · have : c ≠ max x y := fun k => g (g2.trans k)
          simp [g2, this]
        · simp [g2]
    have nd : (roots n h).Nodup := List.nodup_range.filter _
    have hm : max x y ∈ roots n h := by
      unfold roots
      rw [List.mem_filter, List.mem_range]
      exact ⟨by omega, by simp [hB]⟩
    have e2 : ((roots n h).filter fun c => decide (c ≠ max x y)) = (roots n h).erase (max x y) := by
      rw [nd.erase_eq_filter]
      refine List.filter_congr fun c _ => ?_
      by_cases g : c = max x y <;> simp [g]
    rw [e1, e2, List.length_erase_of_mem hm]
    have := List.length_pos_of_mem hm
    omega
def heads (h : List Nat) (E : Ed) : List Nat := E.foldl stepH h
theorem heads_ok {n : Nat} : ∀ (E : Ed) (h : List Nat), (∀ e ∈ E, e.1 < n ∧ e.2 < n) → Hs n h →
    Hs n (heads h E) ∧ (roots n h).length ≤ (roots n (heads h E)).length + E.length ∧ (good (hd h) E = true ↔ (roots n h).length = (roots n (heads h E)).length + E.length)
  | [], h, _, H => by
    refine ⟨H, ?_, ?_⟩
    · exact Nat.le_refl _
    · simp [good, heads]
  | e :: E, h, he, H => by
    obtain ⟨h1, h2⟩ := he e (by simp)
    have hs := roots_step H h1 h2
    obtain ⟨i1, i2, i3⟩ := heads_ok E (stepH h e) (fun e h => he e (by simp [h])) (hs_step H h1 h2)
    have eh : heads h (e :: E) = heads (stepH h e) E := rfl
    rw [eh]
    refine ⟨i1, ?_, ?_⟩
    · simp only [List.length_cons]
      split at hs <;> omega
    · unfold good
      rw [Bool.and_eq_true, ← hd_step, i3, decide_eq_true_eq]
      simp only [List.length_cons]
      split at hs
      · rename_i g
        constructor
        · rintro ⟨k, _⟩; exact absurd g k
        · intro k; omega
      · rename_i g
        constructor
        · rintro ⟨_, k⟩; omega
        · intro k; exact ⟨g, by omega⟩
/-- how many pieces -/
def pcs (n : Nat) (E : Ed) : Nat := (roots n (heads (List.range n) E)).length
theorem roots_range (n : Nat) : roots n (List.range n) = List.range n := by
  unfold roots
  rw [List.filter_eq_self]
  intro c hc
  simp [hd, List.mem_range.mp hc]
theorem good_pcs {n : Nat} {E : Ed} (he : ∀ e ∈ E, e.1 < n ∧ e.2 < n) : good (hd (List.range n)) E = decide (pcs n E + E.length = n) := by
  obtain ⟨_, _, h⟩ := heads_ok E _ he (hs_range n)
  rw [roots_range, List.length_range] at h
  rw [Bool.eq_iff_iff, h, decide_eq_true_eq]
  unfold pcs
  omega
theorem roots_pos {n : Nat} {h : List Nat} (H : Hs n h) (hn : 0 < n) : 0 < (roots n h).length := by
  refine List.length_pos_of_mem (a := hd h 0) ?_
  unfold roots
  rw [List.mem_filter, List.mem_range]
  exact ⟨H.lt 0 hn, by simp [H.idem 0 hn]⟩
/-- distinct heads are the roots -/
theorem mem_roots {n : Nat} {h : List Nat} (H : Hs n h) (c : Nat) : c ∈ roots n h ↔ c ∈ h := by
  have hg : ∀ v (hv : v < h.length), hd h v = h[v] := fun v hv => by simp [hd, List.getElem?_eq_getElem hv]
  unfold roots
  rw [List.mem_filter, List.mem_range, decide_eq_true_eq]
  constructor
  · rintro ⟨h1, h2⟩
    rw [← h2, hg c (by rw [H.len]; exact h1)]
    exact List.getElem_mem _
  · intro hc
    obtain ⟨v, hv, rfl⟩ := List.getElem_of_mem hc
    rw [H.len] at hv
    rw [← hg v (by rw [H.len]; exact hv)]
    exact ⟨H.lt v hv, H.idem v hv⟩
theorem distinct_len {n : Nat} {h l : List Nat} (H : Hs n h) (nd : l.Nodup) (hm : ∀ c, c ∈ l ↔ c ∈ h) : l.length = (roots n h).length :=
  Enum.length (P := fun c => c ∈ h) ⟨nd, hm⟩ ⟨List.nodup_range.filter _, mem_roots H⟩
end Fo
set_option Elab.async false
set_option linter.all false
set_option maxRecDepth 100000
set_option autoImplicit false
/-! Xe: forests by their roads' numbers; sums of powers. -/
namespace Fo
def InF (n : Nat) (E : Ed) : Prop := ∀ e ∈ E, e.1 < n ∧ e.2 < n
/-- the roads of a lot of numbers -/
def ed (E : Ed) (lot : List Nat) : Ed := lot.map fun i => E.getD i (0, 0)
def isF (n : Nat) (E : Ed) (lot : List Nat) : Bool := decide (pcs n (ed E lot) + lot.length = n)
def lotsN (m : Nat) : List (List Nat) := lots (List.range m)
def forests (n : Nat) (E : Ed) : List (List Nat) := (lotsN E.length).filter (isF n E)
def psN (q : Nat) (l : List (List Nat)) : Nat := (l.map fun F => q ^ F.length).sum
theorem psN_perm {q : Nat} {l l' : List (List Nat)} (h : l.Perm l') : psN q l = psN q l' := (h.map _).sum_nat
theorem range_getD (E : Ed) : (List.range E.length).map (fun i => E.getD i (0, 0)) = E := by
  refine List.ext_getElem (by simp) fun i h1 h2 => ?_
  simp [h2]
theorem lot_lt {m : Nat} {lot : List Nat} (h : lot ∈ lotsN m) : ∀ i ∈ lot, i < m := by
  have := mem_subs ((lots_perm _).mem_iff.mp h)
  intro i hi
  exact List.mem_range.mp (this.subset hi)
theorem lot_len {m : Nat} {lot : List Nat} (h : lot ∈ lotsN m) : lot.length ≤ m := by
  have := (mem_subs ((lots_perm _).mem_iff.mp h)).length_le
  simpa using this
theorem ed_in {n : Nat} {E : Ed} (he : InF n E) {lot : List Nat} (h : ∀ i ∈ lot, i < E.length) : InF n (ed E lot) := by
  intro e h2
  obtain ⟨i, hi, rfl⟩ := List.mem_map.mp h2
  have := h i hi
  have e : E.getD i (0, 0) = E[i] := by simp [this]
  rw [e]
  exact he _ (List.getElem_mem _)
theorem forests_sum {q n : Nat} {E : Ed} (he : InF n E) : psN q (forests n E) = (rows q [zer n] E).length := by
  rw [rows_count he, cnt_subs (n := n) E id (hd (List.range n)) he (fun x y hx hy => by simp [hd, hx, hy])]
  have e1 : psN q (forests n E) = psN q ((subs (List.range E.length)).filter (isF n E)) := psN_perm ((lots_perm _).filter _)
  rw [e1]
  have e2 : subs E = (subs (List.range E.length)).map (ed E) := by
    have := subs_map (fun i => E.getD i (0, 0)) (List.range E.length)
    rw [range_getD] at this
    exact this
  rw [e2, List.filter_map]
  unfold psum psN
  rw [List.map_map]
  congr 1
  have e3 : (subs (List.range E.length)).filter (isF n E) = (subs (List.range E.length)).filter (good (hd (List.range n)) ∘ ed E) := by
    refine List.filter_congr fun lot hl => ?_
    have hl2 : lot ∈ lotsN E.length := (lots_perm _).mem_iff.mpr hl
    rw [Function.comp_apply, good_pcs (ed_in he (lot_lt hl2))]
    unfold isF
    have : (ed E lot).length = lot.length := by simp [ed]
    rw [this]
  rw [e3]
  refine List.map_congr_left fun lot _ => ?_
  simp [ed]
theorem forest_len {n : Nat} {E : Ed} (he : InF n E) (hn : 0 < n) {lot : List Nat} (h : lot ∈ forests n E) : lot.length < n := by
  obtain ⟨h1, h2⟩ := List.mem_filter.mp h
  have h3 : pcs n (ed E lot) + lot.length = n := of_decide_eq_true h2
  have := roots_pos (heads_ok _ _ (ed_in he (lot_lt h1)) (hs_range n)).1 hn
  unfold pcs at h3
  omega
/-! ### Horner -/
def hval (q : Nat) : List Nat → Nat
  | [] => 0
  | x :: xs => x + q * hval q xs
theorem hval_put (q : Nat) : ∀ (l : List Nat) (i : Nat), i < l.length → hval q (l.modify i (· + 1)) = hval q l + q ^ i
  | [], i, h => by simp at h
  | x :: xs, 0, _ => by
    simp only [List.modify_zero_cons, hval, Nat.pow_zero]
    omega
  | x :: xs, i + 1, h => by
    simp only [List.modify_succ_cons, hval]
    rw [hval_put q xs i (by simpa using h), Nat.mul_add, Nat.pow_succ, Nat.mul_comm (q ^ i) q]
    omega
theorem hval_zeros (q : Nat) : ∀ n : Nat, hval q (List.replicate n 0) = 0
  | 0 => rfl
  | n + 1 => by
    rw [List.replicate_succ, hval, hval_zeros q n]
    rfl
theorem hval_fold (q : Nat) : ∀ (l : List Nat) (v : Nat), l.reverse.foldl (fun v x => v * q + x) v = v * q ^ l.length + hval q l
  | [], v => by simp [hval]
  | x :: xs, v => by
    rw [List.reverse_cons, List.foldl_append, hval_fold q xs v]
    simp only [List.foldl_cons, List.foldl_nil, hval, List.length_cons, Nat.pow_succ, Nat.add_mul, Nat.mul_assoc]
    rw [Nat.mul_comm (hval q xs) q]
    omega
theorem sum_le {α : Type} {f : α → Nat} {B : Nat} : ∀ {l : List α}, (∀ x ∈ l, f x ≤ B) → (l.map f).sum ≤ l.length * B
  | [], _ => by simp
  | x :: l, h => by
    have h1 := h x (by simp)
    have h2 := sum_le (f := f) (B := B) (l := l) (fun y hy => h y (by simp [hy]))
    simp only [List.map_cons, List.sum_cons, List.length_cons, Nat.add_mul, Nat.one_mul]
    omega
end Fo
set_option Elab.async false
set_option linter.all false
set_option maxRecDepth 100000
set_option maxHeartbeats 400000
set_option autoImplicit false
/-! Wj: rows of whole numbers as data; dicts whose keys are such rows. -/
namespace Vi
open PySem L2
abbrev rowT (r : List Nat) : PyData := .tuple (r.map natP)
abbrev rowTD (r : List Nat) : D := .v (rowT r)
def keyR (r : List Nat) : List L2.Key := r.map fun (i : Nat) => (Sum.inl (i : Int) : L2.Key)
theorem toKs_row : ∀ r : List Nat, toKs (r.map natP) = some (keyR r)
  | [] => rfl
  | x :: r => by
    rw [List.map_cons, toKs, toKs_row r]
    rfl
theorem toKeys_row (r : List Nat) : toKeys (rowT r) = some (keyR r) := toKs_row r
theorem keyT_row (r : List Nat) : keyT (keyR r) = rowT r := by
  unfold keyT keyR rowT
  rw [List.map_map]
  rfl
theorem keyR_inj {a b : List Nat} (h : keyR a = keyR b) : a = b := by
  have e : ∀ r : List Nat, (keyR r).map (fun k => match k with | .inl i => i.toNat | .inr _ => 0) = r := fun r => by
    unfold keyR
    rw [List.map_map]
    exact (List.map_congr_left fun x _ => by simp).trans (List.map_id _)
  rw [← e a, h, e b]
def dtR (v : D) (l : List (List Nat)) : List (List L2.Key × D) := l.map fun r => (keyR r, v)
theorem dtR_keys (v : D) (l : List (List Nat)) : (dtR v l).map (·.1) = l.map keyR := by
  unfold dtR
  rw [List.map_map]
  rfl
theorem kget_row (v : D) (r : List Nat) : ∀ l : List (List Nat), kget (dtR v l) (keyR r) = if r ∈ l then some v else none
  | [] => by simp [kget, dtR]
  | x :: l => by
    have ih := kget_row v r l
    unfold kget dtR at ih ⊢
    rw [List.map_cons, List.find?_cons]
    by_cases h : x = r
    · subst h
      simp
    · have h1 : ¬ keyR x = keyR r := fun e => h (keyR_inj e)
      have h2 : ¬ r = x := fun e => h e.symm
      simp only [h1, decide_false, List.mem_cons, h2, false_or]
      exact ih
theorem kput_row (v : D) (l : List (List Nat)) (r : List Nat) : kput (dtR v l) (keyR r) v = dtR v (Fo.ins l r) := by
  unfold kput Fo.ins
  rw [kget_row]
  by_cases h : r ∈ l
  · simp only [h, if_true, Option.isSome_some]
    unfold dtR
    rw [List.map_map]
    refine List.map_congr_left fun x _ => ?_
    simp only [Function.comp_apply]
    split <;> rfl
  · simp only [h, if_false, Option.isSome_none, Bool.false_eq_true]
    simp [dtR]
theorem to_row {st : Sto} {n : Nat} {v : D} {l : List (List Nat)} {r : List Nat} {P : Sto → Prop} (hx : st[n]? = some (.dt false (dtR v l))) (hl : l.length < 16777216) (h : P (st.set n (.dt false (dtR v (Fo.ins l r))))) : Ok (store st (.ref n) (rowTD r) v) P := by
  refine to_dt hx (toKeys_row r) (by unfold dtR; simpa using hl) ?_
  rw [kput_row]
  exact h
theorem ok_forR {C : Cfg} {env : En} {st : Sto} {F : Flow → En → Sto → Prop} {t : T} {i n : Nat} {b : List S} {v : D} {l : List (List Nat)} (I : List (List Nat) → En → Sto → Prop) (hg : GetE env i (.ref n)) (hs : st[n]? = some (.dt false (dtR v l)))
    (ht : ∀ x r env st, I (x :: r) env st → Ok3 (bodyOf C t b (rowTD x) env st) fun fl env st => fl = .nx ∧ I r env st) (hi : I l env (st.set n (.dt true (dtR v l))))
    (h : ∀ env st, I [] env st → st[n]? = some (.dt true (dtR v l)) ∧ F .nx env (st.set n (.dt false (dtR v l)))) : Ok3 (exS C (.forK t i b) env st) F := by
  refine ok_forK (ι := Unit) (ks := l.map keyR) (fun ks env st => ∃ rs : List (List Nat), ks = rs.map keyR ∧ I rs env st) hg hs ?_ ⟨l, dtR_keys v l, hi⟩ ?_
  · rintro x r env st ⟨rs, e, hI⟩
    cases rs with
    | nil => cases e
    | cons a rs =>
      simp only [List.map_cons, List.cons.injEq] at e
      obtain ⟨rfl, rfl⟩ := e
      rw [keyT_row]
      obtain ⟨fl, env', st', e1, e2, e3⟩ := ht a rs env st hI
      exact ⟨fl, env', st', e1, e2, rs, rfl, e3⟩
  · rintro env st ⟨rs, e, hI⟩
    have : rs = [] := by
      cases rs with
      | nil => rfl
      | cons a rs => cases e
    subst this
    obtain ⟨h1, h2⟩ := h env st hI
    exact ⟨_, h1, h2⟩
/-! ### sorting -/
def rN (a : List Nat) : List Int := a.map fun (i : Nat) => (i : Int)
def leN (a b : List Nat) : Bool := !decide (rN b < rN a)
theorem leN_iff {a b : List Nat} : leN a b = true ↔ rN a ≤ rN b := by
  unfold leN
  rw [Bool.not_eq_true', decide_eq_false_iff_not]
  exact List.not_lt
theorem leN_trans (a b c : List Nat) (h1 : leN a b = true) (h2 : leN b c = true) : leN a c = true := by
  rw [leN_iff] at h1 h2 ⊢
  exact List.le_trans h1 h2
theorem leN_total (a b : List Nat) : (leN a b || leN b a) = true := by
  rw [Bool.or_eq_true, leN_iff, leN_iff]
  exact List.le_total _ _
theorem rN_inj : ∀ {a b : List Nat}, rN a = rN b → a = b
  | [], [], _ => rfl
  | [], _ :: _, h => by simp [rN] at h
  | _ :: _, [], h => by simp [rN] at h
  | x :: a, y :: b, h => by
    simp only [rN, List.map_cons, List.cons.injEq] at h
    have := rN_inj (a := a) (b := b) h.2
    have e : x = y := by omega
    rw [e, this]
theorem leN_anti {a b : List Nat} (h1 : leN a b = true) (h2 : leN b a = true) : a = b := by
  rw [leN_iff] at h1 h2
  exact rN_inj (List.le_antisymm h1 h2)
def sortN (l : List (List Nat)) : List (List Nat) := l.mergeSort leN
theorem sortN_perm (l : List (List Nat)) : (sortN l).Perm l := List.mergeSort_perm _ _
theorem sortN_length (l : List (List Nat)) : (sortN l).length = l.length := List.length_mergeSort l
theorem sortN_mem {l : List (List Nat)} {x : List Nat} : x ∈ sortN l ↔ x ∈ l := (sortN_perm l).mem_iff
theorem sortN_eq {l l' : List (List Nat)} (h : l.Perm l') : sortN l = sortN l' :=
  List.Perm.eq_of_pairwise (le := fun a b => leN a b = true) (fun a b _ _ h1 h2 => leN_anti h1 h2) (List.pairwise_mergeSort leN_trans leN_total _) (List.pairwise_mergeSort leN_trans leN_total _) ((sortN_perm l).trans (h.trans (sortN_perm l').symm))
theorem sortN_filter (p : List Nat → Bool) (l : List (List Nat)) : sortN (l.filter p) = (sortN l).filter p :=
  List.Perm.eq_of_pairwise (le := fun a b => leN a b = true) (fun a b _ _ h1 h2 => leN_anti h1 h2) (List.pairwise_mergeSort leN_trans leN_total _) ((List.pairwise_mergeSort leN_trans leN_total _).filter _) ((sortN_perm _).trans ((sortN_perm l).symm.filter p))
theorem rowT_rN (a : List Nat) : rowT a = .tuple ((rN a).map .int) := by
  unfold rowT rN
  rw [List.map_map]
  rfl
theorem alike_rowT (a b : List Nat) : PySem.W.alike (rowT a) (rowT b) = true := by
  rw [rowT_rN, rowT_rN]
  exact PySem.W.alike_ints _ _
theorem depth_rowT (a : List Nat) : (rowT a).depth ≤ 60 := by
  rw [rowT_rN, PyData.depth, PySem.W.depth_ints]
  decide
theorem sortOk_rows {l : List (List Nat)} (hl : l.length ≤ 16777216) : sortOk (l.map rowT) = true := by
  simp only [sortOk, Bool.and_eq_true, Bool.or_eq_true]
  refine ⟨⟨⟨small_le (by simpa using hl), ?_⟩, .inl ?_⟩, ?_⟩
  · simp only [alikeAllB, List.all_eq_true]
    intro p hp q hq
    obtain ⟨a, _, rfl⟩ := List.mem_map.mp hp
    obtain ⟨b, _, rfl⟩ := List.mem_map.mp hq
    exact alike_rowT a b
  · rw [List.all_eq_true]
    intro p hp
    obtain ⟨a, ha, rfl⟩ := List.mem_map.mp hp
    rfl
  · rw [List.all_eq_true]
    intro p hp
    obtain ⟨a, ha, rfl⟩ := List.mem_map.mp hp
    exact decide_eq_true (depth_rowT a)
theorem merge_rows (l : List (List Nat)) : (l.map rowT).mergeSort (PySem.W.dataLe false id) = (sortN l).map rowT := by
  unfold sortN
  rw [List.map_mergeSort]
  intro a _ b _
  show leN a b = PySem.W.dataLe false id (rowT a) (rowT b)
  rw [PySem.W.dataLe_eq]
  show leN a b = !PySem.W.dataLt (rowT b) (rowT a)
  rw [rowT_rN, rowT_rN, PySem.W.dataLt_tuple]
  unfold leN
  congr 1
  exact (PySem.W.dataLt_ints _ _).symm
theorem sort_rowsN {st : Sto} {l : List (List Nat)} {G : D → Prop} (hl : l.length ≤ 16777216) (g : G (.v (.list ((sortN l).map rowT)))) : Ok (sortedOf st false (.v (.list (l.map rowT)))) G := by
  refine ⟨_, ?_, g⟩
  have e : sortedOf st false (.v (.list (l.map rowT))) = match plains ((l.map rowT).map D.v) with
      | some ps => if sortOk ps then .ok (.v (.list (ps.mergeSort (PySem.W.dataLe false id)))) else .no
      | none => .no := rfl
  rw [e, plains_map]
  simp only [sortOk_rows hl, if_true, merge_rows]
theorem sort_dtR {st : Sto} {n : Nat} {v : D} {l : List (List Nat)} {G : D → Prop} (hx : st[n]? = some (.dt false (dtR v l))) (hl : l.length ≤ 16777216) (g : G (.v (.list ((sortN l).map rowT)))) : Ok (sortedOf st false (.ref n)) G := by
  refine so_dt hx (ps := l.map rowT) ?_ (sortOk_rows hl) ?_
  · unfold dtR
    rw [List.map_map]
    exact List.map_congr_left fun r _ => (keyT_row r).symm
  · rw [merge_rows]
    exact g
/-! ### the same data -/
theorem Ne.eqv {d : PyData} {k w : Nat} (h : Ne d k w) : PyData.eqv d d = true := by
  exact PySem.SeqAt.eqv_refl d h.lay
theorem op_neSame {st : Sto} {d : PyData} {k w : Nat} {B : Bool → Prop} (h : Ne d k w) (hk : k ≤ 64) (hs : ∀ s, d ≠ .str s) (b : B false) : Ok (cmpop st .NotEq (.v d) (.v d)) B := by
  refine ⟨_, ?_, b⟩
  have e : sPair (.v d) (.v d) = none := by
    cases d with
    | str s => exact absurd rfl (hs s)
    | _ => rfl
  have s := h.shaped hk
  simp only [cmpop, e, cmpop0, toP, eqOk, s, Bool.and_self, if_true, h.eqv, Bool.not_true]
theorem op_eqSame {st : Sto} {d : PyData} {k w : Nat} {B : Bool → Prop} (h : Ne d k w) (hk : k ≤ 64) (hs : ∀ s, d ≠ .str s) (b : B true) : Ok (cmpop st .Eq (.v d) (.v d)) B := by
  refine ⟨_, ?_, b⟩
  have e : sPair (.v d) (.v d) = none := by
    cases d with
    | str s => exact absurd rfl (hs s)
    | _ => rfl
  have s := h.shaped hk
  simp only [cmpop, e, cmpop0, toP, eqOk, s, Bool.and_self, if_true, h.eqv]
theorem natP_ne {i : Nat} (h : i < 10 ^ 12) : Ne (natP i) 0 40 := Ne.int (by simpa using h)
theorem rowT_ne {r : List Nat} {m : Nat} (h : ∀ i ∈ r, i < 10 ^ 12) (hl : r.length ≤ m) : Ne (rowT r) 1 (m * 41) := Ne.tup (k := 0) (w := 40) (fun x hx => by
  obtain ⟨i, hi, rfl⟩ := List.mem_map.mp hx
  exact natP_ne (h i hi)) (by simpa using hl)
theorem rowsT_ne {l : List (List Nat)} {m j : Nat} (h : ∀ r ∈ l, (∀ i ∈ r, i < 10 ^ 12) ∧ r.length ≤ m) (hl : l.length ≤ j) : Ne (.tuple (l.map rowT)) 2 (j * (m * 41 + 1)) ∧ Ne (.list (l.map rowT)) 2 (j * (m * 41 + 1)) := by
  have hx : ∀ x ∈ l.map rowT, Ne x 1 (m * 41) := fun x hx => by
    obtain ⟨r, hr, rfl⟩ := List.mem_map.mp hx
    exact rowT_ne (h r hr).1 (h r hr).2
  exact ⟨Ne.tup hx (by simpa using hl), Ne.lst hx (by simpa using hl)⟩
/-! ### dicts of pairs -/
def insN (l : List Nat) (x : Nat) : List Nat := if x ∈ l then l else l ++ [x]
def dkN (v : D) (l : List Nat) : List (L2.Key × D) := l.map fun (i : Nat) => (Sum.inl (i : Int), v)
theorem kget_nat (v : D) (x : Nat) : ∀ l : List Nat, kget (dkN v l) (Sum.inl (x : Int)) = if x ∈ l then some v else none
  | [] => by simp [kget, dkN]
  | y :: l => by
    have ih := kget_nat v x l
    unfold kget dkN at ih ⊢
    rw [List.map_cons, List.find?_cons]
    by_cases h : y = x
    · subst h
      simp
    · have h1 : ¬ (Sum.inl (y : Int) : L2.Key) = Sum.inl (x : Int) := fun e => h (by injection e with e; omega)
      have h2 : ¬ x = y := fun e => h e.symm
      simp only [h1, decide_false, List.mem_cons, h2, false_or]
      exact ih
theorem kput_nat (v : D) (l : List Nat) (x : Nat) : kput (dkN v l) (Sum.inl (x : Int)) v = dkN v (insN l x) := by
  unfold kput insN
  rw [kget_nat]
  by_cases h : x ∈ l
  · simp only [h, if_true, Option.isSome_some]
    unfold dkN
    rw [List.map_map]
    refine List.map_congr_left fun x _ => ?_
    simp only [Function.comp_apply]
    split <;> rfl
  · simp only [h, if_false, Option.isSome_none, Bool.false_eq_true]
    simp [dkN]
theorem pairKs_nat (p : PyData) : ∀ xs : List Nat, pairKs (xs.map fun x => .tuple [natP x, p]) = some (xs.map fun (x : Nat) => (Sum.inl (x : Int), p))
  | [] => rfl
  | x :: xs => by
    rw [List.map_cons, pairKs, pairKs_nat p xs]
    rfl
theorem kmerge_nat (p : PyData) (xs : List Nat) : kmerge (xs.map fun (x : Nat) => ((Sum.inl (x : Int) : L2.Key), p)) = dkN (.v p) (xs.foldl insN []) := by
  unfold kmerge
  rw [List.foldl_map]
  have : ∀ (xs l : List Nat), xs.foldl (fun acc (x : Nat) => kput acc (Sum.inl (x : Int)) (.v p)) (dkN (.v p) l) = dkN (.v p) (xs.foldl insN l) := by
    intro xs
    induction xs with
    | nil => intro l; rfl
    | cons x xs ih =>
      intro l
      rw [List.foldl_cons, List.foldl_cons, kput_nat, ih]
  exact this xs []
theorem insN_fold : ∀ (xs l : List Nat), l.Nodup → (xs.foldl insN l).Nodup ∧ ∀ c, c ∈ xs.foldl insN l ↔ c ∈ l ∨ c ∈ xs
  | [], l, h => ⟨h, fun c => by simp⟩
  | x :: xs, l, h => by
    have hn : (insN l x).Nodup := by
      unfold insN
      split
      · exact h
      · rename_i hx
        unfold List.Nodup
        rw [List.pairwise_append]
        refine ⟨h, by simp, fun a ha b hb => ?_⟩
        rw [List.mem_singleton] at hb
        subst hb
        exact fun e => hx (e ▸ ha)
    have hm : ∀ c, c ∈ insN l x ↔ c ∈ l ∨ c = x := fun c => by
      unfold insN
      split
      · rename_i hx
        exact ⟨.inl, fun e => e.elim id fun e => e ▸ hx⟩
      · simp
    obtain ⟨h1, h2⟩ := insN_fold xs (insN l x) hn
    refine ⟨h1, fun c => ?_⟩
    rw [List.foldl_cons, h2, hm, List.mem_cons, or_assoc]
/-! ### frames -/
abbrev edP (e : Nat × Nat) : PyData := .tuple [natP e.1, natP e.2]
abbrev frP (n : Nat) (E : Fo.Ed) : PyData := .tuple [natP n, .tuple (E.map edP)]
abbrev frD (n : Nat) (E : Fo.Ed) : D := .v (frP n E)
theorem frP_ne {n : Nat} {E : Fo.Ed} (hn : n < 10 ^ 12) (he : ∀ e ∈ E, e.1 < 10 ^ 12 ∧ e.2 < 10 ^ 12) {m : Nat} (hm : E.length ≤ m) : Ne (frP n E) 3 (2 * (m * 83 + 40 + 1)) := by
  refine Ne.tup (k := 2) (w := m * 83 + 40) (fun x hx => ?_) (Nat.le_refl 2)
  rcases List.mem_cons.mp hx with rfl | hx
  · exact (natP_ne hn).up (by omega) (by omega)
  · rw [List.mem_singleton.mp hx]
    have : Ne (.tuple (E.map edP)) 2 (m * (82 + 1)) := by
      refine Ne.tup (k := 1) (w := 82) (fun y hy => ?_) (by simpa using hm)
      obtain ⟨e, he', rfl⟩ := List.mem_map.mp hy
      refine Ne.tup (k := 0) (w := 40) (m := 2) (fun z hz => ?_) (Nat.le_refl 2)
      rcases List.mem_cons.mp hz with rfl | hz
      · exact natP_ne (he e he').1
      · rw [List.mem_singleton.mp hz]
        exact natP_ne (he e he').2
    exact this.up (Nat.le_refl _) (by omega)
/-! ### the store's lists -/
section
variable {st : Sto} {G : D → Prop}
theorem rv_ref {n : Nat} {xs : List PyData} (hx : st[n]? = some (.lst (xs.map D.v))) (hs : xs.length ≤ 16777216) (h : G (.v (.list xs.reverse))) : Ok (reversed st (.ref n)) G := by
  refine ⟨_, ?_, h⟩
  unfold reversed
  simp only [seqOf, hx, ← List.map_reverse]
  exact mkLst_mapV (by simpa using hs)
theorem kp_at (st : Sto) (o : Vi.O) : (st ++ [o])[st.length]? = some o := List.getElem?_concat_length
theorem kp_set (st : Sto) (o o' : Vi.O) : (st ++ [o]).set st.length o' = st ++ [o'] := by
  rw [List.set_append_right _ _ (Nat.le_refl _), Nat.sub_self, List.set_cons_zero]
theorem lv_cut {st st' : Sto} {p : PyData} {Q : D → Sto → Prop} (hb : st.all (belowO st.length) = true) (r : Sto) (e : st' = st ++ r) (q : Q (.v p) st) : Ok2 (leave false st.length (.v p) st') Q := by
  subst e
  refine .of (leave_v (by rw [List.take_left]; exact hb)) ?_
  by_cases h : (st ++ r).length ≤ st.length
  · rw [if_pos h]
    have : r = [] := by
      rw [List.length_append] at h
      exact List.length_eq_zero_iff.mp (by omega)
    rw [this, List.append_nil]
    exact q
  · rw [if_neg h, List.take_left]
    exact q
end
end Vi
set_option Elab.async false
set_option linter.all false
set_option maxRecDepth 100000
set_option maxHeartbeats 400000
set_option autoImplicit false
/-! Wk: more rules: lists of the store in comprehensions, tuples of them, numbers' lists. -/
namespace Vi
open PySem L2
section
variable {C : Cfg} {env env' : En} {st : Sto} {Q : D → Sto → Prop} {G : D → Prop} {F : Flow → En → Sto → Prop} {B : Bool → Prop}
theorem compV_map {ι : Type} {turn : D → Sto → R (Option D × Sto)} {e : ι → D} {g : ι → PyData} {n : Nat} {xs : List ι} (hst : st[n]? = some (.lst (xs.map e))) (hl : xs.length ≤ 16777216) (ht : ∀ x ∈ xs, turn (e x) st = .ok (some (.v (g x)), st)) (k : Nat) :
    ∀ (i : Nat), xs.length < i + k → i ≤ xs.length → compV turn n k i st ((xs.take i).map g) = .ok (.v (.list (xs.map g)), st) := by
  induction k with
  | zero => intro i hk hi; omega
  | succ k ih =>
    intro i hk hi
    unfold compV
    simp only [hst]
    by_cases hx : i < xs.length
    · rw [List.getElem?_map, List.getElem?_eq_getElem hx]
      simp only [Option.map_some]
      rw [ht _ (List.getElem_mem hx)]
      have : ((xs.take i).map g).length < sizeLine := by
        show _ < 16777216
        simp
        omega
      simp only [R.bind_ok, this, if_true]
      have e2 : (xs.take i).map g ++ [g xs[i]] = (xs.take (i + 1)).map g := by
        rw [List.take_succ_eq_append_getElem hx, List.map_append]
        rfl
      rw [e2]
      exact ih (i + 1) (by omega) (by omega)
    · rw [List.getElem?_eq_none (by simpa using hx)]
      have : xs.take i = xs := List.take_of_length_le (by omega)
      rw [this]
theorem cv_map {ι : Type} {turn : D → Sto → R (Option D × Sto)} {e : ι → D} {g : ι → PyData} {n : Nat} {xs : List ι} (hst : st[n]? = some (.lst (xs.map e))) (hl : xs.length < C.lim) (hl2 : xs.length ≤ 16777216) (ht : ∀ x ∈ xs, Ok2 (turn (e x) st) fun o st' => o = some (.v (g x)) ∧ st' = st)
    (h : Q (.v (.list (xs.map g))) st) : Ok2 (compOf C turn (.live n) st) Q := by
  refine .of ?_ h
  exact compV_map hst hl2 (fun x hx => (ht x hx).eq) C.lim 0 (by omega) (by omega)
theorem bl_tupR {n : Nat} {xs : List PyData} (hx : st[n]? = some (.lst (xs.map D.v))) (hs : xs.length ≤ 16777216) (h : G (.v (.tuple xs))) : Ok (blt st .tuple [.ref n]) G := by
  refine ⟨_, ?_, h⟩
  simp [blt, seqOf, hx, mkTup_map hs]
theorem nat_tup {N : List Nat} : (N.map natP).map D.v = N.map natD := by rw [List.map_map]; rfl
theorem row_tup {l : List (List Nat)} : (l.map rowT).map D.v = l.map rowTD := by rw [List.map_map]; rfl
theorem merge2 (x y : Nat) : ([x, y].mergeSort fun a b => decide (a ≤ b)) = [min x y, max x y] := by
  refine List.Perm.eq_of_pairwise (le := fun a b => decide (a ≤ b) = true) (fun a b _ _ h1 h2 => ?_) (List.pairwise_mergeSort (fun a b c h1 h2 => ?_) (fun a b => ?_) _) ?_ ((List.mergeSort_perm _ _).trans ?_)
  · have := of_decide_eq_true h1; have := of_decide_eq_true h2; omega
  · have := of_decide_eq_true h1; have := of_decide_eq_true h2; exact decide_eq_true (by omega)
  · rw [Bool.or_eq_true, decide_eq_true_eq, decide_eq_true_eq]; omega
  · simp; omega
  · rcases Nat.le_total x y with h | h
    · rw [Nat.min_eq_left h, Nat.max_eq_right h]
    · rw [Nat.min_eq_right h, Nat.max_eq_left h]
      exact List.Perm.swap _ _ _
theorem ne_nilR {n : Nat} {xs : List Nat} (hx : st[n]? = some (.lst (xs.map natD))) (h : B (!decide (xs = []))) : Ok (cmpop st .NotEq (.ref n) (.v (.list []))) B := by
  refine ⟨_, ?_, h⟩
  have hp : toP st (.ref n) = some (.list (xs.map natP)) := by
    simp only [toP, hx]
    rw [← nat_tup, plains_map]
    rfl
  have e : sPair (.ref n) (.v (.list [])) = none := rfl
  have s2 : SeqAt.shaped (.list []) = true := by rfl
  have hq : toP st (.v (.list [])) = some (.list []) := rfl
  simp only [cmpop, e, cmpop0, hp, hq, eqOk, (nats_shaped xs).2, s2, Bool.and_self, if_true]
  cases xs <;> simp [PyData.eqv, PyData.eqvAll]
end
end Vi
set_option Elab.async false
set_option linter.all false
set_option maxRecDepth 100000
set_option autoImplicit false
/-! Ya: turnings, ways, lots that tell that there is none. -/
namespace Tu
open Fo
def tailE (e : Nat × Nat) (t : Nat) : Nat := if t = 0 then e.1 else e.2
def headE (e : Nat × Nat) (t : Nat) : Nat := if t = 0 then e.2 else e.1
def tl (E : Ed) (T : List Nat) (i : Nat) : Nat := tailE (E.getD i (0, 0)) (T.getD i 0)
def hd (E : Ed) (T : List Nat) (i : Nat) : Nat := headE (E.getD i (0, 0)) (T.getD i 0)
/-- how many roads go out -/
abbrev oc (E : Ed) (T : List Nat) : Fr := row 1 id E T
abbrev Tn (E : Ed) (T : List Nat) : Prop := Val 1 E T
def ol (n : Nat) (E : Ed) (T : List Nat) : List Int := (List.range n).map (oc E T)
theorem ol_length (n : Nat) (E : Ed) (T : List Nat) : (ol n E T).length = n := by simp [ol]
theorem ol_get {n : Nat} {E : Ed} {T : List Nat} {c : Nat} (h : c < n) : (ol n E T).getD c 0 = oc E T c := by simp [ol, h]
theorem oc_cons {a b : Nat} {E : Ed} {t : Nat} {T : List Nat} (ht : t ≤ 1) (v : Nat) : oc ((a, b) :: E) (t :: T) v = oc E T v + one (tailE (a, b) t) v := by
  show row 1 id E T v + (if v = a then ((1 : Nat) : Int) - t else 0) + (if v = b then (t : Int) else 0) = _
  unfold tailE one
  rcases (by omega : t = 0 ∨ t = 1) with rfl | rfl
  · simp
  · simp
/-- one road turned -/
theorem oc_set : ∀ {E : Ed} {T : List Nat} {i : Nat}, Tn E T → i < E.length → ∀ v, oc E (T.set i (1 - T.getD i 0)) v = oc E T v - one (tl E T i) v + one (hd E T i) v
  | [], T, i, _, hi => by simp at hi
  | (a, b) :: E, [], i, h, _ => by have := h.len; simp at this
  | (a, b) :: E, t :: T, 0, h, _ => by
    intro v
    obtain ⟨h1, ht⟩ := h.tail
    have e : (t :: T).set 0 (1 - (t :: T).getD 0 0) = (1 - t) :: T := rfl
    rw [e, oc_cons (by omega), oc_cons ht]
    have e2 : tl ((a, b) :: E) (t :: T) 0 = tailE (a, b) t := rfl
    have e3 : hd ((a, b) :: E) (t :: T) 0 = headE (a, b) t := rfl
    rw [e2, e3]
    have e4 : tailE (a, b) (1 - t) = headE (a, b) t := by
      unfold tailE headE
      rcases (by omega : t = 0 ∨ t = 1) with rfl | rfl <;> simp
    rw [e4]
    omega
  | (a, b) :: E, t :: T, i + 1, h, hi => by
    intro v
    obtain ⟨h1, ht⟩ := h.tail
    have e : (t :: T).set (i + 1) (1 - (t :: T).getD (i + 1) 0) = t :: T.set i (1 - T.getD i 0) := rfl
    have e2 : tl ((a, b) :: E) (t :: T) (i + 1) = tl E T i := rfl
    have e3 : hd ((a, b) :: E) (t :: T) (i + 1) = hd E T i := rfl
    rw [e, oc_cons ht, oc_cons ht, oc_set h1 (by simpa using hi) v, e2, e3]
    omega
theorem Tn.set {E : Ed} {T : List Nat} {i x : Nat} (h : Tn E T) (hx : x ≤ 1) : Tn E (T.set i x) := by
  refine ⟨by rw [List.length_set]; exact h.len, fun k hk => ?_⟩
  rcases List.mem_or_eq_of_mem_set hk with h1 | h1
  · exact h.le k h1
  · omega
def flip (T p : List Nat) : List Nat := T.mapIdx fun i t => if i ∈ p then 1 - t else t
theorem flip_length (T p : List Nat) : (flip T p).length = T.length := by simp [flip]
theorem flip_get (T p : List Nat) (i : Nat) : (flip T p).getD i 0 = if i < T.length then (if i ∈ p then 1 - T.getD i 0 else T.getD i 0) else 0 := by
  by_cases h : i < T.length
  · simp [flip, h]
  · simp [flip, h]
theorem flip_nil (T : List Nat) : flip T [] = T := by
  refine List.ext_getElem (by simp [flip]) fun i h1 h2 => ?_
  simp [flip]
theorem flip_snoc {T p : List Nat} {i : Nat} (hi : i < T.length) (hp : i ∉ p) : flip T (p ++ [i]) = (flip T p).set i (1 - (flip T p).getD i 0) := by
  have hg : (flip T p).getD i 0 = T.getD i 0 := by rw [flip_get, if_pos hi, if_neg hp]
  rw [hg]
  refine List.ext_getElem (by simp [flip]) fun j h1 h2 => ?_
  rw [List.getElem_set]
  simp only [flip, List.getElem_mapIdx, List.mem_append, List.mem_singleton]
  by_cases h : i = j
  · subst h
    simp [hi]
  · have h' : ¬ j = i := fun e => h e.symm
    simp [h, h']
theorem Tn.flip {E : Ed} {T p : List Nat} (h : Tn E T) : Tn E (flip T p) := by
  refine ⟨by rw [flip_length]; exact h.len, fun k hk => ?_⟩
  obtain ⟨j, hj, rfl⟩ := List.getElem_of_mem hk
  simp only [Tu.flip, List.getElem_mapIdx]
  have := h.le _ (List.getElem_mem (by simpa [Tu.flip] using hj : j < T.length))
  split <;> omega
/-- a way of led roads, none twice -/
inductive Pth (E : Ed) (T : List Nat) (s : Nat) : List Nat → Nat → Prop
  | nil : Pth E T s [] s
  | snoc {p : List Nat} {u i : Nat} : Pth E T s p u → i < E.length → tl E T i = u → i ∉ p → Pth E T s (p ++ [i]) (hd E T i)
theorem Pth.lt {E : Ed} {T : List Nat} {s v : Nat} {p : List Nat} (h : Pth E T s p v) : ∀ i ∈ p, i < E.length := by
  induction h with
  | nil => intro i hi; cases hi
  | snoc _ h1 _ _ ih =>
    intro i hi
    rw [List.mem_append, List.mem_singleton] at hi
    rcases hi with hi | rfl
    · exact ih i hi
    · exact h1
theorem Pth.flip {E : Ed} {T : List Nat} {s v : Nat} {p : List Nat} (hT : Tn E T) (h : Pth E T s p v) : ∀ w, oc E (flip T p) w = oc E T w - one s w + one v w := by
  induction h with
  | nil => intro w; rw [flip_nil]; omega
  | @snoc p u i h h1 h2 h3 ih =>
    intro w
    have hl : i < T.length := by rw [hT.len]; exact h1
    rw [flip_snoc hl h3, oc_set hT.flip h1 w, ih w]
    have e : (Tu.flip T p).getD i 0 = T.getD i 0 := by rw [flip_get, if_pos hl, if_neg h3]
    have e1 : tl E (Tu.flip T p) i = tl E T i := by unfold tl; rw [e]
    have e2 : hd E (Tu.flip T p) i = hd E T i := by unfold hd; rw [e]
    rw [e1, e2, h2]
    omega
/-! ### counting over lots -/
def inE (R : List Nat) (e : Nat × Nat) : Bool := decide (e.1 ∈ R) && decide (e.2 ∈ R)
def within (E : Ed) (R : List Nat) : Nat := (E.filter (inE R)).length
def sumAt (r : Fr) (R : List Nat) : Int := (R.map r).sum
theorem sum_add (f g : Fr) (R : List Nat) : (R.map fun v => f v + g v).sum = (R.map f).sum + (R.map g).sum := by
  induction R with
  | nil => rfl
  | cons a R ih => simp only [List.map_cons, List.sum_cons, ih]; omega
theorem sum_one {R : List Nat} (nd : R.Nodup) (v : Nat) : (R.map (one v)).sum = if v ∈ R then 1 else 0 := by
  induction R with
  | nil => rfl
  | cons a R ih =>
    rw [List.nodup_cons] at nd
    rw [List.map_cons, List.sum_cons, ih nd.2]
    unfold one
    by_cases h : a = v
    · subst h; simp [nd.1]
    · have h' : ¬ v = a := fun e => h e.symm
      simp [h, h']
theorem sumAt_le : ∀ {E : Ed} {T R : List Nat}, R.Nodup → Tn E T → (within E R : Int) ≤ sumAt (oc E T) R
  | [], T, R, nd, _ => by
    unfold sumAt within
    have : (R.map (oc [] T)).sum = 0 := by
      induction R with
      | nil => rfl
      | cons a R ih => rw [List.map_cons, List.sum_cons, ih (List.nodup_cons.mp nd).2]; rfl
    rw [this]
    exact Int.le_refl 0
  | (a, b) :: E, [], R, nd, h => by have := h.len; simp at this
  | (a, b) :: E, t :: T, R, nd, h => by
    obtain ⟨h1, ht⟩ := h.tail
    have ih := sumAt_le (R := R) nd h1
    have e : sumAt (oc ((a, b) :: E) (t :: T)) R = sumAt (oc E T) R + if tailE (a, b) t ∈ R then 1 else 0 := by
      unfold sumAt
      rw [← sum_one nd, ← sum_add]
      congr 1
      refine List.map_congr_left fun v _ => oc_cons ht v
    rw [e]
    have hw : within ((a, b) :: E) R = within E R + if inE R (a, b) then 1 else 0 := by
      unfold within
      rw [List.filter_cons]
      split <;> simp
    rw [hw]
    have : inE R (a, b) = true → tailE (a, b) t ∈ R := by
      intro h
      simp only [inE, Bool.and_eq_true, decide_eq_true_eq] at h
      unfold tailE
      split
      · exact h.1
      · exact h.2
    by_cases q : inE R (a, b) = true
    · rw [if_pos q, if_pos (this q)]; omega
    · rw [if_neg q]; split <;> omega
/-- a lot that no road leaves -/
def Clo (E : Ed) (T R : List Nat) : Prop := ∀ i, i < E.length → tl E T i ∈ R → hd E T i ∈ R
theorem sumAt_clo : ∀ {E : Ed} {T R : List Nat}, R.Nodup → Tn E T → Clo E T R → sumAt (oc E T) R = within E R
  | [], T, R, nd, _, _ => by
    unfold sumAt within
    have : ∀ R : List Nat, (R.map (oc [] T)).sum = 0 := by
      intro R
      induction R with
      | nil => rfl
      | cons a R ih => rw [List.map_cons, List.sum_cons, ih]; rfl
    rw [this]
    rfl
  | (a, b) :: E, [], R, nd, h, _ => by have := h.len; simp at this
  | (a, b) :: E, t :: T, R, nd, h, hc => by
    obtain ⟨h1, ht⟩ := h.tail
    have ih := sumAt_clo (R := R) nd h1 (fun i hi hm => hc (i + 1) (by simpa using hi) hm)
    have h0 := hc 0 (by simp)
    have e : sumAt (oc ((a, b) :: E) (t :: T)) R = sumAt (oc E T) R + if tailE (a, b) t ∈ R then 1 else 0 := by
      unfold sumAt
      rw [← sum_one nd, ← sum_add]
      congr 1
      refine List.map_congr_left fun v _ => oc_cons ht v
    rw [e, ih]
    have hw : within ((a, b) :: E) R = within E R + if inE R (a, b) then 1 else 0 := by
      unfold within
      rw [List.filter_cons]
      split <;> simp
    rw [hw]
    have e2 : tl ((a, b) :: E) (t :: T) 0 = tailE (a, b) t := rfl
    have e3 : hd ((a, b) :: E) (t :: T) 0 = headE (a, b) t := rfl
    rw [e2, e3] at h0
    have : inE R (a, b) = true ↔ tailE (a, b) t ∈ R := by
      simp only [inE, Bool.and_eq_true, decide_eq_true_eq]
      unfold tailE headE at h0
      unfold tailE
      by_cases q : t = 0
      · simp only [q, if_true] at h0 ⊢
        exact ⟨fun h => h.1, fun h => ⟨h, h0 h⟩⟩
      · simp only [q, if_false] at h0 ⊢
        exact ⟨fun h => h.2, fun h => ⟨h0 h, h⟩⟩
    by_cases q : inE R (a, b) = true
    · rw [if_pos q, if_pos (this.mp q)]; omega
    · rw [if_neg q, if_neg (fun h => q (this.mpr h))]; omega
/-! ### told rows -/
/-- a row of whole numbers as a function -/
def zf (r : List Int) : Fr := fun v => r.getD v 0
def Real (n : Nat) (E : Ed) (r : List Int) : Prop := ∃ T, Tn E T ∧ r = ol n E T
theorem no_real {n : Nat} {E : Ed} {r : List Int} {R : List Nat} (nd : R.Nodup) (hR : ∀ v ∈ R, v < n) (h : sumAt (zf r) R < within E R) : ¬ Real n E r := by
  rintro ⟨T, hT, rfl⟩
  have := sumAt_le nd hT
  have e : sumAt (zf (ol n E T)) R = sumAt (oc E T) R := by
    unfold sumAt
    congr 1
    refine List.map_congr_left fun v hv => ol_get (hR v hv)
  rw [e] at h
  omega
/-- what outs have too much -/
def exc (n : Nat) (o r : Fr) : Nat := ((List.range n).map fun c => (o c - r c).toNat).sum
theorem exc_lt {n : Nat} {o o' r : Fr} {s v : Nat} (hs : s < n) (hos : r s < o s) (hov : o v < r v) (h : ∀ w, o' w = o w - one s w + one v w) : exc n o' r < exc n o r := by
  unfold exc
  have hsv : s ≠ v := fun e => by subst e; omega
  have key : ∀ l : List Nat, l.Nodup → (l.map fun c => (o' c - r c).toNat).sum + (if s ∈ l then 1 else 0) ≤ (l.map fun c => (o c - r c).toNat).sum := by
    intro l
    induction l with
    | nil => intro _; simp
    | cons a l ih =>
      intro nd
      rw [List.nodup_cons] at nd
      have := ih nd.2
      rw [List.map_cons, List.map_cons, List.sum_cons, List.sum_cons]
      have ha := h a
      unfold one at ha
      by_cases e1 : a = s
      · subst e1
        have : ¬ a ∈ l := nd.1
        have e3 : ¬ a = v := hsv
        simp only [List.mem_cons, true_or, if_true]
        simp only [if_neg this] at *
        simp only [if_true, if_neg e3] at ha
        omega
      · have e2 : (s ∈ a :: l) ↔ s ∈ l := by simp [Ne.symm e1]
        simp only [e2]
        rw [if_neg e1] at ha
        by_cases e3 : a = v
        · subst e3
          simp only [if_true] at ha
          omega
        · rw [if_neg e3] at ha
          omega
  have := key (List.range n) List.nodup_range
  rw [if_pos (List.mem_range.mpr hs)] at this
  omega
theorem sum_oc : ∀ {E : Ed} {T : List Nat} {n : Nat}, Tn E T → (∀ e ∈ E, e.1 < n ∧ e.2 < n) → ((List.range n).map (oc E T)).sum = E.length
  | [], T, n, _, _ => by
    have : ∀ l : List Nat, (l.map (oc [] T)).sum = 0 := by
      intro l
      induction l with
      | nil => rfl
      | cons a R ih => rw [List.map_cons, List.sum_cons, ih]; rfl
    rw [this]; rfl
  | (a, b) :: E, [], n, h, _ => by have := h.len; simp at this
  | (a, b) :: E, t :: T, n, h, he => by
    obtain ⟨h1, ht⟩ := h.tail
    have ih := sum_oc (n := n) h1 (fun e hm => he e (by simp [hm]))
    have e : ((List.range n).map (oc ((a, b) :: E) (t :: T))).sum = ((List.range n).map (oc E T)).sum + ((List.range n).map (one (tailE (a, b) t))).sum := by
      rw [← sum_add]
      congr 1
      refine List.map_congr_left fun v _ => oc_cons ht v
    have hv : tailE (a, b) t < n := by
      obtain ⟨k1, k2⟩ := he (a, b) (by simp)
      unfold tailE
      split
      · exact k1
      · exact k2
    rw [e, ih, sum_one List.nodup_range, if_pos (List.mem_range.mpr hv), List.length_cons]
    omega
theorem eq_of_le {n : Nat} {f g : Fr} (h : ∀ c, c < n → f c ≤ g c) (hs : ((List.range n).map f).sum = ((List.range n).map g).sum) : ∀ c, c < n → f c = g c := by
  have key : ∀ l : List Nat, (∀ c ∈ l, f c ≤ g c) → (l.map f).sum ≤ (l.map g).sum ∧ ((l.map f).sum = (l.map g).sum → ∀ c ∈ l, f c = g c) := by
    intro l
    induction l with
    | nil => intro _; exact ⟨Int.le_refl _, fun _ c hc => by cases hc⟩
    | cons a l ih =>
      intro h
      obtain ⟨i1, i2⟩ := ih fun c hc => h c (by simp [hc])
      have ha := h a (by simp)
      rw [List.map_cons, List.map_cons, List.sum_cons, List.sum_cons]
      refine ⟨by omega, fun e c hc => ?_⟩
      rcases List.mem_cons.mp hc with rfl | hc
      · omega
      · exact i2 (by omega) c hc
  intro c hc
  exact (key (List.range n) fun c hc => h c (List.mem_range.mp hc)).2 hs c (List.mem_range.mpr hc)
/-! ### rows as lists -/
def toZ (r : List Nat) : List Int := r.map fun (i : Nat) => (i : Int)
theorem toZ_inj : ∀ {a b : List Nat}, toZ a = toZ b → a = b
  | [], [], _ => rfl
  | [], b :: _, h => by simp [toZ] at h
  | a :: _, [], h => by simp [toZ] at h
  | a :: as, b :: bs, h => by
    simp only [toZ, List.map_cons, List.cons.injEq] at h
    have := toZ_inj (a := as) (b := bs) h.2
    subst this
    have : a = b := by omega
    rw [this]
theorem mem_rows1 {n : Nat} {E : Ed} (he : InF n E) {r : List Nat} : r ∈ rows 1 [zer n] E ↔ Real n E (toZ r) := by
  obtain ⟨hl, hE⟩ := rows_enum (q := 1) he
  have getz : ∀ r : List Nat, ∀ c, (toZ r).getD c 0 = fn r c := by
    intro r c
    unfold toZ fn
    simp only [List.getD_eq_getElem?_getD, List.getElem?_map]
    cases r[c]? <;> rfl
  constructor
  · intro h
    obtain ⟨ks, hv, e⟩ := (hE.2 (fn r)).mp (List.mem_map.mpr ⟨r, h, rfl⟩)
    refine ⟨ks, hv, List.ext_getElem (by simp [toZ, ol, hl r h]) fun i h1 h2 => ?_⟩
    have e1 : (toZ r)[i] = (toZ r).getD i 0 := by simp [h1]
    have e2 : (ol n E ks)[i] = oc E ks i := by simp [ol]
    rw [e1, e2, getz, e]
  · rintro ⟨T, hT, e⟩
    have hlen : r.length = n := by
      have := congrArg List.length e
      simpa [toZ, ol] using this
    have hin : In 1 E id (oc E T) := ⟨T, hT, rfl⟩
    obtain ⟨s, hs, es⟩ := List.mem_map.mp ((hE.2 (oc E T)).mpr hin)
    have : s = r := by
      have hsl := hl s hs
      refine List.ext_getElem (by rw [hsl, hlen]) fun i h1 h2 => ?_
      have e1 : fn s i = fn r i := by
        rw [es, ← getz r i, e, ol_get (by omega)]
      unfold fn at e1
      simp only [List.getD_eq_getElem?_getD, List.getElem?_eq_getElem h1, List.getElem?_eq_getElem h2, Option.getD_some] at e1
      omega
    exact this ▸ hs
theorem real_nat {n : Nat} {E : Ed} {r : List Int} (h : Real n E r) : ∃ s : List Nat, r = toZ s := by
  obtain ⟨T, hT, rfl⟩ := h
  refine ⟨(ol n E T).map Int.toNat, ?_⟩
  refine List.ext_getElem (by simp [toZ]) fun i h1 h2 => ?_
  have e2 : (ol n E T)[i] = oc E T i := by simp [ol]
  have h0 : 0 ≤ oc E T i := row_nn hT i
  simp only [toZ, List.getElem_map, e2]
  omega
end Tu
set_option Elab.async false
set_option linter.all false
set_option maxRecDepth 100000
set_option autoImplicit false
/-! Yb: the crossings come to, lap by lap; told forests. -/
namespace Tu
open Fo
theorem oc_sum : ∀ {E : Ed} {T : List Nat}, Tn E T → ∀ c, oc E T c = ((List.range E.length).map fun i => one (tl E T i) c).sum
  | [], T, _, c => rfl
  | (a, b) :: E, [], h, _ => by have := h.len; simp at this
  | (a, b) :: E, t :: T, h, c => by
    obtain ⟨h1, ht⟩ := h.tail
    rw [oc_cons ht, oc_sum h1, List.length_cons, List.range_succ_eq_map, List.map_cons, List.sum_cons, List.map_map]
    have e2 : tl ((a, b) :: E) (t :: T) 0 = tailE (a, b) t := rfl
    rw [e2, Int.add_comm]
    congr 1
abbrev ks (l : List (Nat × List Nat)) : List Nat := l.map (·.1)
structure Ways (n : Nat) (E : Ed) (T : List Nat) (s : Nat) (l : List (Nat × List Nat)) : Prop where
  nd : (ks l).Nodup
  lt : ∀ c ∈ ks l, c < n
  st : s ∈ ks l
  pth : ∀ c p, (c, p) ∈ l → Pth E T s p c
  clo : Clo E T (ks l)
structure Wst (n : Nat) (E : Ed) (T : List Nat) (s : Nat) (l : List (Nat × List Nat)) (late here rs : List Nat) : Prop where
  nd : (ks l).Nodup
  lt : ∀ c ∈ ks l, c < n
  st : s ∈ ks l
  pth : ∀ c p, (c, p) ∈ l → Pth E T s p c
  hds : ∀ c p, (c, p) ∈ l → ∀ j ∈ p, hd E T j ∈ ks l
  lk : ∀ c ∈ late, c ∈ ks l
  hk : ∀ c ∈ here, c ∈ ks l
  pl : ∀ c p, (c, p) ∈ l → p.length + 1 ≤ l.length
  clo : ∀ i, i < E.length → tl E T i ∈ ks l → tl E T i ∉ late → (tl E T i ∈ here ∧ i ∈ rs) ∨ hd E T i ∈ ks l
section
variable {n : Nat} {E : Ed} {T : List Nat} {s : Nat} {l : List (Nat × List Nat)} {late here rs : List Nat}
theorem Wst.start (hs : s < n) : Wst n E T s [(s, [])] [s] [] [] where
  nd := by simp
  lt := by simpa using hs
  st := by simp
  pth := fun c p h => by
    have : (c, p) = (s, []) := by simpa using h
    cases this
    exact .nil
  hds := fun c p h j hj => by
    have : (c, p) = (s, []) := by simpa using h
    cases this
    cases hj
  lk := fun c h => h
  hk := fun c h => by cases h
  pl := fun c p h => by
    have : (c, p) = (s, []) := by simpa using h
    cases this
    simp
  clo := fun i _ h1 h2 => absurd h1 h2
theorem Wst.shift (h : Wst n E T s l late here []) : Wst n E T s l [] late (List.range E.length) where
  nd := h.nd
  lt := h.lt
  st := h.st
  pth := h.pth
  hds := h.hds
  lk := fun c h => by cases h
  hk := h.lk
  pl := h.pl
  clo := fun i hi h1 _ => by
    by_cases q : tl E T i ∈ late
    · exact .inl ⟨q, List.mem_range.mpr hi⟩
    · rcases h.clo i hi h1 q with ⟨_, h2⟩ | h2
      · cases h2
      · exact .inr h2
theorem Wst.no {i : Nat} (h : Wst n E T s l late here (i :: rs)) (hn : tl E T i ∉ here ∨ hd E T i ∈ ks l) : Wst n E T s l late here rs where
  nd := h.nd
  lt := h.lt
  st := h.st
  pth := h.pth
  hds := h.hds
  lk := h.lk
  hk := h.hk
  pl := h.pl
  clo := fun j hj h1 h2 => by
    rcases h.clo j hj h1 h2 with ⟨k1, k2⟩ | k
    · rcases List.mem_cons.mp k2 with rfl | k2
      · rcases hn with hn | hn
        · exact absurd k1 hn
        · exact .inr hn
      · exact .inl ⟨k1, k2⟩
    · exact .inr k
theorem Wst.yes {i : Nat} {p : List Nat} (h : Wst n E T s l late here (i :: rs)) (hi : i < E.length) (hv : hd E T i < n) (hn : hd E T i ∉ ks l) (hp : (tl E T i, p) ∈ l) : Wst n E T s (l ++ [(hd E T i, p ++ [i])]) (late ++ [hd E T i]) here rs := by
  have sub : ∀ c, c ∈ ks l → c ∈ ks (l ++ [(hd E T i, p ++ [i])]) := fun c hc => by rw [ks, List.map_append]; exact List.mem_append_left _ hc
  have mem : ∀ c, c ∈ ks (l ++ [(hd E T i, p ++ [i])]) ↔ c ∈ ks l ∨ c = hd E T i := fun c => by simp [ks]
  have hip : i ∉ p := fun hm => hn (h.hds _ _ hp i hm)
  refine ⟨?_, fun c hc => ?_, sub _ h.st, fun c q hc => ?_, fun c q hc j hj => ?_, fun c hc => ?_, fun c hc => sub c (h.hk c hc), fun c q hc => ?_, fun j hj h1 h2 => ?_⟩
  · rw [ks, List.map_append, List.nodup_append]
    refine ⟨h.nd, by simp, fun a ha b hb e => ?_⟩
    have : b = hd E T i := by simpa using hb
    exact hn (this ▸ e ▸ ha)
  · rcases (mem c).mp hc with hc | rfl
    · exact h.lt c hc
    · exact hv
  · rcases List.mem_append.mp hc with hc | hc
    · exact h.pth c q hc
    · have : (c, q) = (hd E T i, p ++ [i]) := by simpa using hc
      cases this
      exact .snoc (h.pth _ _ hp) hi rfl hip
  · rcases List.mem_append.mp hc with hc | hc
    · exact sub _ (h.hds c q hc j hj)
    · have : (c, q) = (hd E T i, p ++ [i]) := by simpa using hc
      cases this
      rcases List.mem_append.mp hj with hj | hj
      · exact sub _ (h.hds _ _ hp j hj)
      · have : j = i := by simpa using hj
        subst this
        exact (mem _).mpr (.inr rfl)
  · rcases List.mem_append.mp hc with hc | hc
    · exact sub c (h.lk c hc)
    · have : c = hd E T i := by simpa using hc
      exact (mem c).mpr (.inr this)
  · rw [List.length_append]
    rcases List.mem_append.mp hc with hc | hc
    · have := h.pl c q hc
      simp
      omega
    · have : (c, q) = (hd E T i, p ++ [i]) := by simpa using hc
      cases this
      have := h.pl _ _ hp
      simp
      omega
  · have h3 : tl E T j ∉ late := fun q => h2 (List.mem_append_left _ q)
    have h4 : tl E T j ∈ ks l := by
      rcases (mem _).mp h1 with h1 | h1
      · exact h1
      · exact absurd (List.mem_append_right _ (by simp [h1])) h2
    rcases h.clo j hj h4 h3 with ⟨k1, k2⟩ | k
    · rcases List.mem_cons.mp k2 with rfl | k2
      · exact .inr ((mem _).mpr (.inr rfl))
      · exact .inl ⟨k1, k2⟩
    · exact .inr (sub _ k)
theorem Wst.fin (h : Wst n E T s l [] here []) : Ways n E T s l where
  nd := h.nd
  lt := h.lt
  st := h.st
  pth := h.pth
  clo := fun i hi h1 => by
    rcases h.clo i hi h1 (by simp) with ⟨_, k⟩ | k
    · cases k
    · exact k
theorem nodup_few : ∀ {l : List Nat} {n : Nat}, l.Nodup → (∀ c ∈ l, c < n) → l.length ≤ n := by
  intro l n nd h
  have := nodup_le nd (fun c hc => List.mem_range.mpr (h c hc))
  simpa using this
theorem Wst.few (h : Wst n E T s l late here rs) : l.length ≤ n := by
  have := nodup_few h.nd h.lt
  simpa [ks] using this
theorem Ways.few (h : Ways n E T s l) : l.length ≤ n := by
  have := nodup_few h.nd h.lt
  simpa [ks] using this
end
/-- what is below nought -/
def nb (r : List Int) : Nat := (r.map fun x => (-x).toNat).sum
theorem nb_range {r : List Int} : nb r = ((List.range r.length).map fun c => (-(zf r c)).toNat).sum := by
  unfold nb
  congr 1
  refine List.ext_getElem (by simp) fun i h1 h2 => ?_
  have h3 : i < r.length := by simpa using h1
  simp [zf, h3]
theorem exc_le {n : Nat} {E : Ed} {T : List Nat} {r : List Int} (hT : Tn E T) (he : InF n E) (hr : r.length = n) : exc n (oc E T) (zf r) ≤ E.length + nb r := by
  have h1 := sum_oc hT he
  have key : ∀ l : List Nat, (l.map fun c => (oc E T c - zf r c).toNat).sum ≤ ((l.map (oc E T)).sum).toNat + (l.map fun c => (-(zf r c)).toNat).sum ∧ 0 ≤ (l.map (oc E T)).sum := by
    intro l
    induction l with
    | nil => simp
    | cons a l ih =>
      obtain ⟨i1, i2⟩ := ih
      have h0 : 0 ≤ oc E T a := row_nn hT a
      simp only [List.map_cons, List.sum_cons]
      omega
  have := (key (List.range n)).1
  rw [h1] at this
  rw [nb_range, hr]
  unfold exc
  omega
theorem nb_toZ (r : List Nat) : nb (toZ r) = 0 := by
  unfold nb toZ
  rw [List.map_map]
  induction r with
  | nil => rfl
  | cons a r ih =>
    rw [List.map_cons, List.sum_cons, ih]
    show (-(a : Int)).toNat + 0 = 0
    omega
/-- a number added at a place -/
def putZ (r : List Int) (c : Nat) (k : Int) : List Int := r.modify c (· + k)
theorem putZ_length (r : List Int) (c : Nat) (k : Int) : (putZ r c k).length = r.length := by simp [putZ]
theorem putZ_get {r : List Int} {c : Nat} {k : Int} (i : Nat) (h : i < r.length) : (putZ r c k)[i]'(by rw [putZ_length]; exact h) = r[i] + if i = c then k else 0 := by
  simp only [putZ, List.getElem_modify]
  by_cases q : c = i
  · subst q; simp
  · have : ¬ i = c := fun e => q e.symm
    simp [q, this]
theorem nb_append (a b : List Int) : nb (a ++ b) = nb a + nb b := by simp [nb]
theorem nb_put {r : List Int} {c : Nat} {k : Int} (hc : c < r.length) : nb (putZ r c k) + (-r[c]).toNat = nb r + (-(r[c] + k)).toNat := by
  have e : putZ r c k = r.take c ++ (r[c] + k) :: r.drop (c + 1) := by
    unfold putZ
    rw [List.modify_eq_take_cons_drop hc]
  have e2 : r = r.take c ++ r[c] :: r.drop (c + 1) := by rw [List.getElem_cons_drop hc, List.take_append_drop]
  have h2 : nb r = nb (r.take c) + ((-r[c]).toNat + nb (r.drop (c + 1))) := by
    conv => lhs; rw [e2]
    rw [nb_append]
    rfl
  rw [e, nb_append, h2]
  show nb (r.take c) + ((-(r[c] + k)).toNat + nb (r.drop (c + 1))) + _ = _
  omega
/-! ### told forests -/
def nm (high low c : Nat) : Nat := if c < high then c else if c = high then low else c - 1
def shutE (E : Ed) (low high : Nat) : Ed := E.map fun e => (nm high low e.1, nm high low e.2)
/-- outs with a road shut -/
def shutO (o : List Int) (low high : Nat) : List Int :=
  let f := putZ o low (o.getD high 0 - 1)
  f.take high ++ f.drop (high + 1)
theorem nm_lt {n low high c : Nat} (h1 : low < high) (h2 : high < n) (hc : c < n) : nm high low c < n - 1 := by
  unfold nm
  split
  · omega
  · split <;> omega
theorem shut_in {n low high : Nat} {E : Ed} (h1 : low < high) (h2 : high < n) (he : InF n E) : InF (n - 1) (shutE E low high) := by
  intro e hm
  obtain ⟨d, hd, rfl⟩ := List.mem_map.mp hm
  obtain ⟨k1, k2⟩ := he d hd
  exact ⟨nm_lt h1 h2 k1, nm_lt h1 h2 k2⟩
theorem shutO_length {o : List Int} {low high : Nat} (h : high < o.length) : (shutO o low high).length = o.length - 1 := by
  simp only [shutO, List.length_append, List.length_take, List.length_drop, putZ_length]
  omega
theorem nb_shut {o : List Int} {low high : Nat} (h1 : low < high) (h2 : high < o.length) : nb (shutO o low high) ≤ nb o + 1 := by
  have hl : low < o.length := by omega
  have e1 := nb_put (k := o.getD high 0 - 1) hl
  have e3 : o.getD high 0 = o[high] := by simp [h2]
  rw [e3] at e1
  have hf : high < (putZ o low (o[high] - 1)).length := by rw [putZ_length]; exact h2
  have e2 : putZ o low (o[high] - 1) = (putZ o low (o[high] - 1)).take high ++ (putZ o low (o[high] - 1))[high] :: (putZ o low (o[high] - 1)).drop (high + 1) := by rw [List.getElem_cons_drop hf, List.take_append_drop]
  have e4 : (putZ o low (o[high] - 1))[high] = o[high] := by
    rw [putZ_get high h2, if_neg (by omega)]
    omega
  have e5 : nb (putZ o low (o[high] - 1)) = nb (shutO o low high) + (-o[high]).toNat := by
    conv => lhs; rw [e2]
    unfold shutO
    simp only [e3, nb_append]
    show nb _ + ((-(putZ o low (o[high] - 1))[high]).toNat + nb _) = _
    rw [e4]
    omega
  omega
open Classical in
/-- the told forest: the last road first -/
noncomputable def tf : Nat → Nat → Ed → List Int → List Nat → List Nat
  | 0, _, _, _, acc => acc
  | m + 1, n, E, o, acc =>
    let e := E.getD m (0, 0)
    let E' := E.take m
    if e.1 = e.2 ∨ Real n E' (putZ o e.1 (-1)) then tf m n E' (putZ o e.1 (-1)) acc
    else tf m (n - 1) (shutE E' (min e.1 e.2) (max e.1 e.2)) (shutO o (min e.1 e.2) (max e.1 e.2)) (m :: acc)
theorem tf_small : ∀ (m n : Nat) (E : Ed) (o : List Int) (acc : List Nat), (∀ x ∈ tf m n E o acc, x ∈ acc ∨ x < m) ∧ (tf m n E o acc).length ≤ m + acc.length
  | 0, _, _, _, acc => ⟨fun x h => .inl h, by simp [tf]⟩
  | m + 1, n, E, o, acc => by
    unfold tf
    simp only
    split
    · obtain ⟨h1, h2⟩ := tf_small m n (E.take m) (putZ o (E.getD m (0, 0)).1 (-1)) acc
      exact ⟨fun x h => (h1 x h).imp id (by omega), by omega⟩
    · obtain ⟨h1, h2⟩ := tf_small m (n - 1) (shutE (E.take m) (min (E.getD m (0, 0)).1 (E.getD m (0, 0)).2) (max (E.getD m (0, 0)).1 (E.getD m (0, 0)).2)) (shutO o (min (E.getD m (0, 0)).1 (E.getD m (0, 0)).2) (max (E.getD m (0, 0)).1 (E.getD m (0, 0)).2)) (m :: acc)
      refine ⟨fun x h => ?_, by rw [List.length_cons] at h2; omega⟩
      rcases h1 x h with h | h
      · rcases List.mem_cons.mp h with rfl | h
        · exact .inr (by omega)
        · exact .inl h
      · exact .inr (by omega)
theorem take_last {E : Ed} {j : Nat} (h : E.length = j + 1) : E.eraseIdx j = E.take j := by
  rw [List.eraseIdx_eq_take_drop_succ, List.drop_eq_nil_of_le (by omega), List.append_nil]
theorem nb_less {o : List Int} {c : Nat} (hc : c < o.length) : nb (putZ o c (-1)) ≤ nb o + 1 := by
  have := nb_put (k := -1) hc
  omega
theorem mem_real {n : Nat} {E : Ed} (he : InF n E) {r : List Int} : r ∈ (rows 1 [zer n] E).map toZ ↔ Real n E r := by
  constructor
  · intro h
    obtain ⟨s, hs, rfl⟩ := List.mem_map.mp h
    exact (mem_rows1 he).mp hs
  · intro h
    obtain ⟨s, rfl⟩ := real_nat h
    exact List.mem_map.mpr ⟨s, (mem_rows1 he).mpr h, rfl⟩
theorem zip_erase : ∀ (E : Ed) (i k : Nat), ((E.zipIdx k).filter fun x => decide (x.2 ≠ i + k)).map (·.1) = E.eraseIdx i
  | [], i, k => rfl
  | e :: E, 0, k => by
    have h : ((E.zipIdx (k + 1)).filter fun x => decide (x.2 ≠ 0 + k)) = E.zipIdx (k + 1) := by
      refine List.filter_eq_self.mpr fun x hx => ?_
      obtain ⟨a, j⟩ := x
      have := List.le_snd_of_mem_zipIdx hx
      exact decide_eq_true (by simp at this ⊢; omega)
    rw [List.zipIdx_cons, List.filter_cons, if_neg (by simp), h, List.eraseIdx_cons_zero]
    simp [List.zipIdx_map_fst]
  | e :: E, i + 1, k => by
    have ih := zip_erase E i (k + 1)
    have e2 : i + (k + 1) = i + 1 + k := by omega
    rw [e2] at ih
    rw [List.zipIdx_cons, List.filter_cons, if_pos (by simp), List.map_cons, ih, List.eraseIdx_cons_succ]
theorem tf_yes {m n : Nat} {E : Ed} {o : List Int} {acc : List Nat} (h : (E.getD m (0, 0)).1 = (E.getD m (0, 0)).2 ∨ Real n (E.take m) (putZ o (E.getD m (0, 0)).1 (-1))) :
    tf (m + 1) n E o acc = tf m n (E.take m) (putZ o (E.getD m (0, 0)).1 (-1)) acc := by
  rw [tf]
  rw [if_pos h]
theorem tf_no {m n : Nat} {E : Ed} {o : List Int} {acc : List Nat} (h : ¬ ((E.getD m (0, 0)).1 = (E.getD m (0, 0)).2 ∨ Real n (E.take m) (putZ o (E.getD m (0, 0)).1 (-1)))) :
    tf (m + 1) n E o acc = tf m (n - 1) (shutE (E.take m) (min (E.getD m (0, 0)).1 (E.getD m (0, 0)).2) (max (E.getD m (0, 0)).1 (E.getD m (0, 0)).2)) (shutO o (min (E.getD m (0, 0)).1 (E.getD m (0, 0)).2) (max (E.getD m (0, 0)).1 (E.getD m (0, 0)).2)) (m :: acc) := by
  rw [tf]
  rw [if_neg h]
end Tu
set_option Elab.async false
set_option linter.all false
set_option maxRecDepth 100000
set_option maxHeartbeats 4000000
set_option autoImplicit false
/-! Wl: rules for rows of whole numbers, dicts by crossings, lists of the store. -/
namespace Vi
open PySem L2
/-! ### rows of whole numbers -/
abbrev zr (r : List Int) : PyData := .tuple (r.map .int)
abbrev zrD (r : List Int) : D := .v (zr r)
theorem rowT_zr (r : List Nat) : rowT r = zr (Tu.toZ r) := by simp [rowT, zr, Tu.toZ]
theorem zr_at {r : List Int} {c : Nat} (h : c < r.length) : (r.map PyData.int)[c]? = some (.int (r.getD c 0)) := by
  rw [List.getElem?_map, List.getElem?_eq_getElem h]
  simp [h]
theorem ints_shaped (N : List Int) : SeqAt.shaped (.tuple (N.map .int)) = true ∧ SeqAt.shaped (.list (N.map .int)) = true := by
  have h : PyData.canLayAll0 (N.map PyData.int) = true ∧ PyData.depthAll (N.map PyData.int) = 0 := by
    induction N with
    | nil => exact ⟨rfl, rfl⟩
    | cons x N ih => simp [PyData.canLayAll0, PyData.canLay0, PyData.depthAll, PyData.depth, ih]
  simp [SeqAt.shaped, PyData.canLay0, PyData.depth, h]
theorem zrs_shaped (l : List (List Int)) : SeqAt.shaped (.tuple (l.map zr)) = true ∧ SeqAt.shaped (.list (l.map zr)) = true := by
  have h : PyData.canLayAll0 (l.map zr) = true ∧ PyData.depthAll (l.map zr) ≤ 1 := by
    induction l with
    | nil => exact ⟨rfl, by simp [PyData.depthAll]⟩
    | cons r l ih =>
      have h1 := (ints_shaped r).1
      have hr : PyData.canLayAll0 (r.map PyData.int) = true ∧ PyData.depthAll (r.map PyData.int) = 0 := by
        clear h1 ih
        induction r with
        | nil => exact ⟨rfl, rfl⟩
        | cons x N ih => simp [PyData.canLayAll0, PyData.canLay0, PyData.depthAll, PyData.depth, ih]
      simp [PyData.canLayAll0, PyData.canLay0, PyData.depthAll, PyData.depth, hr, ih.1]
      have := ih.2
      omega
  have := h.2
  constructor <;> simp [SeqAt.shaped, PyData.canLay0, PyData.depth, h.1] <;> omega
theorem zr_eqv : ∀ a b : List Int, PyData.eqv (zr a) (zr b) = decide (a = b)
  | [], [] => rfl
  | [], b :: bs => by simp [PyData.eqv, PyData.eqvAll]
  | a :: as, [] => by simp [PyData.eqv, PyData.eqvAll]
  | a :: as, b :: bs => by
    have ih := zr_eqv as bs
    simp only [PyData.eqv, List.map_cons, PyData.eqvAll] at ih ⊢
    rw [ih]
    have : PyData.eqv (.int a) (.int b) = decide (a = b) := by
      show (a == b) = _
      by_cases h : a = b <;> simp [h]
    first | rw [this] | (simp only [PyData.eqv] at this; rw [this])
    by_cases h1 : a = b <;> by_cases h2 : as = bs <;> simp [h1, h2]
section
variable {st : Sto} {G : D → Prop} {B : Bool → Prop}
theorem any_zr {l : List (List Int)} {r : List Int} : ((l.map zr).any fun z => PyData.eqv z (zr r)) = decide (r ∈ l) := by
  induction l with
  | nil => rfl
  | cons x l ih =>
    rw [List.map_cons, List.any_cons, ih, zr_eqv]
    by_cases h1 : x = r
    · subst h1; simp
    · have : ¬ r = x := fun e => h1 e.symm
      simp [h1, this]
theorem in_zrs {r : List Int} {l : List (List Int)} (h : B (decide (r ∈ l))) : Ok (cmpop st .In (zrD r) (.v (.list (l.map zr)))) B := by
  refine ⟨_, ?_, h⟩
  have e : cmpop st .In (zrD r) (.v (.list (l.map zr))) = match plains ((l.map zr).map D.v) with
      | some qs => if SeqAt.shaped (zr r) && SeqAt.shaped (.list qs) && SeqAt.shaped (.tuple qs) then .ok (qs.any fun z => PyData.eqv z (zr r)) else .no
      | none => .no := rfl
  rw [e, plains_map]
  simp only [(zrs_shaped l).1, (zrs_shaped l).2, (ints_shaped r).1, Bool.and_self, if_true, any_zr]
theorem notin_zrs {r : List Int} {l : List (List Int)} (h : B (!decide (r ∈ l))) : Ok (cmpop st .NotIn (zrD r) (.v (.list (l.map zr)))) B := by
  refine ⟨_, ?_, h⟩
  have e : cmpop st .NotIn (zrD r) (.v (.list (l.map zr))) = match plains ((l.map zr).map D.v) with
      | some qs => if SeqAt.shaped (zr r) && SeqAt.shaped (.list qs) && SeqAt.shaped (.tuple qs) then .ok (!qs.any fun z => PyData.eqv z (zr r)) else .no
      | none => .no := rfl
  rw [e, plains_map]
  simp only [(zrs_shaped l).1, (zrs_shaped l).2, (ints_shaped r).1, Bool.and_self, if_true, any_zr]
theorem any_nats {N : List Nat} {i : Nat} : ((N.map natP).any fun z => PyData.eqv z (natP i)) = decide (i ∈ N) := by
  induction N with
  | nil => rfl
  | cons x N ih =>
    rw [List.map_cons, List.any_cons, ih]
    have : PyData.eqv (natP x) (natP i) = decide (i = x) := by
      have : PyData.eqv (natP x) (natP i) = ((x : Int) == (i : Int)) := rfl
      rw [this]
      by_cases hx : i = x
      · subst hx; simp
      · simp [hx]; omega
    rw [this]
    by_cases hx : i = x <;> by_cases hN : i ∈ N <;> simp [hx, hN]
theorem in_natsR {i n : Nat} {N : List Nat} (hx : st[n]? = some (.lst (N.map natD))) (h : B (decide (i ∈ N))) : Ok (cmpop st .In (natD i) (.ref n)) B := by
  refine ⟨_, ?_, h⟩
  have e1 : sPair (natD i) (.ref n) = none := rfl
  have e2 : dAt st (.ref n) (natD i) = none := by simp [dAt, objOf, hx, dGet]
  have e3 : seqOf st (.ref n) = some (false, (N.map natP).map D.v) := by simp [seqOf, hx, nat_tup]
  have e4 : toP st (natD i) = some (natP i) := rfl
  simp only [cmpop, e1, e2, cmpop0, e3, e4, plains_map, (nats_shaped N).1, (nats_shaped N).2, shaped_int, Bool.and_self, if_true, any_nats]
theorem ne_nilL {xs : List Nat} (h : B (!decide (xs = []))) : Ok (cmpop st .NotEq (.v (.list (xs.map natP))) (.v (.list []))) B := by
  refine ⟨_, ?_, h⟩
  have e : sPair (.v (.list (xs.map natP))) (.v (.list [])) = none := rfl
  have s2 : SeqAt.shaped (.list []) = true := by rfl
  simp only [cmpop, e, cmpop0, toP, eqOk, (nats_shaped xs).2, s2, Bool.and_self, if_true]
  cases xs <;> simp [PyData.eqv, PyData.eqvAll]
theorem eq_nilL {xs : List Nat} (h : B (decide (xs = []))) : Ok (cmpop st .Eq (.v (.list (xs.map natP))) (.v (.list []))) B := by
  refine ⟨_, ?_, h⟩
  have e : sPair (.v (.list (xs.map natP))) (.v (.list [])) = none := rfl
  have s2 : SeqAt.shaped (.list []) = true := by rfl
  simp only [cmpop, e, cmpop0, toP, eqOk, (nats_shaped xs).2, s2, Bool.and_self, if_true]
  cases xs <;> simp [PyData.eqv, PyData.eqvAll]
theorem bl_sumT {ns : List Int} (h : G (.v (.int ns.sum))) : Ok (blt st .sum [zrD ns]) G := by
  refine ⟨_, ?_, h⟩
  have : ∀ ns : List Int, intsOf (ns.map .int) = some ns := by
    intro ns
    induction ns with
    | nil => rfl
    | cons n ns ih => simp [intsOf, ih]
  simp only [blt, seqOf, plains_map, this, R.of_some, R.bind_ok]
theorem sort_natsT {N : List Nat} (hl : N.length ≤ 16777216) (g : G (.v (.list ((N.mergeSort fun a b => decide (a ≤ b)).map natP)))) : Ok (sortedOf st false (.v (.tuple (N.map natP)))) G := by
  obtain ⟨d, e, q⟩ := sort_nats (st := st) (N := N) (G := fun d => d = .v (.list ((N.mergeSort fun a b => decide (a ≤ b)).map natP))) hl rfl
  subst q
  exact ⟨_, e, g⟩
/-! ### dicts from crossings to ways -/
def dkP (l : List (Nat × List Nat)) : List (L2.Key × D) := l.map fun x => (Sum.inl (x.1 : Int), rowTD x.2)
abbrev ks (l : List (Nat × List Nat)) : List Nat := Tu.ks l
theorem kget_P (c : Nat) : ∀ l : List (Nat × List Nat), kget (dkP l) (Sum.inl (c : Int)) = (l.lookup c).map rowTD
  | [] => rfl
  | (d, p) :: l => by
    have ih := kget_P c l
    unfold kget at ih ⊢
    simp only [dkP, List.map_cons, List.find?_cons] at ih ⊢
    by_cases h : c = d
    · subst h
      simp [List.lookup]
    · have h1 : ¬ ((Sum.inl (d : Int) : L2.Key) = Sum.inl (c : Int)) := by
        intro e
        have : (d : Int) = (c : Int) := by injection e
        omega
      have h2 : (c == d) = false := by simpa using h
      simp only [h1, decide_false, List.lookup, h2]
      exact ih
theorem lookup_some {c : Nat} : ∀ {l : List (Nat × List Nat)}, c ∈ ks l → ∃ p, l.lookup c = some p ∧ (c, p) ∈ l
  | [], h => by cases h
  | (d, p) :: l, h => by
    by_cases e : c = d
    · subst e
      exact ⟨p, by simp [List.lookup], by simp⟩
    · have h2 : (c == d) = false := by simpa using e
      have h' : c ∈ ks l := by
        rcases List.mem_cons.mp h with h | h
        · exact absurd h e
        · exact h
      obtain ⟨q, k1, k2⟩ := lookup_some h'
      exact ⟨q, by simp only [List.lookup, h2]; exact k1, by simp [k2]⟩
theorem lookup_none {c : Nat} : ∀ {l : List (Nat × List Nat)}, c ∉ ks l → l.lookup c = none
  | [], _ => rfl
  | (d, p) :: l, h => by
    have e : ¬ c = d := fun e => h (by simp [ks, e])
    have h2 : (c == d) = false := by simpa using e
    simp only [List.lookup, h2]
    exact lookup_none fun h' => h (List.mem_cons_of_mem _ h')
theorem dAt_P {n c : Nat} {l : List (Nat × List Nat)} (hx : st[n]? = some (.dk false (dkP l))) : dAt st (.ref n) (natD c) = some ((l.lookup c).map rowTD) := by
  simp [dAt, objOf, hx, dGet, toKey, kget_P]
theorem notin_P {n c : Nat} {l : List (Nat × List Nat)} (hx : st[n]? = some (.dk false (dkP l))) (h : B (!decide (c ∈ ks l))) : Ok (cmpop st .NotIn (natD c) (.ref n)) B := by
  refine ⟨_, ?_, h⟩
  have e1 : sPair (natD c) (.ref n) = none := rfl
  simp only [cmpop, e1, dAt_P hx]
  by_cases q : c ∈ ks l
  · obtain ⟨p, k1, _⟩ := lookup_some q
    simp [k1, q]
  · simp [lookup_none q, q]
theorem in_P {n c : Nat} {l : List (Nat × List Nat)} (hx : st[n]? = some (.dk false (dkP l))) (h : B (decide (c ∈ ks l))) : Ok (cmpop st .In (natD c) (.ref n)) B := by
  refine ⟨_, ?_, h⟩
  have e1 : sPair (natD c) (.ref n) = none := rfl
  simp only [cmpop, e1, dAt_P hx]
  by_cases q : c ∈ ks l
  · obtain ⟨p, k1, _⟩ := lookup_some q
    simp [k1, q]
  · simp [lookup_none q, q]
theorem ix_P {n c : Nat} {l : List (Nat × List Nat)} {p : List Nat} (hx : st[n]? = some (.dk false (dkP l))) (h : l.lookup c = some p) (g : G (rowTD p)) : Ok (index st (.ref n) (natD c)) G := by
  refine ⟨_, ?_, g⟩
  simp [index, dAt_P hx, h]
theorem kput_P {c : Nat} {p : List Nat} {l : List (Nat × List Nat)} (h : c ∉ ks l) : kput (dkP l) (Sum.inl (c : Int)) (rowTD p) = dkP (l ++ [(c, p)]) := by
  unfold kput
  rw [kget_P, lookup_none h]
  simp [dkP]
theorem to_P {n c : Nat} {p : List Nat} {l : List (Nat × List Nat)} {P : Sto → Prop} (hx : st[n]? = some (.dk false (dkP l))) (h : c ∉ ks l) (hl : l.length < 16777216) (g : P (st.set n (.dk false (dkP (l ++ [(c, p)]))))) : Ok (store st (.ref n) (natD c) (rowTD p)) P := by
  refine ⟨_, ?_, g⟩
  have : (dkP l).length < sizeLine := by unfold dkP; rw [List.length_map]; exact hl
  simp only [store, hx, Option.bind_some, dPut, this, if_true, toKey, Option.map_some, kput_P h]
theorem intKs_P : ∀ l : List (Nat × List Nat), intKs (dkP l) = some ((ks l).map fun (i : Nat) => (i : Int))
  | [] => rfl
  | (c, p) :: l => by
    have ih := intKs_P l
    unfold dkP ks at ih ⊢
    simp only [List.map_cons, intKs, ih, Option.map_some]
theorem so_P {n : Nat} {l : List (Nat × List Nat)} (hx : st[n]? = some (.dk false (dkP l))) (hl : l.length < 64) (g : G (.v (.list (((ks l).mergeSort fun a b => decide (a ≤ b)).map natP)))) : Ok (sortedOf st false (.ref n)) G := by
  refine ⟨_, ?_, g⟩
  have e : keysI st (.ref n) = some ((ks l).map fun (i : Nat) => (i : Int)) := by simp [keysI, objOf, hx, intKs_P]
  have hl2 : ((ks l).map fun (i : Nat) => (i : Int)).length < 64 := by simp [ks, hl]
  unfold sortedOf
  rw [e]
  simp only [Bool.not_false, Bool.true_and, decide_eq_true hl2, if_true]
  congr 3
  have : ((ks l).map fun (i : Nat) => (i : Int)).mergeSort (fun a b => decide (a ≤ b)) = ((ks l).mergeSort fun a b => decide (a ≤ b)).map fun (i : Nat) => (i : Int) := by
    rw [List.map_mergeSort]
    intro a _ b _
    by_cases h : a ≤ b
    · simp [h]
    · simp [h]
  rw [this, List.map_map]
  rfl
theorem ok_nd1K {C : Cfg} {env : En} {Q : D → Sto → Prop} {k v : E} (h : Ok2 (evE C k env st) fun x st => Ok2 (evE C v env st) fun y st => ∃ p kk, x = .v p ∧ toKey p = some kk ∧ Q (.ref st.length) (st ++ [.dk false [(kk, y)]])) : Ok2 (evE C (.nd1 false k v) env st) Q := by
  rw [evE]
  refine b22 (h.mono fun x st h => b22 (h.mono fun y st ⟨p, ks, e, hk, q⟩ => ?_))
  subst e
  simp only [Bool.false_eq_true, if_false, hk, R.of_some, R.bind_ok]
  exact r2 q
/-! ### the store's end -/
theorem at_app {b r : Sto} {k : Nat} {o : Vi.O} (h : r[k]? = some o) : (b ++ r)[b.length + k]? = some o := by
  rw [List.getElem?_append_right (by omega)]
  simpa using h
theorem set_app {b r : Sto} {k : Nat} {o : Vi.O} : (b ++ r).set (b.length + k) o = b ++ r.set k o := by
  rw [List.set_append_right _ _ (by omega)]
  simp
theorem w_at0 (st : Sto) (d : Vi.O) (r : Sto) : (st ++ d :: r)[st.length]? = some d := by simp
theorem w_set0 (st : Sto) (d e : Vi.O) (r : Sto) : (st ++ d :: r).set st.length e = st ++ e :: r := by simp
theorem w_at1 (st : Sto) (d x : Vi.O) (js : Sto) {k : Nat} (h : k = st.length + 1 + js.length) : (st ++ d :: (js ++ [x]))[k]? = some x := by
  subst h
  rw [Nat.add_assoc, List.getElem?_append_right (by omega), Nat.add_sub_cancel_left, Nat.add_comm, List.getElem?_cons_succ]
  simp
theorem w_set1 (st : Sto) (d x y : Vi.O) (js : Sto) {k : Nat} (h : k = st.length + 1 + js.length) : (st ++ d :: (js ++ [x])).set k y = st ++ d :: (js ++ [y]) := by
  subst h
  rw [Nat.add_assoc, List.set_append_right _ _ (by omega), Nat.add_sub_cancel_left, Nat.add_comm, List.set_cons_succ]
  simp
theorem w_at2 (st : Sto) (d x y : Vi.O) (js : Sto) {k : Nat} (h : k = st.length + 1 + js.length) : (st ++ d :: (js ++ [x] ++ [y]))[k]? = some x := by
  subst h
  rw [Nat.add_assoc, List.getElem?_append_right (by omega), Nat.add_sub_cancel_left, Nat.add_comm, List.getElem?_cons_succ, List.append_assoc]
  simp
/-- a while, perhaps left by a return -/
theorem whileL_ret {test : En → Sto → R (Bool × Sto)} {body : En → Sto → R (Flow × En × Sto)} (I : Nat → En → Sto → Prop) (F : Flow → En → Sto → Prop) : ∀ (k m : Nat) (env : En) (st : Sto), m < k →
    (∀ m env st, I m env st → Ok2 (test env st) fun b st' => (b = false → F .nx env st') ∧ (b = true → Ok3 (body env st') fun fl env st => (fl = .nx ∧ ∃ m', m' < m ∧ I m' env st) ∨ ∃ d, fl = .rt d ∧ F (.rt d) env st)) → I m env st →
    Ok3 (whileL test body k env st) F
  | 0, m, env, st, hm, _, _ => absurd hm (by omega)
  | k + 1, m, env, st, hm, h, hi => by
    simp only [whileL]
    obtain ⟨b, st2, e1, h1, h2⟩ := h m env st hi
    rw [e1]
    simp only [R.bind_ok]
    cases b with
    | false => exact ⟨_, _, _, rfl, h1 rfl⟩
    | true =>
      simp only [if_true]
      obtain ⟨fl, env3, st3, e2, h3⟩ := h2 rfl
      rw [e2]
      simp only [R.bind_ok]
      rcases h3 with ⟨rfl, m', hm', hi3⟩ | ⟨d, rfl, q⟩
      · exact whileL_ret I F k m' env3 st3 (by omega) h hi3
      · exact ⟨_, _, _, rfl, q⟩
theorem wh_ret {test : En → Sto → R (Bool × Sto)} {body : En → Sto → R (Flow × En × Sto)} {env : En} {st : Sto} {F : Flow → En → Sto → Prop} (I : Nat → En → Sto → Prop) {k : Nat} (m : Nat) (hm : m < k)
    (ht : ∀ m env st, I m env st → Ok2 (test env st) fun b st' => (b = false → F .nx env st') ∧ (b = true → Ok3 (body env st') fun fl env st => (fl = .nx ∧ ∃ m', m' < m ∧ I m' env st) ∨ ∃ d, fl = .rt d ∧ F (.rt d) env st)) (hi : I m env st) : Ok3 (whileL test body k env st) F :=
  whileL_ret I F k m env st hm ht hi
end
end Vi
set_option Elab.async false
set_option linter.all false
set_option maxRecDepth 100000
set_option maxHeartbeats 4000000
namespace K58
open PySem PySem.Spec PyProof.Rows L2 Vi
abbrev LV : Nat := 14
abbrev LIM : Nat := 4000
/-! the terms of hightrees_k58_whole_told_forests_of_outs -/
def top (i : Nat) : Stmt := PySem.Challenge.pw_hightrees_k58_whole_told_forests_of_outs.main.body.getD i (.Pass ⟨0, 0, 0, 0⟩)
def fns : List Str := (["heads_by", "pieces_by", "piece_count", "frame_out", "frame_shut", "tail_of", "head_of", "outs_of", "turned_roads", "ways_from", "too_many", "nearest_turning", "outs_paper", "turning_with", "with_one", "outs_rows", "zone_forests", "with_added", "shut_outs", "told_forest", "_law_source", "_law_pick", "_law_of", "_law_mixed", "_law_frame"] : List Str) ++ (["_law_put", "_law_outs", "_law_out", "_law_shut", "_law_told_forest", "_law_told", "law"] : List Str)
def exc : Option Str := some "NotOfIt"
def gi : List (Str × Int) := [("MOST_ROWS", 8000)]
def i_heads_by : Nat := 0
def i_pieces_by : Nat := 1
def i_piece_count : Nat := 2
def i_frame_out : Nat := 3
def i_frame_shut : Nat := 4
def i_tail_of : Nat := 5
def i_head_of : Nat := 6
def i_outs_of : Nat := 7
def i_turned_roads : Nat := 8
def i_ways_from : Nat := 9
def i_too_many : Nat := 10
def i_nearest_turning : Nat := 11
def i_outs_paper : Nat := 12
def i_turning_with : Nat := 13
def i_with_one : Nat := 14
def i_outs_rows : Nat := 15
def i_zone_forests : Nat := 16
def i_with_added : Nat := 17
def i_shut_outs : Nat := 18
def i_told_forest : Nat := 19
def i__law_source : Nat := 20
def i__law_pick : Nat := 21
def i__law_of : Nat := 22
def i__law_mixed : Nat := 23
def i__law_frame : Nat := 24
def i__law_put : Nat := 25
def i__law_outs : Nat := 26
def i__law_out : Nat := 27
def i__law_shut : Nat := 28
def i__law_told_forest : Nat := 29
def i__law_told : Nat := 30
def i_law : Nat := 31
/-- heads_by(frame, lot, heads, road, low, high, head, crossing) -/
def f_heads_by : FDef := ⟨2, 8, false, [
    .set (.name 2) (.lrng [(.idx (.var 0) (.cst (.int 0)))]),
    .forS (.name 3) (.val (.var 1)) [.set (.tup [(.name 4), (.name 5)]) (.sorted false (.comp (.idx (.var 2) (.var 7)) [7] (.name 7) (.val (.idx (.idx (.var 0) (.cst (.int 1))) (.var 3))) none)), .set (.name 2) (.comp (.ite (.cmp .Eq (.var 6) (.var 5)) (.var 4) (.var 6)) [6] (.name 6) (.val (.var 2)) none)],
    .ret (.var 2)]⟩
def n0 : List Str := ["frame", "lot", "heads", "road", "low", "high", "head", "crossing"]
/-- pieces_by(frame, lot, heads, found, first, crossing) -/
def f_pieces_by : FDef := ⟨2, 6, false, [
    .par [(.name 2), (.name 3)] [(.call i_heads_by [(.var 0), (.var 1)]), (.new (.lst []))],
    .forS (.name 4) (.rng [(.idx (.var 0) (.cst (.int 0)))]) [.ite (.cmp .Eq (.idx (.var 2) (.var 4)) (.var 4)) [.expr (.mt .append (.var 3) [(.blt .tuple [(.comp (.var 5) [5] (.name 5) (.rng [(.idx (.var 0) (.cst (.int 0)))]) (some (.cmp .Eq (.idx (.var 2) (.var 5)) (.var 4))))])])] []],
    .ret (.blt .tuple [(.var 3)])]⟩
def n1 : List Str := ["frame", "lot", "heads", "found", "first", "crossing"]
/-- piece_count(frame, lot) -/
def f_piece_count : FDef := ⟨2, 2, false, [
    .ret (.blt .len [(.call i_pieces_by [(.var 0), (.var 1)])])]⟩
def n2 : List Str := ["frame", "lot"]
/-- frame_out(frame, road) -/
def f_frame_out : FDef := ⟨2, 2, false, [
    .ret (.tup [(.one (.idx (.var 0) (.cst (.int 0)))), (.one (.bin .Add (.slice (.idx (.var 0) (.cst (.int 1))) none (some (.var 1))) (.slice (.idx (.var 0) (.cst (.int 1))) (some (.bin .Add (.var 1) (.cst (.int 1)))) none)))])]⟩
def n3 : List Str := ["frame", "road"]
/-- frame_shut(frame, road, n, left, low, high, names, crossing, a, b) -/
def f_frame_shut : FDef := ⟨2, 10, false, [
    .set (.tup [(.name 2), (.name 3)]) (.call i_frame_out [(.var 0), (.var 1)]),
    .set (.tup [(.name 4), (.name 5)]) (.sorted false (.idx (.idx (.var 0) (.cst (.int 1))) (.var 1))),
    .ite (.cmp .Eq (.var 4) (.var 5)) [.ret (.tup [(.one (.var 2)), (.one (.var 3))])] [],
    .set (.name 6) (.comp (.ite (.cmp .Eq (.var 7) (.var 5)) (.var 4) (.bin .Sub (.var 7) (.blt .int [(.cmp .Gt (.var 7) (.var 5))]))) [7] (.name 7) (.rng [(.var 2)]) none),
    .ret (.tup [(.one (.bin .Sub (.var 2) (.cst (.int 1)))), (.one (.blt .tuple [(.comp (.tup [(.one (.idx (.var 6) (.var 8))), (.one (.idx (.var 6) (.var 9)))]) [8, 9] (.tup [(.name 8), (.name 9)]) (.val (.var 3)) none)]))])]⟩
def n4 : List Str := ["frame", "road", "n", "left", "low", "high", "names", "crossing", "a", "b"]
/-- tail_of(frame, turning, road) -/
def f_tail_of : FDef := ⟨3, 3, false, [
    .ret (.idx (.idx (.idx (.var 0) (.cst (.int 1))) (.var 2)) (.idx (.var 1) (.var 2)))]⟩
def n5 : List Str := ["frame", "turning", "road"]
/-- head_of(frame, turning, road) -/
def f_head_of : FDef := ⟨3, 3, false, [
    .ret (.idx (.idx (.idx (.var 0) (.cst (.int 1))) (.var 2)) (.bin .Sub (.cst (.int 1)) (.idx (.var 1) (.var 2))))]⟩
def n6 : List Str := ["frame", "turning", "road"]
/-- outs_of(frame, turning, found, road) -/
def f_outs_of : FDef := ⟨2, 4, false, [
    .set (.name 2) (.new (.bin .Mult (.lst [(.one (.cst (.int 0)))]) (.idx (.var 0) (.cst (.int 0))))),
    .forS (.name 3) (.rng [(.blt .len [(.idx (.var 0) (.cst (.int 1)))])]) [.augS (.var 2) (.call i_tail_of [(.var 0), (.var 1), (.var 3)]) .Add (.cst (.int 1))],
    .ret (.blt .tuple [(.var 2)])]⟩
def n7 : List Str := ["frame", "turning", "found", "road"]
/-- turned_roads(turning, roads, road, mark) -/
def f_turned_roads : FDef := ⟨2, 4, false, [
    .ret (.blt .tuple [(.comp (.ite (.cmp .In (.var 2) (.var 1)) (.bin .Sub (.cst (.int 1)) (.var 3)) (.var 3)) [2, 3] (.tup [(.name 2), (.name 3)]) (.enum (.var 0)) none)])]⟩
def n8 : List Str := ["turning", "roads", "road", "mark"]
/-- ways_from(frame, turning, crossing, found, late, here, road, tail, head) -/
def f_ways_from : FDef := ⟨3, 9, true, [
    .par [(.name 3), (.name 4)] [(.nd1 false (.var 2) (.tup [])), (.new (.lst [(.one (.var 2))]))],
    .whileS (.cmp .NotEq (.var 4) (.lst [])) [.par [(.name 5), (.name 4)] [(.var 4), (.new (.lst []))], .forS (.name 6) (.rng [(.blt .len [(.idx (.var 0) (.cst (.int 1)))])]) [.par [(.name 7), (.name 8)] [(.call i_tail_of [(.var 0), (.var 1), (.var 6)]), (.call i_head_of [(.var 0), (.var 1), (.var 6)])], .ite (.and [(.cmp .In (.var 7) (.var 5)), (.cmp .NotIn (.var 8) (.var 3))]) [.set (.sub (.var 3) (.var 8)) (.tup [(.star (.idx (.var 3) (.var 7))), (.one (.var 6))]), .expr (.mt .append (.var 4) [(.var 8)])] []]],
    .ret (.var 3)]⟩
def n9 : List Str := ["frame", "turning", "crossing", "found", "late", "here", "road", "tail", "head"]
/-- too_many(outs, told, some, crossing, number) -/
def f_too_many : FDef := ⟨2, 5, false, [
    .set (.name 2) (.comp (.var 3) [3, 4] (.tup [(.name 3), (.name 4)]) (.enum (.var 0)) (some (.cmp .Gt (.var 4) (.idx (.var 1) (.var 3))))),
    .ret (.ite (.cmp .NotEq (.var 2) (.lst [])) (.idx (.var 2) (.cst (.int 0))) (.cst .none))]⟩
def n10 : List Str := ["outs", "told", "some", "crossing", "number"]
/-- nearest_turning(frame, told, turning, outs, start, ways, few, crossing) -/
def f_nearest_turning : FDef := ⟨2, 8, false, [
    .set (.name 2) (.bin .Mult (.tup [(.one (.cst (.int 0)))]) (.blt .len [(.idx (.var 0) (.cst (.int 1)))])),
    .set (.name 3) (.call i_outs_of [(.var 0), (.var 2)]),
    .set (.name 4) (.call i_too_many [(.var 3), (.var 1)]),
    .whileS (.isN true (.var 4)) [.set (.name 5) (.call i_ways_from [(.var 0), (.var 2), (.var 4)]), .set (.name 6) (.comp (.var 7) [7] (.name 7) (.val (.sorted false (.var 5))) (some (.cmp .Lt (.idx (.var 3) (.var 7)) (.idx (.var 1) (.var 7))))), .ite (.cmp .Eq (.var 6) (.lst [])) [.ret (.tup [(.one (.var 2)), (.one (.blt .tuple [(.sorted false (.var 5))]))])] [], .set (.name 2) (.call i_turned_roads [(.var 2), (.idx (.var 5) (.idx (.var 6) (.cst (.int 0))))]), .set (.name 3) (.call i_outs_of [(.var 0), (.var 2)]), .set (.name 4) (.call i_too_many [(.var 3), (.var 1)])],
    .ret (.tup [(.one (.var 2)), (.one (.cst .none))])]⟩
def n11 : List Str := ["frame", "told", "turning", "outs", "start", "ways", "few", "crossing"]
/-- outs_paper(frame, outs, turning, lot) -/
def f_outs_paper : FDef := ⟨2, 4, false, [
    .ite (.cmp .NotEq (.blt .sum [(.var 1)]) (.blt .len [(.idx (.var 0) (.cst (.int 1)))])) [.ret (.tup [(.one (.cst (.str "sum")))])] [],
    .set (.tup [(.name 2), (.name 3)]) (.call i_nearest_turning [(.var 0), (.var 1)]),
    .ret (.ite (.isN false (.var 3)) (.tup [(.one (.cst (.str "turning"))), (.one (.var 2))]) (.tup [(.one (.cst (.str "lot"))), (.one (.var 3))]))]⟩
def n12 : List Str := ["frame", "outs", "turning", "lot"]
/-- turning_with(frame, outs, paper) -/
def f_turning_with : FDef := ⟨2, 3, false, [
    .set (.name 2) (.call i_outs_paper [(.var 0), (.var 1)]),
    .ret (.ite (.cmp .Eq (.idx (.var 2) (.cst (.int 0))) (.cst (.str "turning"))) (.idx (.var 2) (.cst (.int 1))) (.cst .none))]⟩
def n13 : List Str := ["frame", "outs", "paper"]
/-- with_one(outs, crossing, more, place, number) -/
def f_with_one : FDef := ⟨3, 5, false, [
    .ret (.blt .tuple [(.comp (.ite (.cmp .Eq (.var 3) (.var 1)) (.bin .Add (.var 4) (.var 2)) (.var 4)) [3, 4] (.tup [(.name 3), (.name 4)]) (.enum (.var 0)) none)])]⟩
def n14 : List Str := ["outs", "crossing", "more", "place", "number"]
/-- outs_rows(frame, found, a, b, late, row) -/
def f_outs_rows : FDef := ⟨1, 6, false, [
    .set (.name 1) (.nd1 true (.bin .Mult (.tup [(.one (.cst (.int 0)))]) (.idx (.var 0) (.cst (.int 0)))) (.cst (.bool true))),
    .forS (.tup [(.name 2), (.name 3)]) (.val (.idx (.var 0) (.cst (.int 1)))) [.set (.name 4) (.nd true), .forK (.name 5) 1 [.set (.sub (.var 4) (.call i_with_one [(.var 5), (.var 2), (.cst (.int 1))])) (.cst (.bool true)), .set (.sub (.var 4) (.call i_with_one [(.var 5), (.var 3), (.cst (.int 1))])) (.cst (.bool true))], .set (.name 1) (.var 4), .ite (.cmp .Gt (.blt .len [(.var 1)]) (.gint "MOST_ROWS" 8000)) [.bad] []],
    .ret (.blt .tuple [(.sorted false (.var 1))])]⟩
def n15 : List Str := ["frame", "found", "a", "b", "late", "row"]
/-- zone_forests(frame, found, road, lot) -/
def f_zone_forests : FDef := ⟨1, 4, false, [
    .set (.name 1) (.lst [(.one (.tup []))]),
    .forS (.name 2) (.rng [(.blt .len [(.idx (.var 0) (.cst (.int 1)))])]) [.set (.name 1) (.bin .Add (.var 1) (.comp (.tup [(.star (.var 3)), (.one (.var 2))]) [3] (.name 3) (.val (.var 1)) none))],
    .ret (.sorted false (.comp (.var 3) [3] (.name 3) (.val (.var 1)) (some (.cmp .Eq (.call i_piece_count [(.var 0), (.var 3)]) (.bin .Sub (.idx (.var 0) (.cst (.int 0))) (.blt .len [(.var 3)]))))))]⟩
def n16 : List Str := ["frame", "found", "road", "lot"]
/-- with_added(outs, crossing, number, c, one) -/
def f_with_added : FDef := ⟨3, 5, false, [
    .ret (.blt .tuple [(.comp (.bin .Add (.var 4) (.bin .Mult (.var 2) (.blt .int [(.cmp .Eq (.var 3) (.var 1))]))) [3, 4] (.tup [(.name 3), (.name 4)]) (.enum (.var 0)) none)])]⟩
def n17 : List Str := ["outs", "crossing", "number", "c", "one"]
/-- shut_outs(frame, road, outs, low, high, found) -/
def f_shut_outs : FDef := ⟨3, 6, false, [
    .set (.tup [(.name 3), (.name 4)]) (.sorted false (.idx (.idx (.var 0) (.cst (.int 1))) (.var 1))),
    .set (.name 5) (.call i_with_added [(.var 2), (.var 3), (.bin .Sub (.idx (.var 2) (.var 4)) (.cst (.int 1)))]),
    .ret (.bin .Add (.slice (.var 5) none (some (.var 4))) (.slice (.var 5) (some (.bin .Add (.var 4) (.cst (.int 1)))) none))]⟩
def n18 : List Str := ["frame", "road", "outs", "low", "high", "found"]
/-- told_forest(frame, outs, found, road, a, b, rest, late) -/
def f_told_forest : FDef := ⟨2, 8, false, [
    .ite (.isN false (.call i_turning_with [(.var 0), (.var 1)])) [.raise] [],
    .set (.name 2) (.new (.lst [])),
    .forS (.name 3) (.rngD (.bin .Sub (.blt .len [(.idx (.var 0) (.cst (.int 1)))]) (.cst (.int 1))) (.neg (.cst (.int 1)))) [.set (.tup [(.name 4), (.name 5)]) (.idx (.idx (.var 0) (.cst (.int 1))) (.var 3)), .par [(.name 6), (.name 7)] [(.call i_with_added [(.var 1), (.var 4), (.neg (.cst (.int 1)))]), (.call i_frame_out [(.var 0), (.var 3)])], .ite (.or [(.cmp .Eq (.var 4) (.var 5)), (.isN true (.call i_turning_with [(.var 7), (.var 6)]))]) [.par [(.name 0), (.name 1)] [(.var 7), (.var 6)]] [.expr (.mt .append (.var 2) [(.var 3)]), .par [(.name 1), (.name 0)] [(.call i_shut_outs [(.var 0), (.var 3), (.var 1)]), (.call i_frame_shut [(.var 0), (.var 3)])]]],
    .ret (.blt .tuple [(.rev (.var 2))])]⟩
def n19 : List Str := ["frame", "outs", "found", "road", "a", "b", "rest", "late"]
/-- _law_source(script, mixed, cell) -/
def f__law_source : FDef := ⟨1, 3, true, [
    .set (.name 1) (.cst (.int 11)),
    .forS (.name 2) (.val (.var 0)) [.set (.name 1) (.bin .Mod (.blt .int [(.bin .Add (.bin .Add (.bin .Mult (.var 1) (.cst (.int 69069))) (.bin .Mult (.var 2) (.cst (.int 31)))) (.cst (.int 5)))]) (.cst (.int 2147483629)))],
    .ret (.ndct [("cells", (.new (.rev (.comp (.blt .abs [(.var 2)]) [2] (.name 2) (.val (.var 0)) none)))), ("left", (.cst (.int 1))), ("mixed", (.var 1)), ("turn", (.cst (.int 0)))])]⟩
def n20 : List Str := ["script", "mixed", "cell"]
/-- _law_pick(source, many, left, mixed) -/
def f__law_pick : FDef := ⟨2, 4, false, [
    .whileS (.and [(.cmp .Gt (.var 1) (.cst (.int 1))), (.cmp .Lt (.idx (.var 0) (.cst (.str "left"))) (.cst (.int 2))), (.cmp .Gt (.blt .len [(.idx (.var 0) (.cst (.str "cells")))]) (.cst (.int 0)))]) [.set (.sub (.var 0) (.cst (.str "left"))) (.mt .pop (.idx (.var 0) (.cst (.str "cells"))) [])],
    .set (.name 2) (.idx (.var 0) (.cst (.str "left"))),
    .ite (.or [(.cmp .Lt (.var 1) (.cst (.int 2))), (.cmp .Gt (.var 2) (.cst (.int 1)))]) [.set (.sub (.var 0) (.cst (.str "left"))) (.bin .FloorDiv (.var 2) (.blt .max2 [(.cst (.int 1)), (.var 1)])), .ret (.bin .Mod (.blt .int [(.var 2)]) (.blt .max2 [(.cst (.int 1)), (.var 1)]))] [],
    .set (.sub (.var 0) (.cst (.str "turn"))) (.bin .Add (.idx (.var 0) (.cst (.str "turn"))) (.cst (.int 1))),
    .set (.name 3) (.bin .Mod (.blt .int [(.bin .Add (.idx (.var 0) (.cst (.str "mixed"))) (.bin .Mult (.idx (.var 0) (.cst (.str "turn"))) (.cst (.int 104729))))]) (.cst (.int 998244353))),
    .set (.name 3) (.bin .Mod (.blt .int [(.bin .Add (.bin .Mult (.var 3) (.var 3)) (.bin .Mult (.idx (.var 0) (.cst (.str "turn"))) (.cst (.int 17))))]) (.cst (.int 2147483647))),
    .set (.sub (.var 0) (.cst (.str "mixed"))) (.var 3),
    .ret (.bin .Mod (.blt .int [(.bin .FloorDiv (.var 3) (.cst (.int 16)))]) (.var 1))]⟩
def n21 : List Str := ["source", "many", "left", "mixed"]
/-- _law_of(source, some) -/
def f__law_of : FDef := ⟨2, 2, false, [
    .ret (.idx (.var 1) (.call i__law_pick [(.var 0), (.blt .len [(.var 1)])]))]⟩
def n22 : List Str := ["source", "some"]
/-- _law_mixed(source, some, found) -/
def f__law_mixed : FDef := ⟨2, 3, false, [
    .par [(.name 1), (.name 2)] [(.new (.blt .list [(.var 1)])), (.new (.lst []))],
    .whileS (.cmp .NotEq (.var 1) (.lst [])) [.expr (.mt .append (.var 2) [(.mt .popAt (.var 1) [(.call i__law_pick [(.var 0), (.blt .len [(.var 1)])])])])],
    .ret (.var 2)]⟩
def n23 : List Str := ["source", "some", "found"]
/-- _law_frame(source, crossings, roads, n, pairs, lap, a, b, names) -/
def f__law_frame : FDef := ⟨3, 9, false, [
    .par [(.name 3), (.name 4)] [(.bin .Add (.cst (.int 1)) (.call i__law_pick [(.var 0), (.var 1)])), (.new (.lst []))],
    .forS (.name 5) (.rng [(.call i__law_pick [(.var 0), (.bin .Add (.var 2) (.cst (.int 1)))])]) [.par [(.name 6), (.name 7)] [(.call i__law_pick [(.var 0), (.var 3)]), (.call i__law_pick [(.var 0), (.var 3)])], .ite (.and [(.cmp .Eq (.var 6) (.var 7)), (.cmp .Gt (.call i__law_pick [(.var 0), (.cst (.int 3))]) (.cst (.int 0)))]) [.set (.name 7) (.bin .Mod (.blt .int [(.bin .Add (.bin .Add (.var 6) (.cst (.int 1))) (.call i__law_pick [(.var 0), (.blt .max2 [(.cst (.int 1)), (.bin .Sub (.var 3) (.cst (.int 1)))])]))]) (.var 3))] [], .expr (.mt .append (.var 4) [(.tup [(.one (.var 6)), (.one (.var 7))])])],
    .set (.name 8) (.call i__law_mixed [(.var 0), (.lrng [(.var 3)])]),
    .ret (.tup [(.one (.var 3)), (.one (.blt .tuple [(.comp (.tup [(.one (.idx (.var 8) (.var 6))), (.one (.idx (.var 8) (.var 7)))]) [6, 7] (.tup [(.name 6), (.name 7)]) (.val (.var 4)) none)]))])]⟩
def n24 : List Str := ["source", "crossings", "roads", "n", "pairs", "lap", "a", "b", "names"]
/-- _law_put(row, c, number) -/
def f__law_put : FDef := ⟨3, 3, false, [
    .ret (.bin .Add (.bin .Add (.slice (.var 0) none (some (.var 1))) (.tup [(.one (.bin .Add (.idx (.var 0) (.var 1)) (.var 2)))])) (.slice (.var 0) (some (.bin .Add (.var 1) (.cst (.int 1)))) none))]⟩
def n25 : List Str := ["row", "c", "number"]
/-- _law_outs(frame, found, a, b, late, row) -/
def f__law_outs : FDef := ⟨1, 6, false, [
    .set (.name 1) (.nd1 true (.bin .Mult (.tup [(.one (.cst (.int 0)))]) (.idx (.var 0) (.cst (.int 0)))) (.cst (.int 0))),
    .forS (.tup [(.name 2), (.name 3)]) (.val (.idx (.var 0) (.cst (.int 1)))) [.set (.name 4) (.nd true), .forK (.name 5) 1 [.set (.sub (.var 4) (.call i__law_put [(.var 5), (.var 2), (.cst (.int 1))])) (.cst (.int 0)), .set (.sub (.var 4) (.call i__law_put [(.var 5), (.var 3), (.cst (.int 1))])) (.cst (.int 0))], .set (.name 1) (.var 4)],
    .ret (.sorted false (.var 1))]⟩
def n26 : List Str := ["frame", "found", "a", "b", "late", "row"]
/-- _law_out(frame, road) -/
def f__law_out : FDef := ⟨2, 2, false, [
    .ret (.tup [(.one (.idx (.var 0) (.cst (.int 0)))), (.one (.bin .Add (.slice (.idx (.var 0) (.cst (.int 1))) none (some (.var 1))) (.slice (.idx (.var 0) (.cst (.int 1))) (some (.bin .Add (.var 1) (.cst (.int 1)))) none)))])]⟩
def n27 : List Str := ["frame", "road"]
/-- _law_shut(frame, road, low, high, names, c, k, a, b) -/
def f__law_shut : FDef := ⟨2, 9, false, [
    .set (.tup [(.name 2), (.name 3)]) (.sorted false (.idx (.idx (.var 0) (.cst (.int 1))) (.var 1))),
    .set (.name 4) (.comp (.ite (.cmp .Lt (.var 5) (.var 3)) (.var 5) (.ite (.cmp .Eq (.var 5) (.var 3)) (.var 2) (.bin .Sub (.var 5) (.cst (.int 1))))) [5] (.name 5) (.rng [(.idx (.var 0) (.cst (.int 0)))]) none),
    .ret (.tup [(.one (.bin .Sub (.idx (.var 0) (.cst (.int 0))) (.cst (.int 1)))), (.one (.blt .tuple [(.comp (.tup [(.one (.idx (.var 4) (.var 7))), (.one (.idx (.var 4) (.var 8)))]) [6, 7, 8] (.tup [(.name 6), (.tup [(.name 7), (.name 8)])]) (.enum (.idx (.var 0) (.cst (.int 1)))) (some (.cmp .NotEq (.var 6) (.var 1))))]))])]⟩
def n28 : List Str := ["frame", "road", "low", "high", "names", "c", "k", "a", "b"]
/-- _law_told_forest(frame, outs, found, road, a, b, late, low, high) -/
def f__law_told_forest : FDef := ⟨2, 9, false, [
    .set (.name 2) (.tup []),
    .forS (.name 3) (.rngD (.bin .Sub (.blt .len [(.idx (.var 0) (.cst (.int 1)))]) (.cst (.int 1))) (.neg (.cst (.int 1)))) [.set (.tup [(.name 4), (.name 5)]) (.idx (.idx (.var 0) (.cst (.int 1))) (.var 3)), .set (.name 6) (.call i__law_put [(.var 1), (.var 4), (.neg (.cst (.int 1)))]), .ite (.or [(.cmp .Eq (.var 4) (.var 5)), (.cmp .In (.var 6) (.call i__law_outs [(.call i__law_out [(.var 0), (.var 3)])]))]) [.par [(.name 0), (.name 1)] [(.call i__law_out [(.var 0), (.var 3)]), (.var 6)]] [.set (.tup [(.name 7), (.name 8)]) (.sorted false (.lst [(.one (.var 4)), (.one (.var 5))])), .set (.name 1) (.call i__law_put [(.var 1), (.var 7), (.bin .Sub (.idx (.var 1) (.var 8)) (.cst (.int 1)))]), .set (.name 1) (.bin .Add (.slice (.var 1) none (some (.var 8))) (.slice (.var 1) (some (.bin .Add (.var 8) (.cst (.int 1)))) none)), .par [(.name 0), (.name 2)] [(.call i__law_shut [(.var 0), (.var 3)]), (.bin .Add (.tup [(.one (.var 3))]) (.var 2))]]],
    .ret (.var 2)]⟩
def n29 : List Str := ["frame", "outs", "found", "road", "a", "b", "late", "low", "high"]
/-- _law_told(frame, outs) -/
def f__law_told : FDef := ⟨2, 2, false, [
    .tryR false i_told_forest [(.var 0), (.var 1)]]⟩
def n30 : List Str := ["frame", "outs"]
/-- law(script, source, lap, frame, kept, rows, outs, drawn, look, c, d, late) -/
def f_law : FDef := ⟨1, 12, false, [
    .set (.name 1) (.call i__law_source [(.var 0)]),
    .forS (.name 2) (.rng [(.cst (.int 4))]) [.set (.name 3) (.call i__law_frame [(.var 1), (.idx (.lst [(.one (.cst (.int 2))), (.one (.cst (.int 3))), (.one (.cst (.int 4))), (.one (.cst (.int 5)))]) (.var 2)), (.idx (.lst [(.one (.cst (.int 3))), (.one (.cst (.int 5))), (.one (.cst (.int 6))), (.one (.cst (.int 6)))]) (.var 2))]), .par [(.name 4), (.name 5)] [(.blt .repr [(.var 3)]), (.call i__law_outs [(.var 3)])], .ite (.or [(.cmp .NotEq (.blt .list [(.call i_outs_rows [(.var 3)])]) (.var 5)), (.cmp .NotEq (.blt .len [(.var 5)]) (.blt .len [(.call i_zone_forests [(.var 3)])]))]) [.ret (.cst (.bool false))] [], .forS (.name 6) (.val (.slice (.call i__law_mixed [(.var 1), (.var 5)]) none (some (.cst (.int 6))))) [.ite (.cmp .NotEq (.blt .repr [(.call i__law_told [(.var 3), (.var 6)])]) (.blt .repr [(.call i__law_told_forest [(.var 3), (.var 6)])])) [.ret (.cst (.bool false))] []], .set (.name 7) (.call i__law_of [(.var 1), (.var 5)]), .forS (.name 8) (.rng [(.cst (.int 4))]) [.par [(.name 9), (.name 10)] [(.call i__law_pick [(.var 1), (.idx (.var 3) (.cst (.int 0)))]), (.call i__law_pick [(.var 1), (.idx (.var 3) (.cst (.int 0)))])], .set (.name 11) (.call i__law_put [(.call i__law_put [(.var 7), (.var 9), (.bin .Add (.cst (.int 1)) (.call i__law_pick [(.var 1), (.cst (.int 2))]))]), (.var 10), (.neg (.cst (.int 1)))]), .ite (.cmp .NotEq (.isN false (.call i__law_told [(.var 3), (.var 11)])) (.cmp .NotIn (.var 11) (.var 5))) [.ret (.cst (.bool false))] []], .ite (.cmp .NotEq (.blt .repr [(.var 3)]) (.var 4)) [.ret (.cst (.bool false))] []],
    .ret (.cmp .Eq (.call i_told_forest [(.tup [(.one (.cst (.int 3))), (.one (.tup [(.one (.tup [(.one (.cst (.int 0))), (.one (.cst (.int 1)))])), (.one (.tup [(.one (.cst (.int 1))), (.one (.cst (.int 2)))])), (.one (.tup [(.one (.cst (.int 2))), (.one (.cst (.int 0)))]))]))]), (.tup [(.one (.cst (.int 1))), (.one (.cst (.int 1))), (.one (.cst (.int 1)))])]) (.tup []))]⟩
def n31 : List Str := ["script", "source", "lap", "frame", "kept", "rows", "outs", "drawn", "look", "c", "d", "late"]
def Pr : List FDef := [f_heads_by, f_pieces_by, f_piece_count, f_frame_out, f_frame_shut, f_tail_of, f_head_of, f_outs_of, f_turned_roads, f_ways_from, f_too_many, f_nearest_turning, f_outs_paper, f_turning_with, f_with_one, f_outs_rows, f_zone_forests, f_with_added, f_shut_outs, f_told_forest, f__law_source, f__law_pick, f__law_of, f__law_mixed, f__law_frame] ++ [f__law_put, f__law_outs, f__law_out, f__law_shut, f__law_told_forest, f__law_told, f_law]
theorem p_heads_by : Pr[i_heads_by]? = some f_heads_by := rfl
theorem p_pieces_by : Pr[i_pieces_by]? = some f_pieces_by := rfl
theorem p_piece_count : Pr[i_piece_count]? = some f_piece_count := rfl
theorem p_frame_out : Pr[i_frame_out]? = some f_frame_out := rfl
theorem p_frame_shut : Pr[i_frame_shut]? = some f_frame_shut := rfl
theorem p_tail_of : Pr[i_tail_of]? = some f_tail_of := rfl
theorem p_head_of : Pr[i_head_of]? = some f_head_of := rfl
theorem p_outs_of : Pr[i_outs_of]? = some f_outs_of := rfl
theorem p_turned_roads : Pr[i_turned_roads]? = some f_turned_roads := rfl
theorem p_ways_from : Pr[i_ways_from]? = some f_ways_from := rfl
theorem p_too_many : Pr[i_too_many]? = some f_too_many := rfl
theorem p_nearest_turning : Pr[i_nearest_turning]? = some f_nearest_turning := rfl
theorem p_outs_paper : Pr[i_outs_paper]? = some f_outs_paper := rfl
theorem p_turning_with : Pr[i_turning_with]? = some f_turning_with := rfl
theorem p_with_one : Pr[i_with_one]? = some f_with_one := rfl
theorem p_outs_rows : Pr[i_outs_rows]? = some f_outs_rows := rfl
theorem p_zone_forests : Pr[i_zone_forests]? = some f_zone_forests := rfl
theorem p_with_added : Pr[i_with_added]? = some f_with_added := rfl
theorem p_shut_outs : Pr[i_shut_outs]? = some f_shut_outs := rfl
theorem p_told_forest : Pr[i_told_forest]? = some f_told_forest := rfl
theorem p__law_source : Pr[i__law_source]? = some f__law_source := rfl
theorem p__law_pick : Pr[i__law_pick]? = some f__law_pick := rfl
theorem p__law_of : Pr[i__law_of]? = some f__law_of := rfl
theorem p__law_mixed : Pr[i__law_mixed]? = some f__law_mixed := rfl
theorem p__law_frame : Pr[i__law_frame]? = some f__law_frame := rfl
theorem p__law_put : Pr[i__law_put]? = some f__law_put := rfl
theorem p__law_outs : Pr[i__law_outs]? = some f__law_outs := rfl
theorem p__law_out : Pr[i__law_out]? = some f__law_out := rfl
theorem p__law_shut : Pr[i__law_shut]? = some f__law_shut := rfl
theorem p__law_told_forest : Pr[i__law_told_forest]? = some f__law_told_forest := rfl
theorem p__law_told : Pr[i__law_told]? = some f__law_told := rfl
theorem p_law : Pr[i_law]? = some f_law := rfl
def d0 : He.DefD := ⟨("heads_by", none), "heads_by", "heads_by", defArgs (top 5), defBody (top 5), defScope (top 5), [], []⟩
theorem c0 : chSs ⟨defScope (top 5), (defScope (top 5)).names, n0, fns, gi, exc⟩ (defBody (top 5)) f_heads_by.body = true := by decide +kernel
theorem s0 : FnScope n0 ["frame", "lot"] (defScope (top 5)) := ⟨rfl, rfl, rfl, by decide +kernel, rfl, by decide +kernel, by decide +kernel⟩
def d1 : He.DefD := ⟨("pieces_by", none), "pieces_by", "pieces_by", defArgs (top 6), defBody (top 6), defScope (top 6), [], []⟩
theorem c1 : chSs ⟨defScope (top 6), (defScope (top 6)).names, n1, fns, gi, exc⟩ (defBody (top 6)) f_pieces_by.body = true := by decide +kernel
theorem s1 : FnScope n1 ["frame", "lot"] (defScope (top 6)) := ⟨rfl, rfl, rfl, by decide +kernel, rfl, by decide +kernel, by decide +kernel⟩
def d2 : He.DefD := ⟨("piece_count", none), "piece_count", "piece_count", defArgs (top 7), defBody (top 7), defScope (top 7), [], []⟩
theorem c2 : chSs ⟨defScope (top 7), (defScope (top 7)).names, n2, fns, gi, exc⟩ (defBody (top 7)) f_piece_count.body = true := by decide +kernel
theorem s2 : FnScope n2 ["frame", "lot"] (defScope (top 7)) := ⟨rfl, rfl, rfl, by decide +kernel, rfl, by decide +kernel, by decide +kernel⟩
def d3 : He.DefD := ⟨("frame_out", none), "frame_out", "frame_out", defArgs (top 8), defBody (top 8), defScope (top 8), [], []⟩
theorem c3 : chSs ⟨defScope (top 8), (defScope (top 8)).names, n3, fns, gi, exc⟩ (defBody (top 8)) f_frame_out.body = true := by decide +kernel
theorem s3 : FnScope n3 ["frame", "road"] (defScope (top 8)) := ⟨rfl, rfl, rfl, by decide +kernel, rfl, by decide +kernel, by decide +kernel⟩
def d4 : He.DefD := ⟨("frame_shut", none), "frame_shut", "frame_shut", defArgs (top 9), defBody (top 9), defScope (top 9), [], []⟩
theorem c4 : chSs ⟨defScope (top 9), (defScope (top 9)).names, n4, fns, gi, exc⟩ (defBody (top 9)) f_frame_shut.body = true := by decide +kernel
theorem s4 : FnScope n4 ["frame", "road"] (defScope (top 9)) := ⟨rfl, rfl, rfl, by decide +kernel, rfl, by decide +kernel, by decide +kernel⟩
def d5 : He.DefD := ⟨("tail_of", none), "tail_of", "tail_of", defArgs (top 11), defBody (top 11), defScope (top 11), [], []⟩
theorem c5 : chSs ⟨defScope (top 11), (defScope (top 11)).names, n5, fns, gi, exc⟩ (defBody (top 11)) f_tail_of.body = true := by decide +kernel
theorem s5 : FnScope n5 ["frame", "turning", "road"] (defScope (top 11)) := ⟨rfl, rfl, rfl, by decide +kernel, rfl, by decide +kernel, by decide +kernel⟩
def d6 : He.DefD := ⟨("head_of", none), "head_of", "head_of", defArgs (top 12), defBody (top 12), defScope (top 12), [], []⟩
theorem c6 : chSs ⟨defScope (top 12), (defScope (top 12)).names, n6, fns, gi, exc⟩ (defBody (top 12)) f_head_of.body = true := by decide +kernel
theorem s6 : FnScope n6 ["frame", "turning", "road"] (defScope (top 12)) := ⟨rfl, rfl, rfl, by decide +kernel, rfl, by decide +kernel, by decide +kernel⟩
def d7 : He.DefD := ⟨("outs_of", none), "outs_of", "outs_of", defArgs (top 13), defBody (top 13), defScope (top 13), [], []⟩
theorem c7 : chSs ⟨defScope (top 13), (defScope (top 13)).names, n7, fns, gi, exc⟩ (defBody (top 13)) f_outs_of.body = true := by decide +kernel
theorem s7 : FnScope n7 ["frame", "turning"] (defScope (top 13)) := ⟨rfl, rfl, rfl, by decide +kernel, rfl, by decide +kernel, by decide +kernel⟩
def d8 : He.DefD := ⟨("turned_roads", none), "turned_roads", "turned_roads", defArgs (top 14), defBody (top 14), defScope (top 14), [], []⟩
theorem c8 : chSs ⟨defScope (top 14), (defScope (top 14)).names, n8, fns, gi, exc⟩ (defBody (top 14)) f_turned_roads.body = true := by decide +kernel
theorem s8 : FnScope n8 ["turning", "roads"] (defScope (top 14)) := ⟨rfl, rfl, rfl, by decide +kernel, rfl, by decide +kernel, by decide +kernel⟩
def d9 : He.DefD := ⟨("ways_from", none), "ways_from", "ways_from", defArgs (top 16), defBody (top 16), defScope (top 16), [], []⟩
theorem c9 : chSs ⟨defScope (top 16), (defScope (top 16)).names, n9, fns, gi, exc⟩ (defBody (top 16)) f_ways_from.body = true := by decide +kernel
theorem s9 : FnScope n9 ["frame", "turning", "crossing"] (defScope (top 16)) := ⟨rfl, rfl, rfl, by decide +kernel, rfl, by decide +kernel, by decide +kernel⟩
def d10 : He.DefD := ⟨("too_many", none), "too_many", "too_many", defArgs (top 17), defBody (top 17), defScope (top 17), [], []⟩
theorem c10 : chSs ⟨defScope (top 17), (defScope (top 17)).names, n10, fns, gi, exc⟩ (defBody (top 17)) f_too_many.body = true := by decide +kernel
theorem s10 : FnScope n10 ["outs", "told"] (defScope (top 17)) := ⟨rfl, rfl, rfl, by decide +kernel, rfl, by decide +kernel, by decide +kernel⟩
def d11 : He.DefD := ⟨("nearest_turning", none), "nearest_turning", "nearest_turning", defArgs (top 18), defBody (top 18), defScope (top 18), [], []⟩
theorem c11 : chSs ⟨defScope (top 18), (defScope (top 18)).names, n11, fns, gi, exc⟩ (defBody (top 18)) f_nearest_turning.body = true := by decide +kernel
theorem s11 : FnScope n11 ["frame", "told"] (defScope (top 18)) := ⟨rfl, rfl, rfl, by decide +kernel, rfl, by decide +kernel, by decide +kernel⟩
def d12 : He.DefD := ⟨("outs_paper", none), "outs_paper", "outs_paper", defArgs (top 19), defBody (top 19), defScope (top 19), [], []⟩
theorem c12 : chSs ⟨defScope (top 19), (defScope (top 19)).names, n12, fns, gi, exc⟩ (defBody (top 19)) f_outs_paper.body = true := by decide +kernel
theorem s12 : FnScope n12 ["frame", "outs"] (defScope (top 19)) := ⟨rfl, rfl, rfl, by decide +kernel, rfl, by decide +kernel, by decide +kernel⟩
def d13 : He.DefD := ⟨("turning_with", none), "turning_with", "turning_with", defArgs (top 20), defBody (top 20), defScope (top 20), [], []⟩
theorem c13 : chSs ⟨defScope (top 20), (defScope (top 20)).names, n13, fns, gi, exc⟩ (defBody (top 20)) f_turning_with.body = true := by decide +kernel
theorem s13 : FnScope n13 ["frame", "outs"] (defScope (top 20)) := ⟨rfl, rfl, rfl, by decide +kernel, rfl, by decide +kernel, by decide +kernel⟩
def d14 : He.DefD := ⟨("with_one", none), "with_one", "with_one", defArgs (top 23), defBody (top 23), defScope (top 23), [], []⟩
theorem c14 : chSs ⟨defScope (top 23), (defScope (top 23)).names, n14, fns, gi, exc⟩ (defBody (top 23)) f_with_one.body = true := by decide +kernel
theorem s14 : FnScope n14 ["outs", "crossing", "more"] (defScope (top 23)) := ⟨rfl, rfl, rfl, by decide +kernel, rfl, by decide +kernel, by decide +kernel⟩
def d15 : He.DefD := ⟨("outs_rows", none), "outs_rows", "outs_rows", defArgs (top 24), defBody (top 24), defScope (top 24), [], []⟩
theorem c15 : chSs ⟨defScope (top 24), (defScope (top 24)).names, n15, fns, gi, exc⟩ (defBody (top 24)) f_outs_rows.body = true := by decide +kernel
theorem s15 : FnScope n15 ["frame"] (defScope (top 24)) := ⟨rfl, rfl, rfl, by decide +kernel, rfl, by decide +kernel, by decide +kernel⟩
def d16 : He.DefD := ⟨("zone_forests", none), "zone_forests", "zone_forests", defArgs (top 26), defBody (top 26), defScope (top 26), [], []⟩
theorem c16 : chSs ⟨defScope (top 26), (defScope (top 26)).names, n16, fns, gi, exc⟩ (defBody (top 26)) f_zone_forests.body = true := by decide +kernel
theorem s16 : FnScope n16 ["frame"] (defScope (top 26)) := ⟨rfl, rfl, rfl, by decide +kernel, rfl, by decide +kernel, by decide +kernel⟩
def d17 : He.DefD := ⟨("with_added", none), "with_added", "with_added", defArgs (top 27), defBody (top 27), defScope (top 27), [], []⟩
theorem c17 : chSs ⟨defScope (top 27), (defScope (top 27)).names, n17, fns, gi, exc⟩ (defBody (top 27)) f_with_added.body = true := by decide +kernel
theorem s17 : FnScope n17 ["outs", "crossing", "number"] (defScope (top 27)) := ⟨rfl, rfl, rfl, by decide +kernel, rfl, by decide +kernel, by decide +kernel⟩
def d18 : He.DefD := ⟨("shut_outs", none), "shut_outs", "shut_outs", defArgs (top 28), defBody (top 28), defScope (top 28), [], []⟩
theorem c18 : chSs ⟨defScope (top 28), (defScope (top 28)).names, n18, fns, gi, exc⟩ (defBody (top 28)) f_shut_outs.body = true := by decide +kernel
theorem s18 : FnScope n18 ["frame", "road", "outs"] (defScope (top 28)) := ⟨rfl, rfl, rfl, by decide +kernel, rfl, by decide +kernel, by decide +kernel⟩
def d19 : He.DefD := ⟨("told_forest", none), "told_forest", "told_forest", defArgs (top 29), defBody (top 29), defScope (top 29), [], []⟩
theorem c19 : chSs ⟨defScope (top 29), (defScope (top 29)).names, n19, fns, gi, exc⟩ (defBody (top 29)) f_told_forest.body = true := by decide +kernel
theorem s19 : FnScope n19 ["frame", "outs"] (defScope (top 29)) := ⟨rfl, rfl, rfl, by decide +kernel, rfl, by decide +kernel, by decide +kernel⟩
def d20 : He.DefD := ⟨("_law_source", none), "_law_source", "_law_source", defArgs (top 31), defBody (top 31), defScope (top 31), [], []⟩
theorem c20 : chSs ⟨defScope (top 31), (defScope (top 31)).names, n20, fns, gi, exc⟩ (defBody (top 31)) f__law_source.body = true := by decide +kernel
theorem s20 : FnScope n20 ["script"] (defScope (top 31)) := ⟨rfl, rfl, rfl, by decide +kernel, rfl, by decide +kernel, by decide +kernel⟩
def d21 : He.DefD := ⟨("_law_pick", none), "_law_pick", "_law_pick", defArgs (top 32), defBody (top 32), defScope (top 32), [], []⟩
theorem c21 : chSs ⟨defScope (top 32), (defScope (top 32)).names, n21, fns, gi, exc⟩ (defBody (top 32)) f__law_pick.body = true := by decide +kernel
theorem s21 : FnScope n21 ["source", "many"] (defScope (top 32)) := ⟨rfl, rfl, rfl, by decide +kernel, rfl, by decide +kernel, by decide +kernel⟩
def d22 : He.DefD := ⟨("_law_of", none), "_law_of", "_law_of", defArgs (top 33), defBody (top 33), defScope (top 33), [], []⟩
theorem c22 : chSs ⟨defScope (top 33), (defScope (top 33)).names, n22, fns, gi, exc⟩ (defBody (top 33)) f__law_of.body = true := by decide +kernel
theorem s22 : FnScope n22 ["source", "some"] (defScope (top 33)) := ⟨rfl, rfl, rfl, by decide +kernel, rfl, by decide +kernel, by decide +kernel⟩
def d23 : He.DefD := ⟨("_law_mixed", none), "_law_mixed", "_law_mixed", defArgs (top 34), defBody (top 34), defScope (top 34), [], []⟩
theorem c23 : chSs ⟨defScope (top 34), (defScope (top 34)).names, n23, fns, gi, exc⟩ (defBody (top 34)) f__law_mixed.body = true := by decide +kernel
theorem s23 : FnScope n23 ["source", "some"] (defScope (top 34)) := ⟨rfl, rfl, rfl, by decide +kernel, rfl, by decide +kernel, by decide +kernel⟩
def d24 : He.DefD := ⟨("_law_frame", none), "_law_frame", "_law_frame", defArgs (top 35), defBody (top 35), defScope (top 35), [], []⟩
theorem c24 : chSs ⟨defScope (top 35), (defScope (top 35)).names, n24, fns, gi, exc⟩ (defBody (top 35)) f__law_frame.body = true := by decide +kernel
theorem s24 : FnScope n24 ["source", "crossings", "roads"] (defScope (top 35)) := ⟨rfl, rfl, rfl, by decide +kernel, rfl, by decide +kernel, by decide +kernel⟩
def d25 : He.DefD := ⟨("_law_put", none), "_law_put", "_law_put", defArgs (top 36), defBody (top 36), defScope (top 36), [], []⟩
theorem c25 : chSs ⟨defScope (top 36), (defScope (top 36)).names, n25, fns, gi, exc⟩ (defBody (top 36)) f__law_put.body = true := by decide +kernel
theorem s25 : FnScope n25 ["row", "c", "number"] (defScope (top 36)) := ⟨rfl, rfl, rfl, by decide +kernel, rfl, by decide +kernel, by decide +kernel⟩
def d26 : He.DefD := ⟨("_law_outs", none), "_law_outs", "_law_outs", defArgs (top 37), defBody (top 37), defScope (top 37), [], []⟩
theorem c26 : chSs ⟨defScope (top 37), (defScope (top 37)).names, n26, fns, gi, exc⟩ (defBody (top 37)) f__law_outs.body = true := by decide +kernel
theorem s26 : FnScope n26 ["frame"] (defScope (top 37)) := ⟨rfl, rfl, rfl, by decide +kernel, rfl, by decide +kernel, by decide +kernel⟩
def d27 : He.DefD := ⟨("_law_out", none), "_law_out", "_law_out", defArgs (top 38), defBody (top 38), defScope (top 38), [], []⟩
theorem c27 : chSs ⟨defScope (top 38), (defScope (top 38)).names, n27, fns, gi, exc⟩ (defBody (top 38)) f__law_out.body = true := by decide +kernel
theorem s27 : FnScope n27 ["frame", "road"] (defScope (top 38)) := ⟨rfl, rfl, rfl, by decide +kernel, rfl, by decide +kernel, by decide +kernel⟩
def d28 : He.DefD := ⟨("_law_shut", none), "_law_shut", "_law_shut", defArgs (top 39), defBody (top 39), defScope (top 39), [], []⟩
theorem c28 : chSs ⟨defScope (top 39), (defScope (top 39)).names, n28, fns, gi, exc⟩ (defBody (top 39)) f__law_shut.body = true := by decide +kernel
theorem s28 : FnScope n28 ["frame", "road"] (defScope (top 39)) := ⟨rfl, rfl, rfl, by decide +kernel, rfl, by decide +kernel, by decide +kernel⟩
def d29 : He.DefD := ⟨("_law_told_forest", none), "_law_told_forest", "_law_told_forest", defArgs (top 40), defBody (top 40), defScope (top 40), [], []⟩
theorem c29 : chSs ⟨defScope (top 40), (defScope (top 40)).names, n29, fns, gi, exc⟩ (defBody (top 40)) f__law_told_forest.body = true := by decide +kernel
theorem s29 : FnScope n29 ["frame", "outs"] (defScope (top 40)) := ⟨rfl, rfl, rfl, by decide +kernel, rfl, by decide +kernel, by decide +kernel⟩
def d30 : He.DefD := ⟨("_law_told", none), "_law_told", "_law_told", defArgs (top 41), defBody (top 41), defScope (top 41), [], []⟩
theorem c30 : chSs ⟨defScope (top 41), (defScope (top 41)).names, n30, fns, gi, exc⟩ (defBody (top 41)) f__law_told.body = true := by decide +kernel
theorem s30 : FnScope n30 ["frame", "outs"] (defScope (top 41)) := ⟨rfl, rfl, rfl, by decide +kernel, rfl, by decide +kernel, by decide +kernel⟩
def d31 : He.DefD := ⟨("law", none), "law", "law", defArgs (top 42), defBody (top 42), defScope (top 42), [], []⟩
theorem c31 : chSs ⟨defScope (top 42), (defScope (top 42)).names, n31, fns, gi, exc⟩ (defBody (top 42)) f_law.body = true := by decide +kernel
theorem s31 : FnScope n31 ["script"] (defScope (top 42)) := ⟨rfl, rfl, rfl, by decide +kernel, rfl, by decide +kernel, by decide +kernel⟩
def fn : List He.DefD := [d0, d1, d2, d3, d4, d5, d6, d7, d8, d9, d10, d11, d12, d13, d14, d15, d16, d17, d18, d19, d20, d21, d22, d23, d24] ++ [d25, d26, d27, d28, d29, d30, d31]
def fa : List He.Fa := ((fns.map He.Fa.glo ++ bltNames.map He.Fa.free) ++ gi.map fun p => He.Fa.int p.1 p.2) ++ exc.toList.flatMap fun x => [He.Fa.glo x, He.Fa.exc x, He.Fa.exm x x true]
theorem in0 {K : PySem.W.Frag} {h : Heap} {mg : Str → Option Value} (X : K.In h) (G : h.Ns mainGlobals mg) (c : He.SaysD fa fn K) : ∃ a fd, DefIn K mg fns gi exc Pr 0 "heads_by" a fd ["frame", "lot"] := by
  obtain ⟨fd, F⟩ := c.def_ 0 (d := d0) rfl
  exact ⟨_, fd, ⟨He.glo_ok X G (c.fact 0 (f := .glo "heads_by") rfl), F.bindsN fun _ _ _ _ _ _ us hl => match us, hl with | [_, _], _ => rfl, ⟨_, _, _, _, _, n0, f_heads_by, F, s0, rfl, rfl, rfl, c0⟩⟩⟩
theorem in1 {K : PySem.W.Frag} {h : Heap} {mg : Str → Option Value} (X : K.In h) (G : h.Ns mainGlobals mg) (c : He.SaysD fa fn K) : ∃ a fd, DefIn K mg fns gi exc Pr 1 "pieces_by" a fd ["frame", "lot"] := by
  obtain ⟨fd, F⟩ := c.def_ 1 (d := d1) rfl
  exact ⟨_, fd, ⟨He.glo_ok X G (c.fact 1 (f := .glo "pieces_by") rfl), F.bindsN fun _ _ _ _ _ _ us hl => match us, hl with | [_, _], _ => rfl, ⟨_, _, _, _, _, n1, f_pieces_by, F, s1, rfl, rfl, rfl, c1⟩⟩⟩
theorem in2 {K : PySem.W.Frag} {h : Heap} {mg : Str → Option Value} (X : K.In h) (G : h.Ns mainGlobals mg) (c : He.SaysD fa fn K) : ∃ a fd, DefIn K mg fns gi exc Pr 2 "piece_count" a fd ["frame", "lot"] := by
  obtain ⟨fd, F⟩ := c.def_ 2 (d := d2) rfl
  exact ⟨_, fd, ⟨He.glo_ok X G (c.fact 2 (f := .glo "piece_count") rfl), F.bindsN fun _ _ _ _ _ _ us hl => match us, hl with | [_, _], _ => rfl, ⟨_, _, _, _, _, n2, f_piece_count, F, s2, rfl, rfl, rfl, c2⟩⟩⟩
theorem in3 {K : PySem.W.Frag} {h : Heap} {mg : Str → Option Value} (X : K.In h) (G : h.Ns mainGlobals mg) (c : He.SaysD fa fn K) : ∃ a fd, DefIn K mg fns gi exc Pr 3 "frame_out" a fd ["frame", "road"] := by
  obtain ⟨fd, F⟩ := c.def_ 3 (d := d3) rfl
  exact ⟨_, fd, ⟨He.glo_ok X G (c.fact 3 (f := .glo "frame_out") rfl), F.bindsN fun _ _ _ _ _ _ us hl => match us, hl with | [_, _], _ => rfl, ⟨_, _, _, _, _, n3, f_frame_out, F, s3, rfl, rfl, rfl, c3⟩⟩⟩
theorem in4 {K : PySem.W.Frag} {h : Heap} {mg : Str → Option Value} (X : K.In h) (G : h.Ns mainGlobals mg) (c : He.SaysD fa fn K) : ∃ a fd, DefIn K mg fns gi exc Pr 4 "frame_shut" a fd ["frame", "road"] := by
  obtain ⟨fd, F⟩ := c.def_ 4 (d := d4) rfl
  exact ⟨_, fd, ⟨He.glo_ok X G (c.fact 4 (f := .glo "frame_shut") rfl), F.bindsN fun _ _ _ _ _ _ us hl => match us, hl with | [_, _], _ => rfl, ⟨_, _, _, _, _, n4, f_frame_shut, F, s4, rfl, rfl, rfl, c4⟩⟩⟩
theorem in5 {K : PySem.W.Frag} {h : Heap} {mg : Str → Option Value} (X : K.In h) (G : h.Ns mainGlobals mg) (c : He.SaysD fa fn K) : ∃ a fd, DefIn K mg fns gi exc Pr 5 "tail_of" a fd ["frame", "turning", "road"] := by
  obtain ⟨fd, F⟩ := c.def_ 5 (d := d5) rfl
  exact ⟨_, fd, ⟨He.glo_ok X G (c.fact 5 (f := .glo "tail_of") rfl), F.bindsN fun _ _ _ _ _ _ us hl => match us, hl with | [_, _, _], _ => rfl, ⟨_, _, _, _, _, n5, f_tail_of, F, s5, rfl, rfl, rfl, c5⟩⟩⟩
theorem in6 {K : PySem.W.Frag} {h : Heap} {mg : Str → Option Value} (X : K.In h) (G : h.Ns mainGlobals mg) (c : He.SaysD fa fn K) : ∃ a fd, DefIn K mg fns gi exc Pr 6 "head_of" a fd ["frame", "turning", "road"] := by
  obtain ⟨fd, F⟩ := c.def_ 6 (d := d6) rfl
  exact ⟨_, fd, ⟨He.glo_ok X G (c.fact 6 (f := .glo "head_of") rfl), F.bindsN fun _ _ _ _ _ _ us hl => match us, hl with | [_, _, _], _ => rfl, ⟨_, _, _, _, _, n6, f_head_of, F, s6, rfl, rfl, rfl, c6⟩⟩⟩
theorem in7 {K : PySem.W.Frag} {h : Heap} {mg : Str → Option Value} (X : K.In h) (G : h.Ns mainGlobals mg) (c : He.SaysD fa fn K) : ∃ a fd, DefIn K mg fns gi exc Pr 7 "outs_of" a fd ["frame", "turning"] := by
  obtain ⟨fd, F⟩ := c.def_ 7 (d := d7) rfl
  exact ⟨_, fd, ⟨He.glo_ok X G (c.fact 7 (f := .glo "outs_of") rfl), F.bindsN fun _ _ _ _ _ _ us hl => match us, hl with | [_, _], _ => rfl, ⟨_, _, _, _, _, n7, f_outs_of, F, s7, rfl, rfl, rfl, c7⟩⟩⟩
theorem in8 {K : PySem.W.Frag} {h : Heap} {mg : Str → Option Value} (X : K.In h) (G : h.Ns mainGlobals mg) (c : He.SaysD fa fn K) : ∃ a fd, DefIn K mg fns gi exc Pr 8 "turned_roads" a fd ["turning", "roads"] := by
  obtain ⟨fd, F⟩ := c.def_ 8 (d := d8) rfl
  exact ⟨_, fd, ⟨He.glo_ok X G (c.fact 8 (f := .glo "turned_roads") rfl), F.bindsN fun _ _ _ _ _ _ us hl => match us, hl with | [_, _], _ => rfl, ⟨_, _, _, _, _, n8, f_turned_roads, F, s8, rfl, rfl, rfl, c8⟩⟩⟩
theorem in9 {K : PySem.W.Frag} {h : Heap} {mg : Str → Option Value} (X : K.In h) (G : h.Ns mainGlobals mg) (c : He.SaysD fa fn K) : ∃ a fd, DefIn K mg fns gi exc Pr 9 "ways_from" a fd ["frame", "turning", "crossing"] := by
  obtain ⟨fd, F⟩ := c.def_ 9 (d := d9) rfl
  exact ⟨_, fd, ⟨He.glo_ok X G (c.fact 9 (f := .glo "ways_from") rfl), F.bindsN fun _ _ _ _ _ _ us hl => match us, hl with | [_, _, _], _ => rfl, ⟨_, _, _, _, _, n9, f_ways_from, F, s9, rfl, rfl, rfl, c9⟩⟩⟩
theorem in10 {K : PySem.W.Frag} {h : Heap} {mg : Str → Option Value} (X : K.In h) (G : h.Ns mainGlobals mg) (c : He.SaysD fa fn K) : ∃ a fd, DefIn K mg fns gi exc Pr 10 "too_many" a fd ["outs", "told"] := by
  obtain ⟨fd, F⟩ := c.def_ 10 (d := d10) rfl
  exact ⟨_, fd, ⟨He.glo_ok X G (c.fact 10 (f := .glo "too_many") rfl), F.bindsN fun _ _ _ _ _ _ us hl => match us, hl with | [_, _], _ => rfl, ⟨_, _, _, _, _, n10, f_too_many, F, s10, rfl, rfl, rfl, c10⟩⟩⟩
theorem in11 {K : PySem.W.Frag} {h : Heap} {mg : Str → Option Value} (X : K.In h) (G : h.Ns mainGlobals mg) (c : He.SaysD fa fn K) : ∃ a fd, DefIn K mg fns gi exc Pr 11 "nearest_turning" a fd ["frame", "told"] := by
  obtain ⟨fd, F⟩ := c.def_ 11 (d := d11) rfl
  exact ⟨_, fd, ⟨He.glo_ok X G (c.fact 11 (f := .glo "nearest_turning") rfl), F.bindsN fun _ _ _ _ _ _ us hl => match us, hl with | [_, _], _ => rfl, ⟨_, _, _, _, _, n11, f_nearest_turning, F, s11, rfl, rfl, rfl, c11⟩⟩⟩
theorem in12 {K : PySem.W.Frag} {h : Heap} {mg : Str → Option Value} (X : K.In h) (G : h.Ns mainGlobals mg) (c : He.SaysD fa fn K) : ∃ a fd, DefIn K mg fns gi exc Pr 12 "outs_paper" a fd ["frame", "outs"] := by
  obtain ⟨fd, F⟩ := c.def_ 12 (d := d12) rfl
  exact ⟨_, fd, ⟨He.glo_ok X G (c.fact 12 (f := .glo "outs_paper") rfl), F.bindsN fun _ _ _ _ _ _ us hl => match us, hl with | [_, _], _ => rfl, ⟨_, _, _, _, _, n12, f_outs_paper, F, s12, rfl, rfl, rfl, c12⟩⟩⟩
theorem in13 {K : PySem.W.Frag} {h : Heap} {mg : Str → Option Value} (X : K.In h) (G : h.Ns mainGlobals mg) (c : He.SaysD fa fn K) : ∃ a fd, DefIn K mg fns gi exc Pr 13 "turning_with" a fd ["frame", "outs"] := by
  obtain ⟨fd, F⟩ := c.def_ 13 (d := d13) rfl
  exact ⟨_, fd, ⟨He.glo_ok X G (c.fact 13 (f := .glo "turning_with") rfl), F.bindsN fun _ _ _ _ _ _ us hl => match us, hl with | [_, _], _ => rfl, ⟨_, _, _, _, _, n13, f_turning_with, F, s13, rfl, rfl, rfl, c13⟩⟩⟩
theorem in14 {K : PySem.W.Frag} {h : Heap} {mg : Str → Option Value} (X : K.In h) (G : h.Ns mainGlobals mg) (c : He.SaysD fa fn K) : ∃ a fd, DefIn K mg fns gi exc Pr 14 "with_one" a fd ["outs", "crossing", "more"] := by
  obtain ⟨fd, F⟩ := c.def_ 14 (d := d14) rfl
  exact ⟨_, fd, ⟨He.glo_ok X G (c.fact 14 (f := .glo "with_one") rfl), F.bindsN fun _ _ _ _ _ _ us hl => match us, hl with | [_, _, _], _ => rfl, ⟨_, _, _, _, _, n14, f_with_one, F, s14, rfl, rfl, rfl, c14⟩⟩⟩
theorem in15 {K : PySem.W.Frag} {h : Heap} {mg : Str → Option Value} (X : K.In h) (G : h.Ns mainGlobals mg) (c : He.SaysD fa fn K) : ∃ a fd, DefIn K mg fns gi exc Pr 15 "outs_rows" a fd ["frame"] := by
  obtain ⟨fd, F⟩ := c.def_ 15 (d := d15) rfl
  exact ⟨_, fd, ⟨He.glo_ok X G (c.fact 15 (f := .glo "outs_rows") rfl), F.bindsN fun _ _ _ _ _ _ us hl => match us, hl with | [_], _ => rfl, ⟨_, _, _, _, _, n15, f_outs_rows, F, s15, rfl, rfl, rfl, c15⟩⟩⟩
theorem in16 {K : PySem.W.Frag} {h : Heap} {mg : Str → Option Value} (X : K.In h) (G : h.Ns mainGlobals mg) (c : He.SaysD fa fn K) : ∃ a fd, DefIn K mg fns gi exc Pr 16 "zone_forests" a fd ["frame"] := by
  obtain ⟨fd, F⟩ := c.def_ 16 (d := d16) rfl
  exact ⟨_, fd, ⟨He.glo_ok X G (c.fact 16 (f := .glo "zone_forests") rfl), F.bindsN fun _ _ _ _ _ _ us hl => match us, hl with | [_], _ => rfl, ⟨_, _, _, _, _, n16, f_zone_forests, F, s16, rfl, rfl, rfl, c16⟩⟩⟩
theorem in17 {K : PySem.W.Frag} {h : Heap} {mg : Str → Option Value} (X : K.In h) (G : h.Ns mainGlobals mg) (c : He.SaysD fa fn K) : ∃ a fd, DefIn K mg fns gi exc Pr 17 "with_added" a fd ["outs", "crossing", "number"] := by
  obtain ⟨fd, F⟩ := c.def_ 17 (d := d17) rfl
  exact ⟨_, fd, ⟨He.glo_ok X G (c.fact 17 (f := .glo "with_added") rfl), F.bindsN fun _ _ _ _ _ _ us hl => match us, hl with | [_, _, _], _ => rfl, ⟨_, _, _, _, _, n17, f_with_added, F, s17, rfl, rfl, rfl, c17⟩⟩⟩
theorem in18 {K : PySem.W.Frag} {h : Heap} {mg : Str → Option Value} (X : K.In h) (G : h.Ns mainGlobals mg) (c : He.SaysD fa fn K) : ∃ a fd, DefIn K mg fns gi exc Pr 18 "shut_outs" a fd ["frame", "road", "outs"] := by
  obtain ⟨fd, F⟩ := c.def_ 18 (d := d18) rfl
  exact ⟨_, fd, ⟨He.glo_ok X G (c.fact 18 (f := .glo "shut_outs") rfl), F.bindsN fun _ _ _ _ _ _ us hl => match us, hl with | [_, _, _], _ => rfl, ⟨_, _, _, _, _, n18, f_shut_outs, F, s18, rfl, rfl, rfl, c18⟩⟩⟩
theorem in19 {K : PySem.W.Frag} {h : Heap} {mg : Str → Option Value} (X : K.In h) (G : h.Ns mainGlobals mg) (c : He.SaysD fa fn K) : ∃ a fd, DefIn K mg fns gi exc Pr 19 "told_forest" a fd ["frame", "outs"] := by
  obtain ⟨fd, F⟩ := c.def_ 19 (d := d19) rfl
  exact ⟨_, fd, ⟨He.glo_ok X G (c.fact 19 (f := .glo "told_forest") rfl), F.bindsN fun _ _ _ _ _ _ us hl => match us, hl with | [_, _], _ => rfl, ⟨_, _, _, _, _, n19, f_told_forest, F, s19, rfl, rfl, rfl, c19⟩⟩⟩
theorem in20 {K : PySem.W.Frag} {h : Heap} {mg : Str → Option Value} (X : K.In h) (G : h.Ns mainGlobals mg) (c : He.SaysD fa fn K) : ∃ a fd, DefIn K mg fns gi exc Pr 20 "_law_source" a fd ["script"] := by
  obtain ⟨fd, F⟩ := c.def_ 20 (d := d20) rfl
  exact ⟨_, fd, ⟨He.glo_ok X G (c.fact 20 (f := .glo "_law_source") rfl), F.bindsN fun _ _ _ _ _ _ us hl => match us, hl with | [_], _ => rfl, ⟨_, _, _, _, _, n20, f__law_source, F, s20, rfl, rfl, rfl, c20⟩⟩⟩
theorem in21 {K : PySem.W.Frag} {h : Heap} {mg : Str → Option Value} (X : K.In h) (G : h.Ns mainGlobals mg) (c : He.SaysD fa fn K) : ∃ a fd, DefIn K mg fns gi exc Pr 21 "_law_pick" a fd ["source", "many"] := by
  obtain ⟨fd, F⟩ := c.def_ 21 (d := d21) rfl
  exact ⟨_, fd, ⟨He.glo_ok X G (c.fact 21 (f := .glo "_law_pick") rfl), F.bindsN fun _ _ _ _ _ _ us hl => match us, hl with | [_, _], _ => rfl, ⟨_, _, _, _, _, n21, f__law_pick, F, s21, rfl, rfl, rfl, c21⟩⟩⟩
theorem in22 {K : PySem.W.Frag} {h : Heap} {mg : Str → Option Value} (X : K.In h) (G : h.Ns mainGlobals mg) (c : He.SaysD fa fn K) : ∃ a fd, DefIn K mg fns gi exc Pr 22 "_law_of" a fd ["source", "some"] := by
  obtain ⟨fd, F⟩ := c.def_ 22 (d := d22) rfl
  exact ⟨_, fd, ⟨He.glo_ok X G (c.fact 22 (f := .glo "_law_of") rfl), F.bindsN fun _ _ _ _ _ _ us hl => match us, hl with | [_, _], _ => rfl, ⟨_, _, _, _, _, n22, f__law_of, F, s22, rfl, rfl, rfl, c22⟩⟩⟩
theorem in23 {K : PySem.W.Frag} {h : Heap} {mg : Str → Option Value} (X : K.In h) (G : h.Ns mainGlobals mg) (c : He.SaysD fa fn K) : ∃ a fd, DefIn K mg fns gi exc Pr 23 "_law_mixed" a fd ["source", "some"] := by
  obtain ⟨fd, F⟩ := c.def_ 23 (d := d23) rfl
  exact ⟨_, fd, ⟨He.glo_ok X G (c.fact 23 (f := .glo "_law_mixed") rfl), F.bindsN fun _ _ _ _ _ _ us hl => match us, hl with | [_, _], _ => rfl, ⟨_, _, _, _, _, n23, f__law_mixed, F, s23, rfl, rfl, rfl, c23⟩⟩⟩
theorem in24 {K : PySem.W.Frag} {h : Heap} {mg : Str → Option Value} (X : K.In h) (G : h.Ns mainGlobals mg) (c : He.SaysD fa fn K) : ∃ a fd, DefIn K mg fns gi exc Pr 24 "_law_frame" a fd ["source", "crossings", "roads"] := by
  obtain ⟨fd, F⟩ := c.def_ 24 (d := d24) rfl
  exact ⟨_, fd, ⟨He.glo_ok X G (c.fact 24 (f := .glo "_law_frame") rfl), F.bindsN fun _ _ _ _ _ _ us hl => match us, hl with | [_, _, _], _ => rfl, ⟨_, _, _, _, _, n24, f__law_frame, F, s24, rfl, rfl, rfl, c24⟩⟩⟩
theorem in25 {K : PySem.W.Frag} {h : Heap} {mg : Str → Option Value} (X : K.In h) (G : h.Ns mainGlobals mg) (c : He.SaysD fa fn K) : ∃ a fd, DefIn K mg fns gi exc Pr 25 "_law_put" a fd ["row", "c", "number"] := by
  obtain ⟨fd, F⟩ := c.def_ 25 (d := d25) rfl
  exact ⟨_, fd, ⟨He.glo_ok X G (c.fact 25 (f := .glo "_law_put") rfl), F.bindsN fun _ _ _ _ _ _ us hl => match us, hl with | [_, _, _], _ => rfl, ⟨_, _, _, _, _, n25, f__law_put, F, s25, rfl, rfl, rfl, c25⟩⟩⟩
theorem in26 {K : PySem.W.Frag} {h : Heap} {mg : Str → Option Value} (X : K.In h) (G : h.Ns mainGlobals mg) (c : He.SaysD fa fn K) : ∃ a fd, DefIn K mg fns gi exc Pr 26 "_law_outs" a fd ["frame"] := by
  obtain ⟨fd, F⟩ := c.def_ 26 (d := d26) rfl
  exact ⟨_, fd, ⟨He.glo_ok X G (c.fact 26 (f := .glo "_law_outs") rfl), F.bindsN fun _ _ _ _ _ _ us hl => match us, hl with | [_], _ => rfl, ⟨_, _, _, _, _, n26, f__law_outs, F, s26, rfl, rfl, rfl, c26⟩⟩⟩
theorem in27 {K : PySem.W.Frag} {h : Heap} {mg : Str → Option Value} (X : K.In h) (G : h.Ns mainGlobals mg) (c : He.SaysD fa fn K) : ∃ a fd, DefIn K mg fns gi exc Pr 27 "_law_out" a fd ["frame", "road"] := by
  obtain ⟨fd, F⟩ := c.def_ 27 (d := d27) rfl
  exact ⟨_, fd, ⟨He.glo_ok X G (c.fact 27 (f := .glo "_law_out") rfl), F.bindsN fun _ _ _ _ _ _ us hl => match us, hl with | [_, _], _ => rfl, ⟨_, _, _, _, _, n27, f__law_out, F, s27, rfl, rfl, rfl, c27⟩⟩⟩
theorem in28 {K : PySem.W.Frag} {h : Heap} {mg : Str → Option Value} (X : K.In h) (G : h.Ns mainGlobals mg) (c : He.SaysD fa fn K) : ∃ a fd, DefIn K mg fns gi exc Pr 28 "_law_shut" a fd ["frame", "road"] := by
  obtain ⟨fd, F⟩ := c.def_ 28 (d := d28) rfl
  exact ⟨_, fd, ⟨He.glo_ok X G (c.fact 28 (f := .glo "_law_shut") rfl), F.bindsN fun _ _ _ _ _ _ us hl => match us, hl with | [_, _], _ => rfl, ⟨_, _, _, _, _, n28, f__law_shut, F, s28, rfl, rfl, rfl, c28⟩⟩⟩
theorem in29 {K : PySem.W.Frag} {h : Heap} {mg : Str → Option Value} (X : K.In h) (G : h.Ns mainGlobals mg) (c : He.SaysD fa fn K) : ∃ a fd, DefIn K mg fns gi exc Pr 29 "_law_told_forest" a fd ["frame", "outs"] := by
  obtain ⟨fd, F⟩ := c.def_ 29 (d := d29) rfl
  exact ⟨_, fd, ⟨He.glo_ok X G (c.fact 29 (f := .glo "_law_told_forest") rfl), F.bindsN fun _ _ _ _ _ _ us hl => match us, hl with | [_, _], _ => rfl, ⟨_, _, _, _, _, n29, f__law_told_forest, F, s29, rfl, rfl, rfl, c29⟩⟩⟩
theorem in30 {K : PySem.W.Frag} {h : Heap} {mg : Str → Option Value} (X : K.In h) (G : h.Ns mainGlobals mg) (c : He.SaysD fa fn K) : ∃ a fd, DefIn K mg fns gi exc Pr 30 "_law_told" a fd ["frame", "outs"] := by
  obtain ⟨fd, F⟩ := c.def_ 30 (d := d30) rfl
  exact ⟨_, fd, ⟨He.glo_ok X G (c.fact 30 (f := .glo "_law_told") rfl), F.bindsN fun _ _ _ _ _ _ us hl => match us, hl with | [_, _], _ => rfl, ⟨_, _, _, _, _, n30, f__law_told, F, s30, rfl, rfl, rfl, c30⟩⟩⟩
theorem in31 {K : PySem.W.Frag} {h : Heap} {mg : Str → Option Value} (X : K.In h) (G : h.Ns mainGlobals mg) (c : He.SaysD fa fn K) : ∃ a fd, DefIn K mg fns gi exc Pr 31 "law" a fd ["script"] := by
  obtain ⟨fd, F⟩ := c.def_ 31 (d := d31) rfl
  exact ⟨_, fd, ⟨He.glo_ok X G (c.fact 31 (f := .glo "law") rfl), F.bindsN fun _ _ _ _ _ _ us hl => match us, hl with | [_], _ => rfl, ⟨_, _, _, _, _, n31, f_law, F, s31, rfl, rfl, rfl, c31⟩⟩⟩
theorem ins {K : PySem.W.Frag} {h : Heap} {mg : Str → Option Value} (X : K.In h) (G : h.Ns mainGlobals mg) (c : He.SaysD fa fn K) (f : Nat) (x : Str) (e : fns[f]? = some x) : ∃ a fd ps, DefIn K mg fns gi exc Pr f x a fd ps := by
  match f, e with
  | 0, e => cases e; obtain ⟨a, fd, z⟩ := in0 X G c; exact ⟨a, fd, _, z⟩
  | 1, e => cases e; obtain ⟨a, fd, z⟩ := in1 X G c; exact ⟨a, fd, _, z⟩
  | 2, e => cases e; obtain ⟨a, fd, z⟩ := in2 X G c; exact ⟨a, fd, _, z⟩
  | 3, e => cases e; obtain ⟨a, fd, z⟩ := in3 X G c; exact ⟨a, fd, _, z⟩
  | 4, e => cases e; obtain ⟨a, fd, z⟩ := in4 X G c; exact ⟨a, fd, _, z⟩
  | 5, e => cases e; obtain ⟨a, fd, z⟩ := in5 X G c; exact ⟨a, fd, _, z⟩
  | 6, e => cases e; obtain ⟨a, fd, z⟩ := in6 X G c; exact ⟨a, fd, _, z⟩
  | 7, e => cases e; obtain ⟨a, fd, z⟩ := in7 X G c; exact ⟨a, fd, _, z⟩
  | 8, e => cases e; obtain ⟨a, fd, z⟩ := in8 X G c; exact ⟨a, fd, _, z⟩
  | 9, e => cases e; obtain ⟨a, fd, z⟩ := in9 X G c; exact ⟨a, fd, _, z⟩
  | 10, e => cases e; obtain ⟨a, fd, z⟩ := in10 X G c; exact ⟨a, fd, _, z⟩
  | 11, e => cases e; obtain ⟨a, fd, z⟩ := in11 X G c; exact ⟨a, fd, _, z⟩
  | 12, e => cases e; obtain ⟨a, fd, z⟩ := in12 X G c; exact ⟨a, fd, _, z⟩
  | 13, e => cases e; obtain ⟨a, fd, z⟩ := in13 X G c; exact ⟨a, fd, _, z⟩
  | 14, e => cases e; obtain ⟨a, fd, z⟩ := in14 X G c; exact ⟨a, fd, _, z⟩
  | 15, e => cases e; obtain ⟨a, fd, z⟩ := in15 X G c; exact ⟨a, fd, _, z⟩
  | 16, e => cases e; obtain ⟨a, fd, z⟩ := in16 X G c; exact ⟨a, fd, _, z⟩
  | 17, e => cases e; obtain ⟨a, fd, z⟩ := in17 X G c; exact ⟨a, fd, _, z⟩
  | 18, e => cases e; obtain ⟨a, fd, z⟩ := in18 X G c; exact ⟨a, fd, _, z⟩
  | 19, e => cases e; obtain ⟨a, fd, z⟩ := in19 X G c; exact ⟨a, fd, _, z⟩
  | 20, e => cases e; obtain ⟨a, fd, z⟩ := in20 X G c; exact ⟨a, fd, _, z⟩
  | 21, e => cases e; obtain ⟨a, fd, z⟩ := in21 X G c; exact ⟨a, fd, _, z⟩
  | 22, e => cases e; obtain ⟨a, fd, z⟩ := in22 X G c; exact ⟨a, fd, _, z⟩
  | 23, e => cases e; obtain ⟨a, fd, z⟩ := in23 X G c; exact ⟨a, fd, _, z⟩
  | 24, e => cases e; obtain ⟨a, fd, z⟩ := in24 X G c; exact ⟨a, fd, _, z⟩
  | 25, e => cases e; obtain ⟨a, fd, z⟩ := in25 X G c; exact ⟨a, fd, _, z⟩
  | 26, e => cases e; obtain ⟨a, fd, z⟩ := in26 X G c; exact ⟨a, fd, _, z⟩
  | 27, e => cases e; obtain ⟨a, fd, z⟩ := in27 X G c; exact ⟨a, fd, _, z⟩
  | 28, e => cases e; obtain ⟨a, fd, z⟩ := in28 X G c; exact ⟨a, fd, _, z⟩
  | 29, e => cases e; obtain ⟨a, fd, z⟩ := in29 X G c; exact ⟨a, fd, _, z⟩
  | 30, e => cases e; obtain ⟨a, fd, z⟩ := in30 X G c; exact ⟨a, fd, _, z⟩
  | 31, e => cases e; obtain ⟨a, fd, z⟩ := in31 X G c; exact ⟨a, fd, _, z⟩
  | n + 32, e => simp [fns] at e
theorem blts {K : PySem.W.Frag} {h : Heap} {mg : Str → Option Value} (X : K.In h) (G : h.Ns mainGlobals mg) (c : He.SaysD fa fn K) (x : Str) (hx : x ∈ bltNames) : mg x = none := by
  obtain ⟨i, hi⟩ := List.getElem?_of_mem (List.mem_append_left _ (List.mem_append_left _ (List.mem_append_right (fns.map He.Fa.glo) (List.mem_map.mpr ⟨x, hx, rfl⟩))) : He.Fa.free x ∈ fa)
  exact He.free_ok X G (c.fact i hi)
theorem gis {K : PySem.W.Frag} {h : Heap} {mg : Str → Option Value} (X : K.In h) (G : h.Ns mainGlobals mg) (c : He.SaysD fa fn K) (x : Str) (i : Int) (hx : gi.lookup x = some i) : ∃ t, mg x = some (.int i t) := by
  obtain ⟨j, hj⟩ := List.getElem?_of_mem (List.mem_append_left _ (List.mem_append_right _ (List.mem_map.mpr ⟨(x, i), Vi.lk_mem hx, rfl⟩)) : He.Fa.int x i ∈ fa)
  exact He.int_ok X G (c.fact j hj)
theorem hexc {K : PySem.W.Frag} {h : Heap} {mg : Str → Option Value} (X : K.In h) (G : h.Ns mainGlobals mg) (c : He.SaysD fa fn K) (x : Str) (hx : exc = some x) : ∃ Ca, ExcAt K mg x Ca := by
  have mem : ∀ f ∈ [He.Fa.glo x, He.Fa.exc x, He.Fa.exm x x true], f ∈ fa := fun f hf => List.mem_append_right _ (List.mem_flatMap.mpr ⟨x, by rw [hx]; simp, hf⟩)
  obtain ⟨i1, h1⟩ := List.getElem?_of_mem (mem (He.Fa.glo x) (by simp))
  obtain ⟨i2, h2⟩ := List.getElem?_of_mem (mem (He.Fa.exc x) (by simp))
  obtain ⟨i3, h3⟩ := List.getElem?_of_mem (mem (He.Fa.exm x x true) (by simp))
  obtain ⟨e1, e2, e3, e4⟩ := He.exc_ok (c.fact i2 h2)
  exact ⟨_, He.glo_ok X G (c.fact i1 h1), e1, e2, e3, e4, He.exm_ok (c.fact i3 h3)⟩
abbrev R : PySem.W.OpenRow := PySem.W.OpenLaw.row PySem.Challenge.rw_hightrees_k58_whole_told_forests_of_outs
abbrev hk : PySem.W.Hook := He.hookD 4 fa fn
def ob (s : PySem.W.SharedT) : He.AlD := He.obsDG 4 fa fn (HandSHeadRun.getT s)
theorem ob_eq (s : PySem.W.SharedT) : ob s = hk.obs s.abs := He.obsDG_eq (HandSHeadRun.getT_eq s)
def loose : List Str := (["NetError", "TooGreat", "NotOfIt", "heads_by", "pieces_by", "piece_count", "frame_out", "frame_shut", "tail_of", "head_of", "outs_of", "turned_roads", "ways_from", "too_many", "nearest_turning", "outs_paper", "turning_with", "MOST_ROWS", "with_one", "outs_rows", "zone_forests", "with_added", "shut_outs", "told_forest", "_law_source"] : List Str) ++ (["_law_pick", "_law_of", "_law_mixed", "_law_frame", "_law_put", "_law_outs", "_law_out", "_law_shut", "_law_told_forest", "_law_told"] : List Str)
theorem run (w : World) : HandSHeadRun.RunEq R (PySem.W.view R.prog [42]) hk ob 4000 loose w := by
  intro os
  kernel_rfl
theorem facts {P : Program} {w : World} {K : PySem.W.Frag} {h : Heap} {mg : Str → Option Value} {f : Addr} (lim : Nat) (X : K.In h) (G : h.Ns mainGlobals mg) (hfa : mg ("law" : Str) = some (.ref f)) (c : He.SaysD fa fn K) :
    ∃ fd : FuncData, (∀ (s : Shared) (v : Value), BindsTo s fd ⟨[v], []⟩ [("script", v)]) ∧ ∀ base : Heap, K.In base → base.Ns mainGlobals mg → FnG P w K mg base LV f fd ["script"] (spC K (cfg Pr lim LV) 31) := by
  obtain ⟨a, fd, D⟩ := in31 X G c
  obtain ⟨fd', F⟩ := c.def_ 31 (d := d31) rfl
  have e := hfa.symm.trans D.glo
  cases e
  have e2 := hfa.symm.trans (He.glo_ok X G (c.fact 31 (f := .glo "law") rfl))
  have e3 : f = He.ga K "law" := by cases e2; rfl
  subst e3
  have e4 : fd' = fd := by
    obtain ⟨_, _, _, _, _, _, _, F2, _⟩ := D.ex
    obtain ⟨_, _, _, _, _, _, _, _, _, _, _, l1, _⟩ := F.ex
    obtain ⟨_, _, _, _, _, _, _, _, _, _, _, l2, _⟩ := F2.ex
    have l3 := l1.symm.trans l2
    cases l3
    rfl
  subst e4
  have b := FunD.bindsA (ps := ["script"]) F fun _ _ _ _ _ _ us hl => match us, hl with | [_], _ => rfl
  exact ⟨fd', fun s v => b s [v] rfl, fun base _ _ => (all_defs (blts X G c) (gis X G c) (hexc X G c) (ins X G c) LV 31 "law" _ _ _ D).1⟩

end K58
set_option Elab.async false
set_option linter.all false
set_option maxRecDepth 100000
set_option maxHeartbeats 400000
namespace K58
open PySem PySem.Spec PyProof.Rows L2 Vi
local macro_rules | `(tactic| walk_at "vi step") => `(tactic| repeat (with_reducible first | refine ok_var (by repeat constructor) ?_ | refine ok_name (by repeat constructor) ?_ | refine ok_comp (by repeat constructor) ?_ | refine ok_s1 ?_ | refine at_nx ?_ | refine at_rt ?_ | refine at_ex ?_ | refine ok_set ?_ | refine ok_par ?_ | refine ok_expr ?_ | refine ok_sret ?_ | refine ok_sretN ?_ | refine ok_site ?_ | refine ok_for ?_ | refine ok_while ?_ | refine ok_pass ?_ | refine ok_raise ?_ | refine ok_s0 ?_ | refine ok_cst ?_ | refine ok_tup ?_ | refine ok_lst ?_ | refine ok_bin ?_ | refine ok_neg ?_ | refine ok_not ?_ | refine ok_and ?_ | refine ok_or ?_ | refine ok_and1 ?_ | refine ok_or1 ?_ | refine ok_and2 ?_ | refine ok_or2 ?_ | refine ok_cmp ?_ | refine ok_chain ?_ | refine ok_isN ?_ | refine ok_ite ?_ | refine ok_idx ?_ | refine ok_slice ?_ | refine ok_o0 ?_ | refine ok_o1 ?_ | refine ok_rev ?_ | refine ok_call ?_ | refine ok_blt ?_ | refine ok_lrng ?_ | refine ok_trng ?_ | refine ok_sorted ?_ | refine ok_isa ?_ | refine ok_mt ?_ | refine ok_turn0 ?_ | refine ok_turn1 ?_ | refine ok_new ?_ | refine ok_ndct ?_ | refine ok_k0 ?_ | refine ok_k1 ?_ | refine ok_es0 ?_ | refine ok_es1 ?_ | refine ok_as0 ?_ | refine ok_as1 ?_ | refine ok_as2 ?_ | refine ok_val ?_ | refine ok_rng ?_ | refine ok_rngD ?_ | refine ok_enumT ?_ | refine ok_zip ?_ | refine ok_tt2 ?_ | refine ok_tt3 ?_ | refine ok_ts0 ?_ | refine ok_ts1 ?_ | refine ok_body ?_ | refine ok_sub ?_ | refine ok_evT ?_ | refine en_tup ?_ | refine en_lst ?_ | refine zi_tup ?_ | refine is_int ?_ | refine sq_tup ?_ | refine sq_lst ?_ | refine ok_gint ?_ | refine ok_ndT ?_ | refine ok_ndK ?_ | refine okt_b ?_ | refine op_add ?_ | refine op_sub ?_ | refine op_and ?_ | refine op_lt2 ?_ | refine op_le2 ?_ | refine op_gt2 ?_ | refine op_ge2 ?_ | refine op_eq2 ?_ | refine op_ne2 ?_ | refine op_eqS ?_ | refine op_neS ?_ | refine bl_intb ?_ | refine bl_inti ?_ | refine bl_lenT ?_ | refine bl_lenL ?_ | refine bl_abs ?_ | refine bl_max ?_ | refine bl_min ?_ | refine it_tup ?_ | refine it_lst ?_))
local macro_rules | `(tactic| walk_at "vi step0") => `(tactic| repeat (with_reducible first | refine ok_var (by repeat constructor) ?_ | refine ok_name (by repeat constructor) ?_ | refine ok_comp (by repeat constructor) ?_ | refine ok_s1 ?_ | refine at_nx ?_ | refine at_rt ?_ | refine at_ex ?_ | refine ok_set ?_ | refine ok_par ?_ | refine ok_expr ?_ | refine ok_sret ?_ | refine ok_sretN ?_ | refine ok_site ?_ | refine ok_for ?_ | refine ok_while ?_ | refine ok_pass ?_ | refine ok_raise ?_ | refine ok_s0 ?_ | refine ok_cst ?_ | refine ok_tup ?_ | refine ok_lst ?_ | refine ok_bin ?_ | refine ok_neg ?_ | refine ok_not ?_ | refine ok_and ?_ | refine ok_or ?_ | refine ok_and1 ?_ | refine ok_or1 ?_ | refine ok_and2 ?_ | refine ok_or2 ?_ | refine ok_cmp ?_ | refine ok_chain ?_ | refine ok_isN ?_ | refine ok_ite ?_ | refine ok_idx ?_ | refine ok_slice ?_ | refine ok_o0 ?_ | refine ok_o1 ?_ | refine ok_rev ?_ | refine ok_call ?_ | refine ok_blt ?_ | refine ok_lrng ?_ | refine ok_trng ?_ | refine ok_sorted ?_ | refine ok_isa ?_ | refine ok_mt ?_ | refine ok_turn0 ?_ | refine ok_turn1 ?_ | refine ok_new ?_ | refine ok_ndct ?_ | refine ok_k0 ?_ | refine ok_k1 ?_ | refine ok_es0 ?_ | refine ok_es1 ?_ | refine ok_as0 ?_ | refine ok_as1 ?_ | refine ok_as2 ?_ | refine ok_val ?_ | refine ok_rng ?_ | refine ok_rngD ?_ | refine ok_enumT ?_ | refine ok_zip ?_ | refine ok_tt2 ?_ | refine ok_tt3 ?_ | refine ok_ts0 ?_ | refine ok_ts1 ?_ | refine ok_body ?_ | refine ok_sub ?_ | refine ok_evT ?_ | refine en_tup ?_ | refine en_lst ?_ | refine zi_tup ?_ | refine is_int ?_ | refine sq_tup ?_ | refine sq_lst ?_ | refine ok_gint ?_ | refine ok_ndT ?_ | refine ok_ndK ?_ | refine okt_b ?_))
/-! rows, road by road -/
theorem map_put (r : List Nat) (c k : Nat) : (r.zipIdx.map fun p : Nat × Nat => natP (p.1 + if p.2 = c then k else 0)) = (Fo.put r c k).map natP := by
  refine List.ext_getElem (by simp [Fo.put]) fun i h1 h2 => ?_
  simp only [List.getElem_map, List.getElem_zipIdx, Fo.put, List.getElem_modify]
  simp only [Nat.zero_add]
  by_cases h : c = i
  · subst h; simp
  · have : ¬ i = c := fun e => h e.symm
    simp [h, this]
theorem with_added_ok (n : Nat) {st : Sto} {r : List Nat} {c k : Nat} {Q : D → Sto → Prop} (hl : r.length ≤ 1000) (q : Q (rowTD (Fo.put r c k)) st) (hk : k < 1000000) : Ok2 (callF Pr LIM (n + 1) i_with_added [rowTD r, natD c, natD k] st) Q := by
  refine run_of p_with_added rfl ?_; simp only [f_with_added, List.map_cons, List.map_nil, List.cons_append, List.nil_append, Nat.reduceSub, List.replicate_succ, List.replicate_zero, List.append_nil]
  walk_at "vi step"
  rw [List.zipIdx_map, List.map_map]
  refine co_map (e := fun p : Nat × Nat => D.v (.tuple [.int (p.2 : Nat), natP p.1])) (g := fun p : Nat × Nat => natP (p.1 + if p.2 = c then k else 0)) (by simp; omega) ?_ ?_
  · rintro ⟨x, i⟩ _
    walk_at "vi step0"
    refine op_eq2 ?_
    walk_at "vi step0"
    refine bl_intb ?_
    walk_at "vi step0"
    refine op_mul (mul_small (.inl (by omega))) ?_
    refine op_add ?_
    walk_at "vi step0"
    refine ⟨?_, rfl⟩
    by_cases h : i = c
    · subst h; simp
    · have : ¬ (i : Int) = c := by omega
      simp [h, this]
  · rw [map_put]
    walk_at "vi step"
    refine bl_tupL ?_ ?_
    · rw [List.length_map, Fo.put_length]; omega
    walk_at "vi step"
    exact ⟨_, rfl, lv_same (Nat.le_refl _) q⟩
theorem with_one_ok (n : Nat) {st : Sto} {r : List Nat} {c k : Nat} {Q : D → Sto → Prop} (hl : r.length ≤ 1000) (q : Q (rowTD (Fo.put r c k)) st) : Ok2 (callF Pr LIM (n + 1) i_with_one [rowTD r, natD c, natD k] st) Q := by
  refine run_of p_with_one rfl ?_; simp only [f_with_one, List.map_cons, List.map_nil, List.cons_append, List.nil_append, Nat.reduceSub, List.replicate_succ, List.replicate_zero, List.append_nil]
  walk_at "vi step"
  rw [List.zipIdx_map, List.map_map]
  refine co_map (e := fun p : Nat × Nat => D.v (.tuple [.int (p.2 : Nat), natP p.1])) (g := fun p : Nat × Nat => natP (p.1 + if p.2 = c then k else 0)) (by simp; omega) ?_ ?_
  · rintro ⟨x, i⟩ _
    walk_at "vi step"
    refine ⟨fun e => ?_, fun e => ?_⟩
    · walk_at "vi step"
      refine ⟨?_, rfl⟩
      have : i = c := by have := of_decide_eq_true e; omega
      subst this
      simp
    · walk_at "vi step"
      refine ⟨?_, rfl⟩
      have : ¬ i = c := by have := of_decide_eq_false e; omega
      simp [this]
  · rw [map_put]
    walk_at "vi step"
    refine bl_tupL ?_ ?_
    · rw [List.length_map, Fo.put_length]; omega
    walk_at "vi step"
    exact ⟨_, rfl, lv_same (Nat.le_refl _) q⟩
theorem put_split {r : List Nat} {c k : Nat} (hc : c < r.length) : (r.map natP).take c ++ [natP (r[c] + k)] ++ (r.map natP).drop (c + 1) = (Fo.put r c k).map natP := by
  rw [← List.map_take, ← List.map_drop]
  refine List.ext_getElem (by simp [Fo.put]; omega) fun i h1 h2 => ?_
  simp only [List.getElem_map, Fo.put, List.getElem_modify, List.getElem_append, List.length_append, List.length_map, List.length_take, List.getElem_take, List.getElem_drop, List.length_cons, List.length_nil]
  have hm : min c r.length = c := by omega
  simp only [hm]
  by_cases h : i < c
  · have h3 : ¬ c = i := by omega
    have h4 : i < c + (0 + 1) := by omega
    simp [h, h3, h4]
  · by_cases h3 : i = c
    · subst h3
      simp
    · have h4 : ¬ i < c + (0 + 1) := by omega
      have h5 : ¬ c = i := by omega
      rw [dif_neg h4, if_neg h5]
      congr 2
      omega
theorem law_put_ok (n : Nat) {st : Sto} {r : List Nat} {c k : Nat} {Q : D → Sto → Prop} (hc : c < r.length) (hl : r.length ≤ 1000) (q : Q (rowTD (Fo.put r c k)) st) : Ok2 (callF Pr LIM (n + 1) i__law_put [rowTD r, natD c, natD k] st) Q := by
  refine run_of p__law_put rfl ?_; simp only [f__law_put, List.map_cons, List.map_nil, List.cons_append, List.nil_append, Nat.reduceSub, List.replicate_succ, List.replicate_zero, List.append_nil]
  walk_at "vi step"
  refine sl_hi ?_
  walk_at "vi step"
  refine qx_tup (p := natP r[c]) (by rw [List.getElem?_map, List.getElem?_eq_getElem hc]; rfl) ?_
  walk_at "vi step"
  refine mk_tup (ps := [natP (r[c] + k)]) rfl (by simp) ?_
  refine op_addT (by simp; omega) ?_
  walk_at "vi step"
  refine sl_lo (k := c + 1) ?_
  refine op_addT (by simp; omega) ?_
  rw [put_split hc]
  walk_at "vi step"
  exact ⟨_, rfl, lv_same (Nat.le_refl _) q⟩
/-! rows as dicts, road by road -/
theorem s2_at0 (b : Sto) (x y : Vi.O) : (b ++ [x, y])[b.length]? = some x := by simp
theorem s2_at1 (b : Sto) (x y : Vi.O) : (b ++ [x, y])[b.length + 1]? = some y := by simp
theorem s2_set0 (b : Sto) (x y z : Vi.O) : (b ++ [x, y]).set b.length z = b ++ [z, y] := by simp
theorem s2_set1 (b : Sto) (x y z : Vi.O) : (b ++ [x, y]).set (b.length + 1) z = b ++ [x, z] := by simp
theorem zer_flat (N : Nat) : PyData.tuple (List.replicate N [PyData.int 0]).flatten = rowT (Fo.zer N) := by
  congr 1
  induction N with
  | zero => rfl
  | succ N ih =>
    rw [List.replicate_succ, List.flatten_cons, ih]
    rfl
theorem step_len {q N : Nat} {l : List (List Nat)} {e : Nat × Nat} {r : List Nat} (h : r ∈ Fo.stepR q l e) (hl : ∀ r ∈ l, r.length = N) : r.length = N := by
  unfold Fo.stepR at h
  rw [Fo.mem_inss, List.mem_flatMap] at h
  rcases h with h | ⟨y, hy, h⟩
  · simp at h
  · obtain ⟨k, _, rfl⟩ := List.mem_map.mp h
    rw [Fo.put_length, Fo.put_length, hl y hy]


theorem outs_rows_ok (n : Nat) {st : Sto} {N : Nat} {E : Fo.Ed} {Q : D → Sto → Prop} (hN : 1 ≤ N) (hN2 : N ≤ 1000) (he : Fo.InF N E) (hs : 2 ^ E.length ≤ 4000) (hb : st.all (belowO st.length) = true)
    (hQ : Q (.v (.tuple ((sortN (Fo.rows 1 [Fo.zer N] E)).map rowT))) st) : Ok2 (callF Pr LIM (n + 2) i_outs_rows [frD N E] st) Q := by
  refine run_of p_outs_rows rfl ?_; simp only [f_outs_rows, List.map_cons, List.map_nil, List.cons_append, List.nil_append, Nat.reduceSub, List.replicate_succ, List.replicate_zero, List.append_nil]
  walk_at "vi step"
  refine ok_nd1T ?_
  walk_at "vi step"
  refine mk_tup (ps := [.int 0]) rfl (by simp) ?_
  walk_at "vi step"
  refine qx_tup (k := 0) (p := natP N) rfl ?_
  refine op_repT (k := N) hN hN2 (by simp) ?_
  walk_at "vi step"
  refine ⟨_, keyR (Fo.zer N), rfl, by rw [zer_flat]; exact toKeys_row _, ?_⟩
  walk_at "vi step"
  refine qx_tup (k := 1) (p := .tuple (E.map edP)) rfl ?_
  refine it_tup ?_
  rw [List.map_map]
  refine fo_inv (e := fun e : Nat × Nat => D.v (edP e)) (fun es env st' => ∃ (b : Sto) (j : Sto) (l : List (List Nat)) (u1 u2 u3 u4 : Option D), b = st ++ j ∧ st' = b ++ [Vi.O.dt false (dtR (.v (.bool true)) l)] ∧ env = [some (frD N E), some (.ref b.length), u1, u2, u3, u4]
    ∧ Fo.InF N es ∧ (∀ r ∈ l, r.length = N) ∧ 2 ^ es.length * l.length ≤ 4000 ∧ Fo.rows 1 l es = Fo.rows 1 [Fo.zer N] E) ?_ ?_ ?_
  · rintro ⟨a, c⟩ es env st' ⟨b, j, l, u1, u2, u3, u4, hbj, rfl, rfl, hes, hln, hsz, hr⟩
    obtain ⟨ha, hc⟩ := hes (a, c) (by simp)
    have hpos : 1 ≤ 2 ^ es.length := Nat.pos_of_ne_zero (by simp)
    have hsz2 : 2 * l.length ≤ 4000 := by
      refine Nat.le_trans ?_ hsz
      rw [List.length_cons, Nat.pow_succ, Nat.mul_assoc]
      exact Nat.le_mul_of_pos_left _ hpos
    walk_at "vi step"
    rw [List.append_assoc, List.length_append]
    refine ok_forR (v := (.v (.bool true))) (l := l) (fun rs env st' => ∃ (late : List (List Nat)) (u4 : Option D), st' = b ++ [Vi.O.dt true (dtR (.v (.bool true)) l), Vi.O.dt false (dtR (.v (.bool true)) late)] ∧ env = [some (frD N E), some (.ref b.length), some (natD a), some (natD c), some (.ref (b.length + 1)), u4]
      ∧ (∀ r ∈ rs, r.length = N) ∧ late.length + 2 * rs.length ≤ 2 * l.length ∧ Fo.inss late (rs.flatMap (Fo.outs1 1 (a, c))) = Fo.stepR 1 l (a, c)) (by repeat constructor) (s2_at0 _ _ _) ?_ ?_ ?_
    · rintro r rs env st' ⟨late, u4, rfl, rfl, hrn, hls, hli⟩
      have hrl := hrn r (by simp)
      simp only [List.length_cons, Nat.mul_succ] at hls
      have i1 := Fo.ins_length late (Fo.put r a 1)
      have i2 := Fo.ins_length (Fo.ins late (Fo.put r a 1)) (Fo.put r c 1)
      have hli2 : Fo.inss (Fo.ins (Fo.ins late (Fo.put (Fo.put r a 1) c 0)) (Fo.put (Fo.put r a 0) c 1)) (rs.flatMap (Fo.outs1 1 (a, c))) = Fo.stepR 1 l (a, c) := hli
      rw [Fo.put_zero, Fo.put_zero] at hli2
      refine ok_body ?_
      walk_at "vi step"
      refine with_one_ok n (k := 1) (by omega) ?_
      walk_at "vi step"
      refine to_row (s2_at1 _ _ _) (by omega) ?_
      rw [s2_set1]
      walk_at "vi step"
      refine with_one_ok n (k := 1) (by omega) ?_
      walk_at "vi step"
      refine to_row (s2_at1 _ _ _) (by omega) ?_
      rw [s2_set1]
      walk_at "vi step"
      exact ⟨rfl, _, _, rfl, rfl, fun r hr => hrn r (by simp [hr]), by omega, hli2⟩
    · refine ⟨[], _, ?_, rfl, hln, by simp, rfl⟩
      rw [List.singleton_append, s2_set0]
      rfl
    · rintro env st' ⟨late, u4, rfl, rfl, _, hls, hli⟩
      refine ⟨s2_at0 _ _ _, ?_⟩
      rw [s2_set0]
      walk_at "vi step"
      have hli2 : late = Fo.stepR 1 l (a, c) := hli
      subst hli2
      refine bl_lenDT (s2_at1 _ _ _) ?_
      walk_at "vi step0"
      refine op_gt2 ?_
      walk_at "vi step0"
      have hsl := Fo.stepR_length 1 l (a, c)
      refine ⟨fun e => ?_, fun _ => ?_⟩
      · have := of_decide_eq_true e
        unfold dtR at this
        rw [List.length_map] at this
        omega
      walk_at "vi step0"
      refine ⟨rfl, b ++ [Vi.O.dt false (dtR (.v (.bool true)) l)], j ++ [Vi.O.dt false (dtR (.v (.bool true)) l)], _, _, _, _, _, by rw [hbj, List.append_assoc], by rw [List.append_assoc]; rfl, by rw [List.length_append]; rfl, fun e h => hes e (by simp [h]), ?_, ?_, hr⟩
      · intro r hr
        exact step_len hr hln
      · refine Nat.le_trans (Nat.mul_le_mul_left _ (Fo.stepR_length 1 l (a, c))) ?_
        rw [← Nat.mul_assoc, ← Nat.pow_succ]
        exact hsz
  · refine ⟨st, [], [Fo.zer N], _, _, _, _, by simp, rfl, rfl, he, fun r hr => by rw [List.mem_singleton.mp hr]; simp [Fo.zer], by simpa using hs, rfl⟩
  · rintro env st' ⟨b, j, l, u1, u2, u3, u4, hbj, rfl, rfl, _, hln, hsz, hr⟩
    have hr2 : l = Fo.rows 1 [Fo.zer N] E := hr
    subst hr2
    have hsz' : (Fo.rows 1 [Fo.zer N] E).length ≤ 4000 := by simpa using hsz
    walk_at "vi step"
    refine sort_dtR (kp_at _ _) (by omega) ?_
    walk_at "vi step"
    refine bl_tupL (by rw [List.length_map, sortN_length]; omega) ?_
    walk_at "vi step"
    refine ⟨_, rfl, lv_cut hb (j ++ [Vi.O.dt false (dtR (.v (.bool true)) _)]) (by rw [hbj, List.append_assoc]) hQ⟩

theorem law_outs_ok (n : Nat) {st : Sto} {N : Nat} {E : Fo.Ed} {Q : D → Sto → Prop} (hN : 1 ≤ N) (hN2 : N ≤ 1000) (he : Fo.InF N E) (hs : 2 ^ E.length ≤ 4000) (hb : st.all (belowO st.length) = true)
    (hQ : Q (.v (.list ((sortN (Fo.rows 1 [Fo.zer N] E)).map rowT))) st) : Ok2 (callF Pr LIM (n + 2) i__law_outs [frD N E] st) Q := by
  refine run_of p__law_outs rfl ?_; simp only [f__law_outs, List.map_cons, List.map_nil, List.cons_append, List.nil_append, Nat.reduceSub, List.replicate_succ, List.replicate_zero, List.append_nil]
  walk_at "vi step"
  refine ok_nd1T ?_
  walk_at "vi step"
  refine mk_tup (ps := [.int 0]) rfl (by simp) ?_
  walk_at "vi step"
  refine qx_tup (k := 0) (p := natP N) rfl ?_
  refine op_repT (k := N) hN hN2 (by simp) ?_
  walk_at "vi step"
  refine ⟨_, keyR (Fo.zer N), rfl, by rw [zer_flat]; exact toKeys_row _, ?_⟩
  walk_at "vi step"
  refine qx_tup (k := 1) (p := .tuple (E.map edP)) rfl ?_
  refine it_tup ?_
  rw [List.map_map]
  refine fo_inv (e := fun e : Nat × Nat => D.v (edP e)) (fun es env st' => ∃ (b : Sto) (j : Sto) (l : List (List Nat)) (u1 u2 u3 u4 : Option D), b = st ++ j ∧ st' = b ++ [Vi.O.dt false (dtR (.v (.int 0)) l)] ∧ env = [some (frD N E), some (.ref b.length), u1, u2, u3, u4]
    ∧ Fo.InF N es ∧ (∀ r ∈ l, r.length = N) ∧ 2 ^ es.length * l.length ≤ 4000 ∧ Fo.rows 1 l es = Fo.rows 1 [Fo.zer N] E) ?_ ?_ ?_
  · rintro ⟨a, c⟩ es env st' ⟨b, j, l, u1, u2, u3, u4, hbj, rfl, rfl, hes, hln, hsz, hr⟩
    obtain ⟨ha, hc⟩ := hes (a, c) (by simp)
    have hpos : 1 ≤ 2 ^ es.length := Nat.pos_of_ne_zero (by simp)
    have hsz2 : 2 * l.length ≤ 4000 := by
      refine Nat.le_trans ?_ hsz
      rw [List.length_cons, Nat.pow_succ, Nat.mul_assoc]
      exact Nat.le_mul_of_pos_left _ hpos
    walk_at "vi step"
    rw [List.append_assoc, List.length_append]
    refine ok_forR (v := (.v (.int 0))) (l := l) (fun rs env st' => ∃ (late : List (List Nat)) (u4 : Option D), st' = b ++ [Vi.O.dt true (dtR (.v (.int 0)) l), Vi.O.dt false (dtR (.v (.int 0)) late)] ∧ env = [some (frD N E), some (.ref b.length), some (natD a), some (natD c), some (.ref (b.length + 1)), u4]
      ∧ (∀ r ∈ rs, r.length = N) ∧ late.length + 2 * rs.length ≤ 2 * l.length ∧ Fo.inss late (rs.flatMap (Fo.outs1 1 (a, c))) = Fo.stepR 1 l (a, c)) (by repeat constructor) (s2_at0 _ _ _) ?_ ?_ ?_
    · rintro r rs env st' ⟨late, u4, rfl, rfl, hrn, hls, hli⟩
      have hrl := hrn r (by simp)
      simp only [List.length_cons, Nat.mul_succ] at hls
      have i1 := Fo.ins_length late (Fo.put r a 1)
      have i2 := Fo.ins_length (Fo.ins late (Fo.put r a 1)) (Fo.put r c 1)
      have hli2 : Fo.inss (Fo.ins (Fo.ins late (Fo.put (Fo.put r a 1) c 0)) (Fo.put (Fo.put r a 0) c 1)) (rs.flatMap (Fo.outs1 1 (a, c))) = Fo.stepR 1 l (a, c) := hli
      rw [Fo.put_zero, Fo.put_zero] at hli2
      refine ok_body ?_
      walk_at "vi step"
      refine law_put_ok n (k := 1) (by omega) (by omega) ?_
      walk_at "vi step"
      refine to_row (s2_at1 _ _ _) (by omega) ?_
      rw [s2_set1]
      walk_at "vi step"
      refine law_put_ok n (k := 1) (by omega) (by omega) ?_
      walk_at "vi step"
      refine to_row (s2_at1 _ _ _) (by omega) ?_
      rw [s2_set1]
      walk_at "vi step"
      exact ⟨rfl, _, _, rfl, rfl, fun r hr => hrn r (by simp [hr]), by omega, hli2⟩
    · refine ⟨[], _, ?_, rfl, hln, by simp, rfl⟩
      rw [List.singleton_append, s2_set0]
      rfl
    · rintro env st' ⟨late, u4, rfl, rfl, _, hls, hli⟩
      refine ⟨s2_at0 _ _ _, ?_⟩
      rw [s2_set0]
      walk_at "vi step"
      have hli2 : late = Fo.stepR 1 l (a, c) := hli
      subst hli2
      refine ⟨rfl, b ++ [Vi.O.dt false (dtR (.v (.int 0)) l)], j ++ [Vi.O.dt false (dtR (.v (.int 0)) l)], _, _, _, _, _, by rw [hbj, List.append_assoc], by rw [List.append_assoc]; rfl, by rw [List.length_append]; rfl, fun e h => hes e (by simp [h]), ?_, ?_, hr⟩
      · intro r hr
        exact step_len hr hln
      · refine Nat.le_trans (Nat.mul_le_mul_left _ (Fo.stepR_length 1 l (a, c))) ?_
        rw [← Nat.mul_assoc, ← Nat.pow_succ]
        exact hsz
  · refine ⟨st, [], [Fo.zer N], _, _, _, _, by simp, rfl, rfl, he, fun r hr => by rw [List.mem_singleton.mp hr]; simp [Fo.zer], by simpa using hs, rfl⟩
  · rintro env st' ⟨b, j, l, u1, u2, u3, u4, hbj, rfl, rfl, _, hln, hsz, hr⟩
    have hr2 : l = Fo.rows 1 [Fo.zer N] E := hr
    subst hr2
    have hsz' : (Fo.rows 1 [Fo.zer N] E).length ≤ 4000 := by simpa using hsz
    walk_at "vi step"
    refine sort_dtR (kp_at _ _) (by omega) ?_
    walk_at "vi step"
    refine ⟨_, rfl, lv_cut hb (j ++ [Vi.O.dt false (dtR (.v (.int 0)) _)]) (by rw [hbj, List.append_assoc]) hQ⟩


end K58
set_option Elab.async false
set_option linter.all false
set_option maxRecDepth 100000
set_option maxHeartbeats 400000
namespace K58
open PySem PySem.Spec PyProof.Rows L2 Vi
local macro_rules | `(tactic| walk_at "vi step") => `(tactic| repeat (with_reducible first | refine ok_var (by repeat constructor) ?_ | refine ok_name (by repeat constructor) ?_ | refine ok_comp (by repeat constructor) ?_ | refine ok_s1 ?_ | refine at_nx ?_ | refine at_rt ?_ | refine at_ex ?_ | refine ok_set ?_ | refine ok_par ?_ | refine ok_expr ?_ | refine ok_sret ?_ | refine ok_sretN ?_ | refine ok_site ?_ | refine ok_for ?_ | refine ok_while ?_ | refine ok_pass ?_ | refine ok_raise ?_ | refine ok_s0 ?_ | refine ok_cst ?_ | refine ok_tup ?_ | refine ok_lst ?_ | refine ok_bin ?_ | refine ok_neg ?_ | refine ok_not ?_ | refine ok_and ?_ | refine ok_or ?_ | refine ok_and1 ?_ | refine ok_or1 ?_ | refine ok_and2 ?_ | refine ok_or2 ?_ | refine ok_cmp ?_ | refine ok_chain ?_ | refine ok_isN ?_ | refine ok_ite ?_ | refine ok_idx ?_ | refine ok_slice ?_ | refine ok_o0 ?_ | refine ok_o1 ?_ | refine ok_rev ?_ | refine ok_call ?_ | refine ok_blt ?_ | refine ok_lrng ?_ | refine ok_trng ?_ | refine ok_sorted ?_ | refine ok_isa ?_ | refine ok_mt ?_ | refine ok_turn0 ?_ | refine ok_turn1 ?_ | refine ok_new ?_ | refine ok_ndct ?_ | refine ok_k0 ?_ | refine ok_k1 ?_ | refine ok_es0 ?_ | refine ok_es1 ?_ | refine ok_as0 ?_ | refine ok_as1 ?_ | refine ok_as2 ?_ | refine ok_val ?_ | refine ok_rng ?_ | refine ok_rngD ?_ | refine ok_enumT ?_ | refine ok_zip ?_ | refine ok_tt2 ?_ | refine ok_tt3 ?_ | refine ok_ts0 ?_ | refine ok_ts1 ?_ | refine ok_body ?_ | refine ok_sub ?_ | refine ok_evT ?_ | refine en_tup ?_ | refine en_lst ?_ | refine zi_tup ?_ | refine is_int ?_ | refine sq_tup ?_ | refine sq_lst ?_ | refine ok_gint ?_ | refine ok_ndT ?_ | refine ok_ndK ?_ | refine okt_b ?_ | refine op_add ?_ | refine op_sub ?_ | refine op_and ?_ | refine op_lt2 ?_ | refine op_le2 ?_ | refine op_gt2 ?_ | refine op_ge2 ?_ | refine op_eq2 ?_ | refine op_ne2 ?_ | refine op_eqS ?_ | refine op_neS ?_ | refine bl_intb ?_ | refine bl_inti ?_ | refine bl_lenT ?_ | refine bl_lenL ?_ | refine bl_abs ?_ | refine bl_max ?_ | refine bl_min ?_ | refine it_tup ?_ | refine it_lst ?_))
local macro_rules | `(tactic| walk_at "vi step0") => `(tactic| repeat (with_reducible first | refine ok_var (by repeat constructor) ?_ | refine ok_name (by repeat constructor) ?_ | refine ok_comp (by repeat constructor) ?_ | refine ok_s1 ?_ | refine at_nx ?_ | refine at_rt ?_ | refine at_ex ?_ | refine ok_set ?_ | refine ok_par ?_ | refine ok_expr ?_ | refine ok_sret ?_ | refine ok_sretN ?_ | refine ok_site ?_ | refine ok_for ?_ | refine ok_while ?_ | refine ok_pass ?_ | refine ok_raise ?_ | refine ok_s0 ?_ | refine ok_cst ?_ | refine ok_tup ?_ | refine ok_lst ?_ | refine ok_bin ?_ | refine ok_neg ?_ | refine ok_not ?_ | refine ok_and ?_ | refine ok_or ?_ | refine ok_and1 ?_ | refine ok_or1 ?_ | refine ok_and2 ?_ | refine ok_or2 ?_ | refine ok_cmp ?_ | refine ok_chain ?_ | refine ok_isN ?_ | refine ok_ite ?_ | refine ok_idx ?_ | refine ok_slice ?_ | refine ok_o0 ?_ | refine ok_o1 ?_ | refine ok_rev ?_ | refine ok_call ?_ | refine ok_blt ?_ | refine ok_lrng ?_ | refine ok_trng ?_ | refine ok_sorted ?_ | refine ok_isa ?_ | refine ok_mt ?_ | refine ok_turn0 ?_ | refine ok_turn1 ?_ | refine ok_new ?_ | refine ok_ndct ?_ | refine ok_k0 ?_ | refine ok_k1 ?_ | refine ok_es0 ?_ | refine ok_es1 ?_ | refine ok_as0 ?_ | refine ok_as1 ?_ | refine ok_as2 ?_ | refine ok_val ?_ | refine ok_rng ?_ | refine ok_rngD ?_ | refine ok_enumT ?_ | refine ok_zip ?_ | refine ok_tt2 ?_ | refine ok_tt3 ?_ | refine ok_ts0 ?_ | refine ok_ts1 ?_ | refine ok_body ?_ | refine ok_sub ?_ | refine ok_evT ?_ | refine en_tup ?_ | refine en_lst ?_ | refine zi_tup ?_ | refine is_int ?_ | refine sq_tup ?_ | refine sq_lst ?_ | refine ok_gint ?_ | refine ok_ndT ?_ | refine ok_ndK ?_ | refine okt_b ?_))
/-! heads, pieces, lots, forests -/
theorem hd_at {h : List Nat} {i : Nat} (hi : i < h.length) : (h.map natP)[i]? = some (natP (Fo.hd h i)) := by
  rw [List.getElem?_map, List.getElem?_eq_getElem hi]
  simp [Fo.hd, List.getElem?_eq_getElem hi]
theorem ed_at {E : Fo.Ed} {i : Nat} (hi : i < E.length) : (E.map edP)[i]? = some (edP (E.getD i (0, 0))) := by
  rw [List.getElem?_map, List.getElem?_eq_getElem hi]
  simp [List.getElem?_eq_getElem hi]
theorem ed_cons (E : Fo.Ed) (i : Nat) (lot : List Nat) : Fo.ed E (i :: lot) = E.getD i (0, 0) :: Fo.ed E lot := rfl
theorem getD_in {N : Nat} {E : Fo.Ed} (he : Fo.InF N E) {i : Nat} (hi : i < E.length) : (E.getD i (0, 0)).1 < N ∧ (E.getD i (0, 0)).2 < N := by
  have e : E.getD i (0, 0) = E[i] := by simp [hi]
  rw [e]
  exact he _ (List.getElem_mem hi)
theorem range_lst (N : Nat) : (List.range N).map (fun i => D.v (.int (i : Nat))) = ((List.range N).map natP).map D.v := by rw [List.map_map]; rfl
theorem stepH_map (h : List Nat) (e : Nat × Nat) : (h.map fun z => natP (if z = max (Fo.hd h e.1) (Fo.hd h e.2) then min (Fo.hd h e.1) (Fo.hd h e.2) else z)) = (Fo.stepH h e).map natP := by
  unfold Fo.stepH
  rw [List.map_map]
  rfl
theorem heads_by_ok (n : Nat) {st : Sto} {N : Nat} {E : Fo.Ed} {lot : List Nat} {Q : D → Sto → Prop} (hN2 : N ≤ 1000) (he : Fo.InF N E) (hlot : ∀ i ∈ lot, i < E.length)
    (q : Q (.v (.list ((Fo.heads (List.range N) (Fo.ed E lot)).map natP))) st) : Ok2 (callF Pr LIM (n + 1) i_heads_by [frD N E, rowTD lot] st) Q := by
  refine run_of p_heads_by rfl ?_; simp only [f_heads_by, List.map_cons, List.map_nil, List.cons_append, List.nil_append, Nat.reduceSub, List.replicate_succ, List.replicate_zero, List.append_nil]
  walk_at "vi step"
  refine qx_tup (k := 0) (p := natP N) rfl ?_
  walk_at "vi step"
  refine rng_one (n := N) (by omega) ?_
  rw [range_lst]
  refine mk_lst (plains_map _) (by simp; omega) ?_
  walk_at "vi step"
  rw [nat_tup]
  refine fo_inv (e := natD) (fun l env st' => ∃ (h : List Nat) (u1 u2 u3 u4 u5 : Option D), st' = st ∧ env = [some (frD N E), some (rowTD lot), some (.v (.list (h.map natP))), u1, u2, u3, u4, u5] ∧ Fo.Hs N h ∧ (∀ i ∈ l, i < E.length) ∧ Fo.heads h (Fo.ed E l) = Fo.heads (List.range N) (Fo.ed E lot)) ?_ ?_ ?_
  · rintro i l env st' ⟨h, u1, u2, u3, u4, u5, rfl, rfl, H, hl, hr⟩
    have hi := hl i (by simp)
    obtain ⟨ha, hb⟩ := getD_in he hi
    generalize hg : E.getD i (0, 0) = e at ha hb
    have hlen := H.len
    walk_at "vi step"
    refine qx_tup (k := 1) (p := .tuple (E.map edP)) rfl ?_
    walk_at "vi step"
    refine qx_tup (k := i) (p := edP e) (by rw [ed_at hi, hg]) ?_
    refine it_tup ?_
    have e1 : [natP e.1, natP e.2].map D.v = [e.1, e.2].map natD := rfl
    rw [e1]
    refine co_map (e := natD) (g := fun i => natP (Fo.hd h i)) (by simp) ?_ ?_
    · intro c hc
      have hc2 : c < h.length := by
        rcases List.mem_cons.mp hc with rfl | hc
        · omega
        · rw [List.mem_singleton.mp hc]; omega
      walk_at "vi step"
      refine qx_lst (hd_at hc2) ?_
      exact ⟨rfl, rfl⟩
    · have e2 : [e.1, e.2].map (fun i => natP (Fo.hd h i)) = [Fo.hd h e.1, Fo.hd h e.2].map natP := rfl
      rw [e2]
      refine sort_nats (by simp) ?_
      rw [merge2]
      refine ok_tl2 (a := natP (min (Fo.hd h e.1) (Fo.hd h e.2))) (b := natP (max (Fo.hd h e.1) (Fo.hd h e.2))) ?_
      walk_at "vi step"
      rw [nat_tup]
      refine co_map (e := natD) (g := fun z => natP (if z = max (Fo.hd h e.1) (Fo.hd h e.2) then min (Fo.hd h e.1) (Fo.hd h e.2) else z)) (by omega) ?_ ?_
      · intro z _
        walk_at "vi step"
        refine ⟨fun g => ?_, fun g => ?_⟩
        · have := of_decide_eq_true g
          walk_at "vi step"
          refine ⟨?_, rfl⟩
          rw [if_pos (by omega)]
        · have := of_decide_eq_false g
          walk_at "vi step"
          refine ⟨?_, rfl⟩
          rw [if_neg (by omega)]
      · rw [stepH_map]
        walk_at "vi step"
        refine ⟨rfl, Fo.stepH h e, _, _, _, _, _, rfl, rfl, Fo.hs_step H ha hb, fun j hj => hl j (by simp [hj]), ?_⟩
        rw [← hr, ed_cons, hg]
        rfl
  · exact ⟨List.range N, _, _, _, _, _, rfl, rfl, Fo.hs_range N, hlot, rfl⟩
  · rintro env st' ⟨h, u1, u2, u3, u4, u5, rfl, rfl, H, hl, hr⟩
    have hr2 : h = Fo.heads (List.range N) (Fo.ed E lot) := hr
    subst hr2
    walk_at "vi step"
    exact ⟨_, rfl, lv_same (Nat.le_refl _) q⟩
theorem pieces_by_ok (n : Nat) {st : Sto} {N : Nat} {E : Fo.Ed} {lot : List Nat} {Q : D → Sto → Prop} (hN2 : N ≤ 1000) (he : Fo.InF N E) (hlot : ∀ i ∈ lot, i < E.length) (hb : st.all (belowO st.length) = true)
    (q : ∀ ps : List PyData, ps.length = Fo.pcs N (Fo.ed E lot) → Q (.v (.tuple ps)) st) : Ok2 (callF Pr LIM (n + 2) i_pieces_by [frD N E, rowTD lot] st) Q := by
  refine run_of p_pieces_by rfl ?_; simp only [f_pieces_by, List.map_cons, List.map_nil, List.cons_append, List.nil_append, Nat.reduceSub, List.replicate_succ, List.replicate_zero, List.append_nil]
  walk_at "vi step"
  with_reducible refine heads_by_ok n hN2 he hlot ?_
  have H := (Fo.heads_ok _ _ (Fo.ed_in he hlot) (Fo.hs_range N)).1
  generalize hh : Fo.heads (List.range N) (Fo.ed E lot) = h at H
  have hlen := H.len
  walk_at "vi step"
  refine mk_lst (ps := []) rfl (by simp) ?_
  refine is_lst ?_
  walk_at "vi step"
  refine qx_tup (k := 0) (p := natP N) rfl ?_
  walk_at "vi step"
  refine rng_one (n := N) (by omega) ?_
  refine fo_inv (e := fun i : Nat => D.v (.int (i : Nat))) (fun l env st' => ∃ (ps : List PyData) (u1 u2 : Option D), st' = st ++ [Vi.O.lst (ps.map D.v)] ∧ env = [some (frD N E), some (rowTD lot), some (.v (.list (h.map natP))), some (.ref st.length), u1, u2]
    ∧ (∀ i ∈ l, i < N) ∧ ps.length + l.length ≤ N ∧ ps.length + (l.filter fun c => decide (Fo.hd h c = c)).length = (Fo.roots N h).length) ?_ ?_ ?_
  · rintro c l env st' ⟨ps, u1, u2, rfl, rfl, hl, hle, hc⟩
    have hcN := hl c (by simp)
    simp only [List.length_cons] at hle
    walk_at "vi step"
    refine qx_lst (hd_at (by omega)) ?_
    walk_at "vi step"
    refine ⟨fun g => ?_, fun g => ?_⟩
    · have g2 : Fo.hd h c = c := by have := of_decide_eq_true g; omega
      walk_at "vi step"
      refine mt_ref rfl (kp_at _ _) ?_
      walk_at "vi step"
      refine qx_tup (k := 0) (p := natP N) rfl ?_
      walk_at "vi step"
      refine rng_one (n := N) (by omega) ?_
      refine co_filter (e := fun i : Nat => D.v (.int (i : Nat))) (p := fun i => decide (Fo.hd h i = c)) (g := natP) (by simp; omega) ?_ ?_
      · intro i hi
        have hi2 := List.mem_range.mp hi
        walk_at "vi step"
        refine qx_lst (hd_at (by omega)) ?_
        walk_at "vi step"
        refine ⟨fun g => ?_, fun g => ?_⟩
        · have : Fo.hd h i = c := by have := of_decide_eq_true g; omega
          walk_at "vi step"
          refine ⟨?_, rfl⟩
          rw [if_pos (decide_eq_true this)]
        · have : ¬ Fo.hd h i = c := by have := of_decide_eq_false g; omega
          refine ⟨?_, rfl⟩
          rw [if_neg (by simpa using this)]
      · walk_at "vi step"
        refine bl_tupL ?_ ?_
        · rw [List.length_map]
          exact Nat.le_trans (List.length_filter_le _ _) (by simp; omega)
        walk_at "vi step"
        refine me_append (kp_at _ _) (by simp; omega) ?_
        rw [kp_set]
        walk_at "vi step"
        refine ⟨rfl, ps ++ [.tuple (((List.range N).filter fun i => decide (Fo.hd h i = c)).map natP)], _, _, by rw [List.map_append]; rfl, rfl, fun i hi => hl i (by simp [hi]), ?_, ?_⟩
        · simp; omega
        · rw [← hc, List.filter_cons, if_pos (decide_eq_true g2)]
          simp
          omega
    · have g2 : ¬ Fo.hd h c = c := by have := of_decide_eq_false g; omega
      walk_at "vi step"
      refine ⟨rfl, ps, _, _, rfl, rfl, fun i hi => hl i (by simp [hi]), by omega, ?_⟩
      rw [← hc, List.filter_cons, if_neg (by simpa using g2)]
  · refine ⟨[], _, _, rfl, rfl, fun i hi => List.mem_range.mp hi, by simp, by simp [Fo.roots]⟩
  · rintro env st' ⟨ps, u1, u2, rfl, rfl, _, hle, hc⟩
    have hc2 : ps.length = (Fo.roots N h).length := by simpa using hc
    walk_at "vi step"
    refine bl_tupR (kp_at _ _) (by simp at hle; omega) ?_
    walk_at "vi step"
    exact ⟨_, rfl, lv_cut hb _ rfl (q ps (by rw [hc2]; unfold Fo.pcs; rw [hh]))⟩
theorem piece_count_ok (n : Nat) {st : Sto} {N : Nat} {E : Fo.Ed} {lot : List Nat} {Q : D → Sto → Prop} (hN2 : N ≤ 1000) (he : Fo.InF N E) (hlot : ∀ i ∈ lot, i < E.length) (hb : st.all (belowO st.length) = true)
    (q : Q (natD (Fo.pcs N (Fo.ed E lot))) st) : Ok2 (callF Pr LIM (n + 3) i_piece_count [frD N E, rowTD lot] st) Q := by
  refine run_of p_piece_count rfl ?_; simp only [f_piece_count, List.map_cons, List.map_nil, List.cons_append, List.nil_append, Nat.reduceSub, List.replicate_succ, List.replicate_zero, List.append_nil]
  walk_at "vi step"
  with_reducible refine pieces_by_ok n hN2 he hlot hb fun ps hps => ?_
  walk_at "vi step"
  rw [hps]
  exact ⟨_, rfl, lv_same (Nat.le_refl _) q⟩
/-! the source -/
theorem source_ok (n : Nat) {ns : List Int} (hl : ns.length ≤ 63) {Q : D → Sto → Prop} (q : ∀ σ : Sr, σ.ok → Q (.ref 1) (σ.st [])) : Ok2 (callF Pr LIM (n + 1) i__law_source [.scr ns] []) Q := by
  refine run_of p__law_source rfl ?_; simp only [f__law_source, List.map_cons, List.map_nil, List.cons_append, List.nil_append, Nat.reduceSub, List.replicate_succ, List.replicate_zero, List.append_nil]
  walk_at "vi step"
  refine it_scr ?_
  refine fo_inv (e := fun n : Int => D.v (.int n)) (fun l env st' => st' = [] ∧ ∃ (m : Nat) (x : Option D), env = [some (.scr ns), some (natD m), x] ∧ m < 2147483648) ?_ ?_ ?_
  · rintro c l env st' ⟨rfl, m, x, rfl, hm⟩
    walk_at "vi step0"
    refine op_mul (mul_small (by omega)) ?_
    walk_at "vi step0"
    refine op_mul (mul_small (by omega)) ?_
    walk_at "vi step0"
    refine op_add ?_
    walk_at "vi step0"
    refine op_add ?_
    walk_at "vi step0"
    refine bl_inti ?_
    walk_at "vi step0"
    refine op_mod (by decide) ?_
    walk_at "vi step0"
    have h1 := Int.fmod_nonneg_of_pos ((m : Int) * 69069 + c * 31 + 5) (b := 2147483629) (by omega)
    have h2 := Int.fmod_lt_of_pos ((m : Int) * 69069 + c * 31 + 5) (b := 2147483629) (by omega)
    obtain ⟨k, hk⟩ := Int.eq_ofNat_of_zero_le h1
    rw [hk] at h2 ⊢
    exact ⟨rfl, rfl, k, _, rfl, by omega⟩
  · exact ⟨rfl, 11, _, rfl, by omega⟩
  · rintro env st' ⟨rfl, m, x, rfl, hm⟩
    walk_at "vi step0"
    refine it_scr ?_
    refine co_map (g := fun n : Int => .int (n.natAbs : Nat)) (by omega) ?_ ?_
    · intro c _
      walk_at "vi step0"
      refine bl_abs ?_
      walk_at "vi step0"
      refine ⟨?_, rfl⟩
      have e : (if c < 0 then -c else c) = ((c.natAbs : Nat) : Int) := by split <;> omega
      rw [e]
    · walk_at "vi step"
      refine rv_lst (by simp; omega) ?_
      refine is_lst ?_
      walk_at "vi step0"
      refine ⟨_, rfl, .of leave_keep ?_⟩
      have := q ⟨(ns.map Int.natAbs).reverse, 1, m, 0⟩ ⟨by simpa using hl, by show m < _; omega⟩
      have e : (ns.map fun n : Int => PyData.int (n.natAbs : Nat)).reverse.map D.v = (ns.map Int.natAbs).reverse.map natD := by
        rw [← List.map_reverse, ← List.map_reverse, List.map_map, List.map_map]
        rfl
      rw [e]
      exact this
theorem pick_ok (n : Nat) {σ0 : Sr} (h0 : σ0.ok) {m : Nat} (hm : m < 1000000) {r : Sto} {Q : D → Sto → Prop} (q : ∀ (x : Nat) (σ' : Sr), σ'.ok → x < max 1 m → Q (natD x) (σ'.st r)) : Ok2 (callF Pr LIM (n + 1) i__law_pick [.ref 1, natD m] (σ0.st r)) Q := by
  refine run_of p__law_pick rfl ?_; simp only [f__law_pick, List.map_cons, List.map_nil, List.cons_append, List.nil_append, Nat.reduceSub, List.replicate_succ, List.replicate_zero, List.append_nil]
  walk_at "vi step0"
  refine wh_inv (fun j env st' => ∃ σ : Sr, j = σ.cells.length ∧ σ.ok ∧ env = [some (.ref 1), some (natD m), none, none] ∧ st' = σ.st r) σ0.cells.length (Nat.lt_of_le_of_lt h0.few (by show 63 < 4000; omega)) ?_ ?_
  · rintro j env st' ⟨σ, rfl, h, rfl, rfl⟩
    refine ok_evT ?_
    refine Ok2.mono (P := fun x st' => x = .v (.bool (decide (1 < m ∧ σ.left < 2 ∧ 0 < σ.cells.length))) ∧ st' = σ.st r) ?_ ?_
    · walk_at "vi step"
      refine ⟨fun e1 => ?_, fun e1 => ?_⟩
      · walk_at "vi step"
        refine ix_ref rfl lk_l ?_
        walk_at "vi step"
        refine ⟨fun e2 => ?_, fun e2 => ?_⟩
        · walk_at "vi step"
          refine ix_ref rfl lk_c ?_
          walk_at "vi step"
          refine bl_lenR rfl ?_
          walk_at "vi step"
          refine ⟨?_, rfl⟩
          have e1' := of_decide_eq_true e1
          have e2' := of_decide_eq_true e2
          simp only [List.length_map]
          congr 2
          exact decide_eq_decide.mpr ⟨fun h => ⟨by omega, by omega, by omega⟩, fun h => by omega⟩
        · have e2' := of_decide_eq_false e2
          refine ⟨?_, rfl⟩
          rw [e2, decide_eq_false]
          omega
      · have e1' := of_decide_eq_false e1
        refine ⟨?_, rfl⟩
        rw [e1, decide_eq_false]
        omega
    · rintro x st' ⟨rfl, rfl⟩
      walk_at "vi step0"
      refine ⟨fun _ => ?_, fun e => ?_⟩
      · walk_at "vi step0"
        refine ix_ref rfl lk_l ?_
        refine ok_name (by repeat constructor) ?_
        refine at_nx ?_
        refine ok_s1 ?_
        refine ok_site ?_
        refine Ok2.mono (P := fun x st' => x = .v (.bool (decide (m < 2 ∨ 1 < σ.left))) ∧ st' = σ.st r) ?_ ?_
        · walk_at "vi step"
          refine ⟨fun e1 => ?_, fun e1 => ?_⟩
          · have e1' := of_decide_eq_true e1
            refine ⟨?_, rfl⟩
            rw [e1, decide_eq_true]
            omega
          · walk_at "vi step"
            refine ⟨?_, rfl⟩
            have e1' := of_decide_eq_false e1
            congr 2
            exact decide_eq_decide.mpr ⟨fun h => by omega, fun h => by omega⟩
        · rintro x st' ⟨rfl, rfl⟩
          walk_at "vi step0"
          have one : (if (m : Int) > 1 then (m : Int) else 1) = ((max 1 m : Nat) : Int) := by split <;> omega
          refine ⟨fun e => ?_, fun e => ?_⟩
          · walk_at "vi step0"
            refine bl_max ?_
            rw [one]
            refine op_fdiv (by omega) (by omega) ?_
            walk_at "vi step0"
            have e : ((σ.left : Int)).fdiv ((max 1 m : Nat) : Int) = ((σ.left / max 1 m : Nat) : Int) := by
              rw [Int.fdiv_eq_ediv_of_nonneg _ (by omega)]
              rfl
            rw [e]
            refine to_dct rfl (by simp) ?_
            rw [pt_l]
            walk_at "vi step0"
            refine bl_inti ?_
            walk_at "vi step0"
            refine bl_max ?_
            rw [one]
            refine op_mod (by omega) ?_
            walk_at "vi step0"
            have e2 : ((σ.left : Int)).fmod ((max 1 m : Nat) : Int) = ((σ.left % max 1 m : Nat) : Int) := by
              rw [Int.fmod_eq_emod_of_nonneg _ (by omega)]
              rfl
            rw [e2]
            exact ⟨_, rfl, lv_same (by simp) (q _ ⟨σ.cells, σ.left / max 1 m, σ.mixed, σ.turn⟩ ⟨h.few, h.low⟩ (Nat.mod_lt _ (by omega)))⟩
          · have hm2 : 2 ≤ m := by
              have := of_decide_eq_false e
              omega
            walk_at "vi step0"
            refine ix_ref rfl lk_t ?_
            walk_at "vi step0"
            refine op_add ?_
            walk_at "vi step0"
            have e3 : (σ.turn : Int) + 1 = ((σ.turn + 1 : Nat) : Int) := rfl
            rw [e3]
            refine to_dct rfl (by simp) ?_
            rw [pt_t]
            walk_at "vi step0"
            refine ix_ref rfl lk_m ?_
            walk_at "vi step0"
            refine ix_ref rfl lk_t ?_
            walk_at "vi step0"
            refine op_mul (mul_small (.inr (by omega))) ?_
            refine op_add ?_
            walk_at "vi step0"
            refine bl_inti ?_
            walk_at "vi step0"
            refine op_mod (by decide) ?_
            walk_at "vi step0"
            have a1 := Int.fmod_nonneg_of_pos ((σ.mixed : Int) + ((σ.turn + 1 : Nat) : Int) * 104729) (b := 998244353) (by omega)
            have a2 := Int.fmod_lt_of_pos ((σ.mixed : Int) + ((σ.turn + 1 : Nat) : Int) * 104729) (b := 998244353) (by omega)
            generalize ((σ.mixed : Int) + ((σ.turn + 1 : Nat) : Int) * 104729).fmod 998244353 = u at a1 a2 ⊢
            refine op_mul (mul_small (.inl (by omega))) ?_
            walk_at "vi step0"
            refine ix_ref rfl lk_t ?_
            walk_at "vi step0"
            refine op_mul (mul_small (.inr (by omega))) ?_
            refine op_add ?_
            walk_at "vi step0"
            refine bl_inti ?_
            walk_at "vi step0"
            refine op_mod (by decide) ?_
            walk_at "vi step0"
            have b1 := Int.fmod_nonneg_of_pos (u * u + ((σ.turn + 1 : Nat) : Int) * 17) (b := 2147483647) (by omega)
            have b2 := Int.fmod_lt_of_pos (u * u + ((σ.turn + 1 : Nat) : Int) * 17) (b := 2147483647) (by omega)
            generalize (u * u + ((σ.turn + 1 : Nat) : Int) * 17).fmod 2147483647 = w at b1 b2 ⊢
            obtain ⟨w, rfl⟩ := Int.eq_ofNat_of_zero_le b1
            refine to_dct rfl (by simp) ?_
            rw [pt_m]
            walk_at "vi step0"
            refine op_fdiv (by decide) (by decide) ?_
            walk_at "vi step0"
            refine bl_inti ?_
            walk_at "vi step0"
            refine op_mod (by omega) ?_
            walk_at "vi step0"
            have e4 : ((w : Int).fdiv 16).fmod (m : Int) = ((w / 16 % m : Nat) : Int) := by
              rw [Int.fdiv_eq_ediv_of_nonneg _ (by omega), Int.fmod_eq_emod_of_nonneg _ (by omega)]
              rfl
            rw [e4]
            exact ⟨_, rfl, lv_same (by simp) (q _ ⟨σ.cells, σ.left, w, σ.turn + 1⟩ ⟨h.few, by show w < _; omega⟩ (by have := Nat.mod_lt (w / 16) (y := m) (by omega); omega))⟩
      · have e' := of_decide_eq_true e
        have hc : σ.cells ≠ [] := by
          intro h
          rw [h] at e'
          simp at e'
        walk_at "vi step0"
        refine ix_ref rfl lk_c ?_
        refine mt_ref rfl rfl ?_
        walk_at "vi step0"
        refine me_pop rfl (d := natD (σ.cells.getLast hc)) (by rw [List.getLast?_map, List.getLast?_eq_some_getLast hc]; rfl) ?_
        walk_at "vi step0"
        refine to_dct rfl (by simp) ?_
        rw [pt_l]
        walk_at "vi step0"
        refine ⟨rfl, σ.cells.dropLast.length, ?_, ⟨σ.cells.dropLast, σ.cells.getLast hc, σ.mixed, σ.turn⟩, rfl, ⟨?_, h.low⟩, rfl, ?_⟩
        · simp; omega
        · have := h.few
          simp; omega
        · simp [List.map_dropLast]
  · exact ⟨σ0, rfl, h0, rfl, rfl⟩
theorem of_ok (n : Nat) {σ : Sr} (h : σ.ok) {xs : List PyData} (hx : xs ≠ []) (hl : xs.length < 1000000) {r : Sto} {Q : D → Sto → Prop} (q : ∀ p (σ' : Sr), σ'.ok → p ∈ xs → Q (.v p) (σ'.st r)) : Ok2 (callF Pr LIM (n + 2) i__law_of [.ref 1, .v (.list xs)] (σ.st r)) Q := by
  refine run_of p__law_of rfl ?_; simp only [f__law_of, List.map_cons, List.map_nil, List.cons_append, List.nil_append, Nat.reduceSub, List.replicate_succ, List.replicate_zero, List.append_nil]
  walk_at "vi step"
  refine pick_ok n h hl fun x σ' h' hx' => ?_
  have hx2 : x < xs.length := by
    have : 0 < xs.length := List.length_pos_iff.mpr hx
    omega
  refine qx_lst (List.getElem?_eq_getElem hx2) ?_
  walk_at "vi step"
  exact ⟨_, rfl, lv_same (by simp) (q _ σ' h' (List.getElem_mem hx2))⟩

end K58
set_option Elab.async false
set_option linter.all false
set_option maxRecDepth 100000
set_option maxHeartbeats 400000
namespace K58
open PySem PySem.Spec PyProof.Rows L2 Vi
local macro_rules | `(tactic| walk_at "vi step") => `(tactic| repeat (with_reducible first | refine ok_var (by repeat constructor) ?_ | refine ok_name (by repeat constructor) ?_ | refine ok_comp (by repeat constructor) ?_ | refine ok_s1 ?_ | refine at_nx ?_ | refine at_rt ?_ | refine at_ex ?_ | refine ok_set ?_ | refine ok_par ?_ | refine ok_expr ?_ | refine ok_sret ?_ | refine ok_sretN ?_ | refine ok_site ?_ | refine ok_for ?_ | refine ok_while ?_ | refine ok_pass ?_ | refine ok_raise ?_ | refine ok_s0 ?_ | refine ok_cst ?_ | refine ok_tup ?_ | refine ok_lst ?_ | refine ok_bin ?_ | refine ok_neg ?_ | refine ok_not ?_ | refine ok_and ?_ | refine ok_or ?_ | refine ok_and1 ?_ | refine ok_or1 ?_ | refine ok_and2 ?_ | refine ok_or2 ?_ | refine ok_cmp ?_ | refine ok_chain ?_ | refine ok_isN ?_ | refine ok_ite ?_ | refine ok_idx ?_ | refine ok_slice ?_ | refine ok_o0 ?_ | refine ok_o1 ?_ | refine ok_rev ?_ | refine ok_call ?_ | refine ok_blt ?_ | refine ok_lrng ?_ | refine ok_trng ?_ | refine ok_sorted ?_ | refine ok_isa ?_ | refine ok_mt ?_ | refine ok_turn0 ?_ | refine ok_turn1 ?_ | refine ok_new ?_ | refine ok_ndct ?_ | refine ok_k0 ?_ | refine ok_k1 ?_ | refine ok_es0 ?_ | refine ok_es1 ?_ | refine ok_as0 ?_ | refine ok_as1 ?_ | refine ok_as2 ?_ | refine ok_val ?_ | refine ok_rng ?_ | refine ok_rngD ?_ | refine ok_enumT ?_ | refine ok_zip ?_ | refine ok_tt2 ?_ | refine ok_tt3 ?_ | refine ok_ts0 ?_ | refine ok_ts1 ?_ | refine ok_body ?_ | refine ok_sub ?_ | refine ok_evT ?_ | refine en_tup ?_ | refine en_lst ?_ | refine zi_tup ?_ | refine is_int ?_ | refine sq_tup ?_ | refine sq_lst ?_ | refine ok_gint ?_ | refine ok_ndT ?_ | refine ok_ndK ?_ | refine okt_b ?_ | refine op_add ?_ | refine op_sub ?_ | refine op_and ?_ | refine op_lt2 ?_ | refine op_le2 ?_ | refine op_gt2 ?_ | refine op_ge2 ?_ | refine op_eq2 ?_ | refine op_ne2 ?_ | refine op_eqS ?_ | refine op_neS ?_ | refine bl_intb ?_ | refine bl_inti ?_ | refine bl_lenT ?_ | refine bl_lenL ?_ | refine bl_abs ?_ | refine bl_max ?_ | refine bl_min ?_ | refine it_tup ?_ | refine it_lst ?_))
local macro_rules | `(tactic| walk_at "vi step0") => `(tactic| repeat (with_reducible first | refine ok_var (by repeat constructor) ?_ | refine ok_name (by repeat constructor) ?_ | refine ok_comp (by repeat constructor) ?_ | refine ok_s1 ?_ | refine at_nx ?_ | refine at_rt ?_ | refine at_ex ?_ | refine ok_set ?_ | refine ok_par ?_ | refine ok_expr ?_ | refine ok_sret ?_ | refine ok_sretN ?_ | refine ok_site ?_ | refine ok_for ?_ | refine ok_while ?_ | refine ok_pass ?_ | refine ok_raise ?_ | refine ok_s0 ?_ | refine ok_cst ?_ | refine ok_tup ?_ | refine ok_lst ?_ | refine ok_bin ?_ | refine ok_neg ?_ | refine ok_not ?_ | refine ok_and ?_ | refine ok_or ?_ | refine ok_and1 ?_ | refine ok_or1 ?_ | refine ok_and2 ?_ | refine ok_or2 ?_ | refine ok_cmp ?_ | refine ok_chain ?_ | refine ok_isN ?_ | refine ok_ite ?_ | refine ok_idx ?_ | refine ok_slice ?_ | refine ok_o0 ?_ | refine ok_o1 ?_ | refine ok_rev ?_ | refine ok_call ?_ | refine ok_blt ?_ | refine ok_lrng ?_ | refine ok_trng ?_ | refine ok_sorted ?_ | refine ok_isa ?_ | refine ok_mt ?_ | refine ok_turn0 ?_ | refine ok_turn1 ?_ | refine ok_new ?_ | refine ok_ndct ?_ | refine ok_k0 ?_ | refine ok_k1 ?_ | refine ok_es0 ?_ | refine ok_es1 ?_ | refine ok_as0 ?_ | refine ok_as1 ?_ | refine ok_as2 ?_ | refine ok_val ?_ | refine ok_rng ?_ | refine ok_rngD ?_ | refine ok_enumT ?_ | refine ok_zip ?_ | refine ok_tt2 ?_ | refine ok_tt3 ?_ | refine ok_ts0 ?_ | refine ok_ts1 ?_ | refine ok_body ?_ | refine ok_sub ?_ | refine ok_evT ?_ | refine en_tup ?_ | refine en_lst ?_ | refine zi_tup ?_ | refine is_int ?_ | refine sq_tup ?_ | refine sq_lst ?_ | refine ok_gint ?_ | refine ok_ndT ?_ | refine ok_ndK ?_ | refine okt_b ?_))
/-! lots, forests, powers -/
theorem lots_go (f : List (List Nat)) (xs : List Nat) : xs.foldl (fun found x => found ++ found.map (· ++ [x])) f = xs.foldl (fun found x => found ++ found.map (· ++ [x])) f := rfl
abbrev lotF (f : List (List Nat)) (xs : List Nat) : List (List Nat) := xs.foldl (fun found x => found ++ found.map (· ++ [x])) f
theorem rowT_snoc (l : List Nat) (x : Nat) : PyData.tuple (l.map natP ++ [natP x]) = rowT (l ++ [x]) := by simp [rowT]
theorem lots_map (f : List (List Nat)) (i : Nat) : f.map rowT ++ f.map (fun lot => rowT (lot ++ [i])) = (f ++ f.map (· ++ [i])).map rowT := by
  rw [List.map_append, List.map_map]; rfl
theorem pc_eq (a N k : Nat) : ((a : Int) = (N : Int) - (k : Int)) ↔ a + k = N := by omega
theorem lots_few {m : Nat} (hm : m ≤ 12) : (Fo.lotsN m).length ≤ 4096 := by
  unfold Fo.lotsN
  rw [Fo.lots_length, List.length_range]
  exact Nat.le_trans (Nat.pow_le_pow_right (by omega) hm) (by decide)
theorem zone_forests_ok (n : Nat) {st : Sto} {N : Nat} {E : Fo.Ed} {Q : D → Sto → Prop} (hN2 : N ≤ 1000) (he : Fo.InF N E) (hm : E.length ≤ 12) (hb : st.all (belowO st.length) = true) (q : Q (.v (.list ((sortN (Fo.forests N E)).map rowT))) st) : Ok2 (callF Pr LIM (n + 4) i_zone_forests [frD N E] st) Q := by
  refine run_of p_zone_forests rfl ?_; simp only [f_zone_forests, List.map_cons, List.map_nil, List.cons_append, List.nil_append, Nat.reduceSub, List.replicate_succ, List.replicate_zero, List.append_nil]
  walk_at "vi step"
  refine mk_tup (ps := []) rfl (by simp) ?_
  walk_at "vi step"
  refine mk_lst (ps := [.tuple []]) rfl (by simp) ?_
  walk_at "vi step"
  refine qx_tup (k := 1) (p := .tuple (E.map edP)) rfl ?_
  walk_at "vi step"
  rw [List.length_map]
  refine rng_one (n := E.length) (by omega) ?_
  refine fo_inv (e := fun i : Nat => D.v (.int (i : Nat))) (fun l env st' => ∃ (f : List (List Nat)) (u1 u2 : Option D), st' = st ∧ env = [some (frD N E), some (.v (.list (f.map rowT))), u1, u2] ∧ f.length * 2 ^ l.length ≤ 4096 ∧ (∀ lot ∈ f, lot.length + l.length ≤ E.length) ∧ lotF f l = Fo.lotsN E.length) ?_ ?_ ?_
  · rintro i l env st' ⟨f, u1, u2, rfl, rfl, hf, hw, hl⟩
    have hp : 1 ≤ 2 ^ l.length := Nat.pos_of_ne_zero (by simp)
    have hf2 : 2 * f.length ≤ 4096 := by
      rw [List.length_cons, Nat.pow_succ] at hf
      have := Nat.mul_le_mul_left (f.length * 2) hp
      have e : f.length * (2 ^ l.length * 2) = f.length * 2 * 2 ^ l.length := by rw [Nat.mul_comm (2 ^ l.length) 2, Nat.mul_assoc]
      omega
    walk_at "vi step"
    rw [row_tup]
    refine co_map (e := rowTD) (g := fun lot => rowT (lot ++ [i])) (by omega) ?_ ?_
    · intro lot hlot
      have hlw := hw lot hlot
      rw [List.length_cons] at hlw
      walk_at "vi step"
      refine mk_tup (ps := lot.map natP ++ [natP i]) (by rw [← List.map_singleton, ← List.map_append, plains_map]) (by simp; omega) ?_
      rw [rowT_snoc]
      exact ⟨rfl, rfl⟩
    · refine op_addL (by simp; omega) ?_
      rw [lots_map]
      walk_at "vi step"
      refine ⟨rfl, f ++ f.map (· ++ [i]), _, _, rfl, rfl, ?_, ?_, hl⟩
      · rw [List.length_append, List.length_map, ← Nat.two_mul]
        rw [List.length_cons, Nat.pow_succ] at hf
        rw [Nat.mul_comm 2, Nat.mul_assoc, Nat.mul_comm 2]
        exact hf
      · intro lot hlot
        rw [List.mem_append] at hlot
        rcases hlot with hlot | hlot
        · have := hw lot hlot
          rw [List.length_cons] at this
          omega
        · obtain ⟨lot', h1, rfl⟩ := List.mem_map.mp hlot
          have := hw lot' h1
          rw [List.length_cons] at this
          simp
          omega
  · refine ⟨[[]], _, _, rfl, rfl, ?_, by simp, rfl⟩
    rw [List.length_range, List.length_singleton, Nat.one_mul]
    exact Nat.le_trans (Nat.pow_le_pow_right (by omega) hm) (by decide)
  · rintro env st' ⟨f, u1, u2, rfl, rfl, hf, hw, hl⟩
    have hl2 : f = Fo.lotsN E.length := hl
    subst hl2
    walk_at "vi step"
    rw [row_tup]
    refine co_filter (e := rowTD) (p := Fo.isF N E) (g := rowT) (by have := lots_few hm; omega) ?_ ?_
    · intro lot hlot
      have hlt := Fo.lot_lt hlot
      walk_at "vi step"
      with_reducible refine piece_count_ok n hN2 he hlt hb ?_
      walk_at "vi step"
      refine qx_tup (k := 0) (p := natP N) rfl ?_
      walk_at "vi step"
      rw [List.length_map]
      refine ⟨fun g => ?_, fun g => ?_⟩
      · have := of_decide_eq_true g
        rw [pc_eq] at this
        walk_at "vi step"
        refine ⟨?_, rfl⟩
        rw [show Fo.isF N E lot = true from decide_eq_true this]; rfl
      · have := of_decide_eq_false g
        rw [pc_eq] at this
        refine ⟨?_, rfl⟩
        rw [show Fo.isF N E lot = false from decide_eq_false this]; rfl
    · refine sort_rowsN (Nat.le_trans (List.length_filter_le _ _) (by have := lots_few hm; omega)) ?_
      walk_at "vi step"
      exact ⟨_, rfl, lv_same (Nat.le_refl _) q⟩
theorem sum_cast (l : List Nat) : (l.map fun (i : Nat) => (i : Int)).sum = ((l.sum : Nat) : Int) := by
  induction l with
  | nil => rfl
  | cons a l ih => rw [List.map_cons, List.sum_cons, List.sum_cons, ih, Int.natCast_add]

end K58
set_option Elab.async false
set_option linter.all false
set_option maxRecDepth 100000
set_option maxHeartbeats 400000
namespace K58
open PySem PySem.Spec PyProof.Rows L2 Vi
local macro_rules | `(tactic| walk_at "vi step") => `(tactic| repeat (with_reducible first | refine ok_var (by repeat constructor) ?_ | refine ok_name (by repeat constructor) ?_ | refine ok_comp (by repeat constructor) ?_ | refine ok_s1 ?_ | refine at_nx ?_ | refine at_rt ?_ | refine at_ex ?_ | refine ok_set ?_ | refine ok_par ?_ | refine ok_expr ?_ | refine ok_sret ?_ | refine ok_sretN ?_ | refine ok_site ?_ | refine ok_for ?_ | refine ok_while ?_ | refine ok_pass ?_ | refine ok_raise ?_ | refine ok_s0 ?_ | refine ok_cst ?_ | refine ok_tup ?_ | refine ok_lst ?_ | refine ok_bin ?_ | refine ok_neg ?_ | refine ok_not ?_ | refine ok_and ?_ | refine ok_or ?_ | refine ok_and1 ?_ | refine ok_or1 ?_ | refine ok_and2 ?_ | refine ok_or2 ?_ | refine ok_cmp ?_ | refine ok_chain ?_ | refine ok_isN ?_ | refine ok_ite ?_ | refine ok_idx ?_ | refine ok_slice ?_ | refine ok_o0 ?_ | refine ok_o1 ?_ | refine ok_rev ?_ | refine ok_call ?_ | refine ok_blt ?_ | refine ok_lrng ?_ | refine ok_trng ?_ | refine ok_sorted ?_ | refine ok_isa ?_ | refine ok_mt ?_ | refine ok_turn0 ?_ | refine ok_turn1 ?_ | refine ok_new ?_ | refine ok_ndct ?_ | refine ok_k0 ?_ | refine ok_k1 ?_ | refine ok_es0 ?_ | refine ok_es1 ?_ | refine ok_as0 ?_ | refine ok_as1 ?_ | refine ok_as2 ?_ | refine ok_val ?_ | refine ok_rng ?_ | refine ok_rngD ?_ | refine ok_enumT ?_ | refine ok_zip ?_ | refine ok_tt2 ?_ | refine ok_tt3 ?_ | refine ok_ts0 ?_ | refine ok_ts1 ?_ | refine ok_body ?_ | refine ok_sub ?_ | refine ok_evT ?_ | refine en_tup ?_ | refine en_lst ?_ | refine zi_tup ?_ | refine is_int ?_ | refine sq_tup ?_ | refine sq_lst ?_ | refine ok_gint ?_ | refine ok_ndT ?_ | refine ok_ndK ?_ | refine okt_b ?_ | refine op_add ?_ | refine op_sub ?_ | refine op_and ?_ | refine op_lt2 ?_ | refine op_le2 ?_ | refine op_gt2 ?_ | refine op_ge2 ?_ | refine op_eq2 ?_ | refine op_ne2 ?_ | refine op_eqS ?_ | refine op_neS ?_ | refine bl_intb ?_ | refine bl_inti ?_ | refine bl_lenT ?_ | refine bl_lenL ?_ | refine bl_abs ?_ | refine bl_max ?_ | refine bl_min ?_ | refine it_tup ?_ | refine it_lst ?_))
local macro_rules | `(tactic| walk_at "vi step0") => `(tactic| repeat (with_reducible first | refine ok_var (by repeat constructor) ?_ | refine ok_name (by repeat constructor) ?_ | refine ok_comp (by repeat constructor) ?_ | refine ok_s1 ?_ | refine at_nx ?_ | refine at_rt ?_ | refine at_ex ?_ | refine ok_set ?_ | refine ok_par ?_ | refine ok_expr ?_ | refine ok_sret ?_ | refine ok_sretN ?_ | refine ok_site ?_ | refine ok_for ?_ | refine ok_while ?_ | refine ok_pass ?_ | refine ok_raise ?_ | refine ok_s0 ?_ | refine ok_cst ?_ | refine ok_tup ?_ | refine ok_lst ?_ | refine ok_bin ?_ | refine ok_neg ?_ | refine ok_not ?_ | refine ok_and ?_ | refine ok_or ?_ | refine ok_and1 ?_ | refine ok_or1 ?_ | refine ok_and2 ?_ | refine ok_or2 ?_ | refine ok_cmp ?_ | refine ok_chain ?_ | refine ok_isN ?_ | refine ok_ite ?_ | refine ok_idx ?_ | refine ok_slice ?_ | refine ok_o0 ?_ | refine ok_o1 ?_ | refine ok_rev ?_ | refine ok_call ?_ | refine ok_blt ?_ | refine ok_lrng ?_ | refine ok_trng ?_ | refine ok_sorted ?_ | refine ok_isa ?_ | refine ok_mt ?_ | refine ok_turn0 ?_ | refine ok_turn1 ?_ | refine ok_new ?_ | refine ok_ndct ?_ | refine ok_k0 ?_ | refine ok_k1 ?_ | refine ok_es0 ?_ | refine ok_es1 ?_ | refine ok_as0 ?_ | refine ok_as1 ?_ | refine ok_as2 ?_ | refine ok_val ?_ | refine ok_rng ?_ | refine ok_rngD ?_ | refine ok_enumT ?_ | refine ok_zip ?_ | refine ok_tt2 ?_ | refine ok_tt3 ?_ | refine ok_ts0 ?_ | refine ok_ts1 ?_ | refine ok_body ?_ | refine ok_sub ?_ | refine ok_evT ?_ | refine en_tup ?_ | refine en_lst ?_ | refine zi_tup ?_ | refine is_int ?_ | refine sq_tup ?_ | refine sq_lst ?_ | refine ok_gint ?_ | refine ok_ndT ?_ | refine ok_ndK ?_ | refine okt_b ?_))
theorem pick_lit (n : Nat) {σ0 : Sr} (h0 : σ0.ok) {z : Int} {m : Nat} (hz : z = (m : Nat)) (hm : m < 1000000) {r : Sto} {Q : D → Sto → Prop} (q : ∀ (x : Nat) (σ' : Sr), σ'.ok → x < max 1 m → Q (natD x) (σ'.st r)) : Ok2 (callF Pr LIM (n + 1) i__law_pick [.ref 1, .v (.int z)] (σ0.st r)) Q := by
  subst hz
  exact pick_ok n h0 hm q
/-! a list in a drawn sequence -/
theorem ne_nilG {st : Sto} {n : Nat} {xs : List PyData} {B : Bool → Prop} (hx : st[n]? = some (.lst (xs.map D.v))) (hs : SeqAt.shaped (.list xs) = true) (h : B (!decide (xs = []))) : Ok (cmpop st .NotEq (.ref n) (.v (.list []))) B := by
  refine ⟨_, ?_, h⟩
  have hp : toP st (.ref n) = some (.list xs) := by
    simp only [toP, hx]
    rw [plains_map]
    rfl
  have e : sPair (.ref n) (.v (.list [])) = none := rfl
  have s2 : SeqAt.shaped (.list []) = true := by rfl
  have hq : toP st (.v (.list [])) = some (.list []) := rfl
  simp only [cmpop, e, cmpop0, hp, hq, eqOk, hs, s2, Bool.and_self, if_true]
  cases xs <;> simp [PyData.eqv, PyData.eqvAll]
theorem frz_all {m k : Nat} {st : Sto} : ∀ xs : List PyData, (xs.map D.v).mapM (fun x => (frz1 m st k x).bind plain1) = some xs := by
  intro xs
  induction xs with
  | nil => rfl
  | cons x xs ih =>
    rw [List.map_cons, List.mapM_cons, ih]
    cases k <;> rfl
theorem lv_ref {st st' : Sto} {n : Nat} {xs : List PyData} {Q : D → Sto → Prop} (hb : st.all (belowO st.length) = true) (hn : st.length ≤ n) (hx : st'[n]? = some (.lst (xs.map D.v))) (r : Sto) (e : st' = st ++ r) (q : Q (.v (.list xs)) st) : Ok2 (leave false st.length (.ref n) st') Q := by
  have hlt : n < st'.length := by
    by_cases h : n < st'.length
    · exact h
    · rw [List.getElem?_eq_none (by omega)] at hx
      cases hx
  have hl : ¬ st'.length ≤ st.length := by omega
  have ht : st'.take st.length = st := by rw [e, List.take_left]
  have hf : frz1 st.length st' 8 (.ref n) = some (.v (.list xs)) := by
    have : ¬ n < st.length := by omega
    simp only [frz1, this, if_false, hx, frz_all]
    rfl
  refine .of ?_ q
  unfold leave
  simp only [Bool.false_or, decide_eq_true_eq, hl, if_false, hf, ht, hb, if_true]
theorem sr_len (σ : Sr) (r : Sto) : (σ.st r).length = r.length + 2 := by simp [Sr.st]
theorem sr_bel {σ : Sr} {r : Sto} (hr : r.all (belowO (r.length + 2)) = true) : (σ.st r).all (belowO (σ.st r).length) = true := by
  rw [sr_len]
  simp only [Sr.st, List.all_cons, hr, Bool.and_true, Bool.and_eq_true]
  refine ⟨?_, ?_⟩
  · simp [belowO, belowD]
  · simp [belowO, belowD]
theorem two_at0 (σ : Sr) (r : Sto) (x y : Vi.O) : (σ.st (r ++ [x, y]))[r.length + 2]? = some x := by simp [Sr.st]
theorem two_at1 (σ : Sr) (r : Sto) (x y : Vi.O) : (σ.st (r ++ [x, y]))[r.length + 3]? = some y := by simp [Sr.st]
theorem two_set0 (σ : Sr) (r : Sto) (x y z : Vi.O) : (σ.st (r ++ [x, y])).set (r.length + 2) z = σ.st (r ++ [z, y]) := by simp [Sr.st]
theorem two_set1 (σ : Sr) (r : Sto) (x y z : Vi.O) : (σ.st (r ++ [x, y])).set (r.length + 3) z = σ.st (r ++ [x, z]) := by simp [Sr.st]
theorem mixed_ok (n : Nat) {σ : Sr} (h : σ.ok) {xs : List PyData} {d : D} {r : Sto} (hd : blt (σ.st r) .list [d] = .ok (.v (.list xs))) (hl : xs.length < 3000) (hw : ∀ x ∈ xs, ∃ k w, k ≤ 60 ∧ Ne x k w) (hr : r.all (belowO (r.length + 2)) = true) {Q : D → Sto → Prop} (q : ∀ ps (σ' : Sr), σ'.ok → ps.Perm xs → Q (.v (.list ps)) (σ'.st r)) : Ok2 (callF Pr LIM (n + 2) i__law_mixed [.ref 1, d] (σ.st r)) Q := by
  refine run_of p__law_mixed rfl ?_; simp only [f__law_mixed, List.map_cons, List.map_nil, List.cons_append, List.nil_append, Nat.reduceSub, List.replicate_succ, List.replicate_zero, List.append_nil]
  walk_at "vi step"
  have hb : ∀ {G : D → Prop}, G (.v (.list xs)) → Ok (blt (σ.st r) .list [d]) G := fun g => ok_ret hd g
  refine hb ?_
  refine is_lst ?_
  walk_at "vi step"
  refine mk_lst (ps := []) rfl (by simp) ?_
  refine is_lst ?_
  walk_at "vi step"
  have hsh : ∀ rest : List PyData, (∀ x ∈ rest, x ∈ xs) → SeqAt.shaped (.list rest) = true := by
    intro rest hrest
    have : ∀ rest : List PyData, (∀ x ∈ rest, x ∈ xs) → ∃ w, ∀ x ∈ rest, Ne x 60 w := by
      intro rest
      induction rest with
      | nil => intro _; exact ⟨0, by simp⟩
      | cons x rest ih =>
        intro hx
        obtain ⟨w, hw1⟩ := ih fun y hy => hx y (by simp [hy])
        obtain ⟨k, w2, hk, hw2⟩ := hw x (hx x (by simp))
        refine ⟨max w w2, fun y hy => ?_⟩
        rcases List.mem_cons.mp hy with rfl | hy
        · exact hw2.up hk (by omega)
        · exact (hw1 y hy).up (by omega) (by omega)
    obtain ⟨w, hw1⟩ := this rest hrest
    exact (Ne.lst hw1 (Nat.le_refl _)).shaped (by omega)
  refine wh_inv (fun j env st' => ∃ (σ' : Sr) (rest found : List PyData), j = rest.length ∧ σ'.ok ∧ env = [some (.ref 1), some (.ref (r.length + 2)), some (.ref (r.length + 3))] ∧ st' = σ'.st (r ++ [.lst (rest.map D.v), .lst (found.map D.v)]) ∧ (found ++ rest).Perm xs) xs.length (Nat.lt_of_lt_of_le hl (by show 3000 ≤ 4000; omega)) ?_ ?_
  · rintro j env st' ⟨σ', rest, found, rfl, h', rfl, rfl, hp⟩
    have hc : found.length + rest.length = xs.length := by
      have := hp.length_eq
      rwa [List.length_append] at this
    have hsub : ∀ x ∈ rest, x ∈ xs := fun x hx => hp.mem_iff.mp (by simp [hx])
    refine ok_evT ?_
    walk_at "vi step"
    refine mk_lst (ps := []) rfl (by simp) ?_
    refine ne_nilG (two_at0 _ _ _ _) (hsh rest hsub) ?_
    walk_at "vi step"
    refine ⟨fun e => ?_, fun e => ?_⟩
    · have hr0 : rest = [] := by simpa using e
      subst hr0
      rw [List.append_nil] at hp
      walk_at "vi step"
      refine ⟨_, rfl, ?_⟩
      have e2 : σ'.st (r ++ [.lst (([] : List PyData).map D.v), .lst (found.map D.v)]) = σ'.st r ++ [.lst (([] : List PyData).map D.v), .lst (found.map D.v)] := rfl
      have e3 : (σ.st r).length = (σ'.st r).length := by rw [sr_len, sr_len]
      rw [e3]
      exact lv_ref (xs := found) (sr_bel hr) (by rw [sr_len]; omega) (two_at1 _ _ _ _) _ e2 (q found σ' h' hp)
    · have hr0 : rest ≠ [] := by simpa using e
      walk_at "vi step"
      refine mt_ref rfl (two_at1 _ _ _ _) ?_
      walk_at "vi step"
      refine mt_ref rfl (two_at0 _ _ _ _) ?_
      walk_at "vi step"
      refine bl_lenR (two_at0 _ _ _ _) ?_
      walk_at "vi step"
      rw [List.length_map]
      with_reducible refine pick_ok n h' (m := rest.length) (by omega) fun x σ2 h2 hx => ?_
      have hx2 : x < rest.length := by
        have : 0 < rest.length := List.length_pos_iff.mpr hr0
        omega
      walk_at "vi step"
      refine me_popAt (i := x) (by omega) (two_at0 _ _ _ _) (d := .v rest[x]) (by rw [List.getElem?_map, List.getElem?_eq_getElem hx2]; rfl) ?_
      rw [two_set0]
      walk_at "vi step"
      refine me_append (two_at1 _ _ _ _) (by simp; omega) ?_
      rw [two_set1]
      walk_at "vi step"
      refine ⟨rfl, (rest.eraseIdx x).length, ?_, σ2, rest.eraseIdx x, found ++ [rest[x]], rfl, h2, rfl, ?_, ?_⟩
      · rw [List.length_eraseIdx_of_lt hx2]
        omega
      · rw [List.map_append]
        congr 3
        simp only [List.eraseIdx_eq_take_drop_succ, List.map_append, List.map_take, List.map_drop]
      · refine List.Perm.trans ?_ hp
        rw [List.append_assoc]
        refine List.Perm.append_left found ?_
        have e1 : rest = rest.take x ++ rest[x] :: rest.drop (x + 1) := by rw [List.getElem_cons_drop hx2, List.take_append_drop]
        have p1 : (rest[x] :: (rest.take x ++ rest.drop (x + 1))).Perm (rest.take x ++ rest[x] :: rest.drop (x + 1)) := List.perm_middle.symm
        rw [← e1] at p1
        rw [List.eraseIdx_eq_take_drop_succ]
        exact p1
  · refine ⟨σ, xs, [], rfl, h, ?_, ?_, by simp⟩
    · simp [Sr.st]
    · simp [Sr.st]
/-! a drawn frame -/
theorem one_at (σ : Sr) (r : Sto) (x : Vi.O) : (σ.st (r ++ [x]))[r.length + 2]? = some x := by simp [Sr.st]
theorem sr_app (σ : Sr) (r s : Sto) : σ.st r ++ s = σ.st (r ++ s) := rfl
theorem one_set (σ : Sr) (r : Sto) (x z : Vi.O) : (σ.st (r ++ [x])).set (r.length + 2) z = σ.st (r ++ [z]) := by simp [Sr.st]
theorem bel_up {k k' : Nat} (h : k ≤ k') : ∀ o : Vi.O, belowO k o = true → belowO k' o = true := by
  have hd : ∀ d : D, belowD k d = true → belowD k' d = true := by
    intro d hd
    cases d with
    | ref n => exact decide_eq_true (Nat.lt_of_lt_of_le (of_decide_eq_true hd) h)
    | v p => rfl
    | scr ns => rfl
  intro o ho
  cases o with
  | lst xs => simp only [belowO, List.all_eq_true] at ho ⊢; exact fun x hx => hd x (ho x hx)
  | dct kvs => simp only [belowO, List.all_eq_true] at ho ⊢; exact fun x hx => hd _ (ho x hx)
  | dk lk kvs => simp only [belowO, Bool.and_eq_true, List.all_eq_true] at ho ⊢; exact ⟨ho.1, fun x hx => hd _ (ho.2 x hx)⟩
  | dt lk kvs => simp only [belowO, Bool.and_eq_true, List.all_eq_true] at ho ⊢; exact ⟨ho.1, fun x hx => hd _ (ho.2 x hx)⟩
theorem bel_app {r s : Sto} (hr : r.all (belowO (r.length + 2)) = true) (hs : s.all (belowO (r.length + 2)) = true) : (r ++ s).all (belowO ((r ++ s).length + 2)) = true := by
  rw [List.all_append, Bool.and_eq_true]
  rw [List.all_eq_true] at hr hs
  refine ⟨List.all_eq_true.mpr fun o ho => bel_up (by rw [List.length_append]; omega) o (hr o ho), List.all_eq_true.mpr fun o ho => bel_up (by rw [List.length_append]; omega) o (hs o ho)⟩
abbrev edsO (E : Fo.Ed) : Vi.O := .lst (E.map fun e => D.v (edP e))
theorem eds_bel (k : Nat) (E : Fo.Ed) : belowO k (edsO E) = true := by simp [belowO, belowD]
theorem one_bel {r : Sto} (hr : r.all (belowO (r.length + 2)) = true) (E : Fo.Ed) : (r ++ [edsO E]).all (belowO ((r ++ [edsO E]).length + 2)) = true := bel_app hr (by simp [eds_bel])
theorem frame_ok (n : Nat) {σ : Sr} (h : σ.ok) {c m : Nat} (hc0 : 0 < c) (hc : c ≤ 99) (hm : m ≤ 99) {r : Sto} (hr : r.all (belowO (r.length + 2)) = true) {Q : D → Sto → Prop} (q : ∀ (N : Nat) (E : Fo.Ed) (σ' : Sr), σ'.ok → 0 < N → N ≤ c → E.length ≤ m → Fo.InF N E → Q (frD N E) (σ'.st r)) :
    Ok2 (callF Pr LIM (n + 3) i__law_frame [.ref 1, natD c, natD m] (σ.st r)) Q := by
  refine run_of p__law_frame rfl ?_; simp only [f__law_frame, List.map_cons, List.map_nil, List.cons_append, List.nil_append, Nat.reduceSub, List.replicate_succ, List.replicate_zero, List.append_nil]
  walk_at "vi step"
  with_reducible refine pick_ok (n + 1) h (m := c) (by omega) fun x σ1 h1 hx => ?_
  have hx' : x < c := by omega
  have e1 : (1 : Int) + (x : Int) = ((1 + x : Nat) : Int) := by omega
  walk_at "vi step"
  rw [e1]
  generalize hN : 1 + x = N
  have hN0 : 0 < N := by omega
  have hN1 : N ≤ c := by omega
  refine mk_lst (ps := []) rfl (by simp) ?_
  refine is_lst ?_
  walk_at "vi step"
  have e2 : (m : Int) + 1 = ((m + 1 : Nat) : Int) := by omega
  rw [e2]
  rw [sr_app]
  with_reducible refine pick_ok (n + 1) h1 (m := m + 1) (by omega) fun y σ2 h2 hy => ?_
  walk_at "vi step"
  refine rng_one (n := y) (by omega) ?_
  refine fo_inv (e := fun i : Nat => D.v (.int (i : Nat))) (fun l env st' => ∃ (σ' : Sr) (E : Fo.Ed) (u5 u6 u7 : Option D), σ'.ok ∧ st' = σ'.st (r ++ [edsO E]) ∧ env = [some (.ref 1), some (natD c), some (natD m), some (natD N), some (.ref (r.length + 2)), u5, u6, u7, none] ∧ Fo.InF N E ∧ E.length + l.length ≤ m) ?_ ?_ ?_
  · rintro i l env st' ⟨σ', E, u5, u6, u7, h', rfl, rfl, he, hlm⟩
    rw [List.length_cons] at hlm
    walk_at "vi step"
    with_reducible refine pick_ok (n + 1) h' (m := N) (by omega) fun a σ3 h3 ha => ?_
    walk_at "vi step"
    with_reducible refine pick_ok (n + 1) h3 (m := N) (by omega) fun b σ4 h4 hb => ?_
    have ha' : a < N := by omega
    have hb' : b < N := by omega
    have fin : ∀ (b : Nat), b < N → Fo.InF N (E ++ [(a, b)]) := by
      intro b hb e hm
      rw [List.mem_append, List.mem_singleton] at hm
      rcases hm with hm | rfl
      · exact he e hm
      · exact ⟨ha', hb⟩
    have one : (if ((N : Nat) : Int) - 1 > 1 then ((N : Nat) : Int) - 1 else 1) = ((max 1 (N - 1) : Nat) : Int) := by split <;> omega
    walk_at "vi step"
    refine ⟨fun e => ?_, fun e => ?_⟩
    · walk_at "vi step"
      refine pick_lit (n + 1) h4 (m := 3) rfl (by omega) fun z σ5 h5 hz => ?_
      walk_at "vi step"
      refine ⟨fun e => ?_, fun e => ?_⟩
      · walk_at "vi step"
        rw [one]
        with_reducible refine pick_ok (n + 1) h5 (m := max 1 (N - 1)) (by omega) fun w σ6 h6 hw => ?_
        walk_at "vi step"
        refine op_mod (by omega) ?_
        have e3 : ((a : Int) + 1 + (w : Int)).fmod (N : Int) = (((a + 1 + w) % N : Nat) : Int) := by
          rw [Int.fmod_eq_emod_of_nonneg _ (by omega), Int.natCast_emod]
          congr 1
        rw [e3]
        have hw2 : (a + 1 + w) % N < N := Nat.mod_lt _ hN0
        generalize (a + 1 + w) % N = b2 at hw2 ⊢
        walk_at "vi step"
        refine mt_ref (xs := E.map fun e => D.v (edP e)) rfl (one_at _ _ _) ?_
        walk_at "vi step"
        refine mk_tup (ps := [natP a, natP b2]) rfl (by simp) ?_
        walk_at "vi step"
        refine me_append (xs := E.map fun e => D.v (edP e)) (one_at _ _ _) (by rw [List.length_map]; omega) ?_
        have f2 := fin b2 hw2
        rw [one_set]
        walk_at "vi step"
        exact ⟨rfl, σ6, E ++ [(a, b2)], _, _, _, h6, by simp [edsO], rfl, f2, by simp; omega⟩
      · walk_at "vi step"
        refine mt_ref (xs := E.map fun e => D.v (edP e)) rfl (one_at _ _ _) ?_
        walk_at "vi step"
        refine mk_tup (ps := [natP a, natP b]) rfl (by simp) ?_
        walk_at "vi step"
        refine me_append (xs := E.map fun e => D.v (edP e)) (one_at _ _ _) (by rw [List.length_map]; omega) ?_
        have f2 := fin b hb'
        rw [one_set]
        walk_at "vi step"
        exact ⟨rfl, σ5, E ++ [(a, b)], _, _, _, h5, by simp [edsO], rfl, f2, by simp; omega⟩
    · walk_at "vi step"
      refine ⟨fun e2 => (by rw [e] at e2; cases e2), fun _ => ?_⟩
      walk_at "vi step"
      refine mt_ref (xs := E.map fun e => D.v (edP e)) rfl (one_at _ _ _) ?_
      walk_at "vi step"
      refine mk_tup (ps := [natP a, natP b]) rfl (by simp) ?_
      walk_at "vi step"
      refine me_append (xs := E.map fun e => D.v (edP e)) (one_at _ _ _) (by rw [List.length_map]; omega) ?_
      have f2 := fin b hb'
      rw [one_set]
      walk_at "vi step"
      exact ⟨rfl, σ4, E ++ [(a, b)], _, _, _, h4, by simp [edsO], rfl, f2, by simp; omega⟩
  · refine ⟨σ2, [], _, _, _, h2, rfl, rfl, (fun e he => nomatch he), by simp; omega⟩
  · rintro env st' ⟨σ', E, u5, u6, u7, h', rfl, rfl, he, hlm⟩
    walk_at "vi step"
    refine rng_one (n := N) (by omega) ?_
    rw [range_lst]
    refine mk_lst (plains_map _) (by simp; omega) ?_
    walk_at "vi step"
    with_reducible refine mixed_ok n (xs := (List.range N).map natP) h' (list_l (by rw [List.length_map, List.length_range]; omega)) (by rw [List.length_map, List.length_range]; omega) (fun p hp => ?_) (one_bel hr E) fun ps σ7 h7 hps => ?_
    · obtain ⟨i, hi, rfl⟩ := List.mem_map.mp hp
      exact ⟨0, 40, by omega, natP_ne (by have := List.mem_range.mp hi; omega)⟩
    obtain ⟨names, hnp, rfl⟩ := perm_map hps rfl
    have hnl : names.length = N := by rw [hnp.length_eq, List.length_range]
    have hnn : ∀ i ∈ names, i < N := fun i hi => List.mem_range.mp (hnp.mem_iff.mp hi)
    walk_at "vi step"
    refine it_ref (one_at _ _ _) ?_
    refine cv_map (e := fun e : Nat × Nat => D.v (edP e)) (g := fun e : Nat × Nat => edP (Fo.hd names e.1, Fo.hd names e.2)) (n := r.length + 2) (xs := E) (one_at _ _ _) (by show E.length < 4000; omega) (by omega) ?_ ?_
    · rintro ⟨a, b⟩ hab
      obtain ⟨ha, hb⟩ := he (a, b) hab
      walk_at "vi step"
      refine qx_lst (hd_at (by omega)) ?_
      walk_at "vi step"
      refine qx_lst (hd_at (by omega)) ?_
      walk_at "vi step"
      refine mk_tup (ps := [natP (Fo.hd names a), natP (Fo.hd names b)]) rfl (by simp) ?_
      exact ⟨rfl, rfl⟩
    · walk_at "vi step"
      refine bl_tupL (by rw [List.length_map]; omega) ?_
      walk_at "vi step"
      have e5 : (E.map fun e : Nat × Nat => edP (Fo.hd names e.1, Fo.hd names e.2)) = (E.map fun e : Nat × Nat => (Fo.hd names e.1, Fo.hd names e.2)).map edP := by rw [List.map_map]; rfl
      rw [e5]
      refine mk_tup (ps := [natP N, .tuple ((E.map fun e : Nat × Nat => (Fo.hd names e.1, Fo.hd names e.2)).map edP)]) rfl (by simp) ?_
      have hdl : ∀ i, i < N → Fo.hd names i < N := fun i hi => by
        have e : Fo.hd names i = names[i] := by simp [Fo.hd, hnl, hi]
        rw [e]
        exact hnn _ (List.getElem_mem _)
      walk_at "vi step"
      refine ⟨_, rfl, ?_⟩
      have e6 : (σ.st r).length = (σ7.st r).length := rfl
      rw [e6]
      refine lv_cut (sr_bel hr) [edsO E] rfl (q N _ σ7 h7 hN0 hN1 (by simp; omega) ?_)
      intro e hm
      obtain ⟨⟨a, b⟩, hab, rfl⟩ := List.mem_map.mp hm
      obtain ⟨ha, hb⟩ := he (a, b) hab
      exact ⟨hdl a ha, hdl b hb⟩

end K58
set_option Elab.async false
set_option linter.all false
set_option maxRecDepth 100000
set_option maxHeartbeats 400000
namespace K58
open PySem PySem.Spec PyProof.Rows L2 Vi
local macro_rules | `(tactic| walk_at "vi step") => `(tactic| repeat (with_reducible first | refine ok_var (by repeat constructor) ?_ | refine ok_name (by repeat constructor) ?_ | refine ok_comp (by repeat constructor) ?_ | refine ok_s1 ?_ | refine at_nx ?_ | refine at_rt ?_ | refine at_ex ?_ | refine ok_set ?_ | refine ok_par ?_ | refine ok_expr ?_ | refine ok_sret ?_ | refine ok_sretN ?_ | refine ok_site ?_ | refine ok_for ?_ | refine ok_while ?_ | refine ok_pass ?_ | refine ok_raise ?_ | refine ok_s0 ?_ | refine ok_cst ?_ | refine ok_tup ?_ | refine ok_lst ?_ | refine ok_bin ?_ | refine ok_neg ?_ | refine ok_not ?_ | refine ok_and ?_ | refine ok_or ?_ | refine ok_and1 ?_ | refine ok_or1 ?_ | refine ok_and2 ?_ | refine ok_or2 ?_ | refine ok_cmp ?_ | refine ok_chain ?_ | refine ok_isN ?_ | refine ok_ite ?_ | refine ok_idx ?_ | refine ok_slice ?_ | refine ok_o0 ?_ | refine ok_o1 ?_ | refine ok_rev ?_ | refine ok_call ?_ | refine ok_blt ?_ | refine ok_lrng ?_ | refine ok_trng ?_ | refine ok_sorted ?_ | refine ok_isa ?_ | refine ok_mt ?_ | refine ok_turn0 ?_ | refine ok_turn1 ?_ | refine ok_new ?_ | refine ok_ndct ?_ | refine ok_k0 ?_ | refine ok_k1 ?_ | refine ok_es0 ?_ | refine ok_es1 ?_ | refine ok_as0 ?_ | refine ok_as1 ?_ | refine ok_as2 ?_ | refine ok_val ?_ | refine ok_rng ?_ | refine ok_rngD ?_ | refine ok_enumT ?_ | refine ok_zip ?_ | refine ok_tt2 ?_ | refine ok_tt3 ?_ | refine ok_ts0 ?_ | refine ok_ts1 ?_ | refine ok_body ?_ | refine ok_sub ?_ | refine ok_evT ?_ | refine en_tup ?_ | refine en_lst ?_ | refine zi_tup ?_ | refine is_int ?_ | refine sq_tup ?_ | refine sq_lst ?_ | refine ok_gint ?_ | refine ok_ndT ?_ | refine ok_ndK ?_ | refine okt_b ?_ | refine op_add ?_ | refine op_sub ?_ | refine op_and ?_ | refine op_lt2 ?_ | refine op_le2 ?_ | refine op_gt2 ?_ | refine op_ge2 ?_ | refine op_eq2 ?_ | refine op_ne2 ?_ | refine op_eqS ?_ | refine op_neS ?_ | refine bl_intb ?_ | refine bl_inti ?_ | refine bl_lenT ?_ | refine bl_lenL ?_ | refine bl_abs ?_ | refine bl_max ?_ | refine bl_min ?_ | refine it_tup ?_ | refine it_lst ?_))
local macro_rules | `(tactic| walk_at "vi step0") => `(tactic| repeat (with_reducible first | refine ok_var (by repeat constructor) ?_ | refine ok_name (by repeat constructor) ?_ | refine ok_comp (by repeat constructor) ?_ | refine ok_s1 ?_ | refine at_nx ?_ | refine at_rt ?_ | refine at_ex ?_ | refine ok_set ?_ | refine ok_par ?_ | refine ok_expr ?_ | refine ok_sret ?_ | refine ok_sretN ?_ | refine ok_site ?_ | refine ok_for ?_ | refine ok_while ?_ | refine ok_pass ?_ | refine ok_raise ?_ | refine ok_s0 ?_ | refine ok_cst ?_ | refine ok_tup ?_ | refine ok_lst ?_ | refine ok_bin ?_ | refine ok_neg ?_ | refine ok_not ?_ | refine ok_and ?_ | refine ok_or ?_ | refine ok_and1 ?_ | refine ok_or1 ?_ | refine ok_and2 ?_ | refine ok_or2 ?_ | refine ok_cmp ?_ | refine ok_chain ?_ | refine ok_isN ?_ | refine ok_ite ?_ | refine ok_idx ?_ | refine ok_slice ?_ | refine ok_o0 ?_ | refine ok_o1 ?_ | refine ok_rev ?_ | refine ok_call ?_ | refine ok_blt ?_ | refine ok_lrng ?_ | refine ok_trng ?_ | refine ok_sorted ?_ | refine ok_isa ?_ | refine ok_mt ?_ | refine ok_turn0 ?_ | refine ok_turn1 ?_ | refine ok_new ?_ | refine ok_ndct ?_ | refine ok_k0 ?_ | refine ok_k1 ?_ | refine ok_es0 ?_ | refine ok_es1 ?_ | refine ok_as0 ?_ | refine ok_as1 ?_ | refine ok_as2 ?_ | refine ok_val ?_ | refine ok_rng ?_ | refine ok_rngD ?_ | refine ok_enumT ?_ | refine ok_zip ?_ | refine ok_tt2 ?_ | refine ok_tt3 ?_ | refine ok_ts0 ?_ | refine ok_ts1 ?_ | refine ok_body ?_ | refine ok_sub ?_ | refine ok_evT ?_ | refine en_tup ?_ | refine en_lst ?_ | refine zi_tup ?_ | refine is_int ?_ | refine sq_tup ?_ | refine sq_lst ?_ | refine ok_gint ?_ | refine ok_ndT ?_ | refine ok_ndK ?_ | refine okt_b ?_))
/-! turnings -/
theorem tn_at {E : Fo.Ed} {T : List Nat} {i : Nat} (hT : Tu.Tn E T) (hi : i < E.length) : (T.map natP)[i]? = some (natP (T.getD i 0)) := by
  have h : i < T.length := by rw [hT.len]; exact hi
  rw [List.getElem?_map, List.getElem?_eq_getElem h]
  simp [h]
theorem tn_le {E : Fo.Ed} {T : List Nat} {i : Nat} (hT : Tu.Tn E T) (hi : i < E.length) : T.getD i 0 = 0 ∨ T.getD i 0 = 1 := by
  have h : i < T.length := by rw [hT.len]; exact hi
  have e : T.getD i 0 = T[i] := by simp [h]
  have := hT.le _ (List.getElem_mem h)
  omega
theorem tail_ok (n : Nat) {st : Sto} {N : Nat} {E : Fo.Ed} {T : List Nat} {i : Nat} {Q : D → Sto → Prop} (hT : Tu.Tn E T) (hi : i < E.length) (q : Q (natD (Tu.tl E T i)) st) : Ok2 (callF Pr LIM (n + 1) i_tail_of [frD N E, rowTD T, natD i] st) Q := by
  refine run_of p_tail_of rfl ?_; simp only [f_tail_of, List.map_cons, List.map_nil, List.cons_append, List.nil_append, Nat.reduceSub, List.replicate_succ, List.replicate_zero, List.append_nil]
  walk_at "vi step"
  refine qx_tup (k := 1) (p := .tuple (E.map edP)) rfl ?_
  walk_at "vi step"
  refine qx_tup (k := i) (p := edP (E.getD i (0, 0))) (ed_at hi) ?_
  walk_at "vi step"
  refine qx_tup (k := i) (p := natP (T.getD i 0)) (tn_at hT hi) ?_
  refine qx_tup (k := T.getD i 0) (p := natP (Tu.tl E T i)) ?_ ?_
  · unfold Tu.tl Tu.tailE
    rcases tn_le hT hi with h | h <;> rw [h] <;> rfl
  walk_at "vi step"
  exact ⟨_, rfl, lv_same (Nat.le_refl _) q⟩
theorem head_ok (n : Nat) {st : Sto} {N : Nat} {E : Fo.Ed} {T : List Nat} {i : Nat} {Q : D → Sto → Prop} (hT : Tu.Tn E T) (hi : i < E.length) (q : Q (natD (Tu.hd E T i)) st) : Ok2 (callF Pr LIM (n + 1) i_head_of [frD N E, rowTD T, natD i] st) Q := by
  refine run_of p_head_of rfl ?_; simp only [f_head_of, List.map_cons, List.map_nil, List.cons_append, List.nil_append, Nat.reduceSub, List.replicate_succ, List.replicate_zero, List.append_nil]
  walk_at "vi step"
  refine qx_tup (k := 1) (p := .tuple (E.map edP)) rfl ?_
  walk_at "vi step"
  refine qx_tup (k := i) (p := edP (E.getD i (0, 0))) (ed_at hi) ?_
  walk_at "vi step"
  refine qx_tup (k := i) (p := natP (T.getD i 0)) (tn_at hT hi) ?_
  walk_at "vi step"
  have e : (1 : Int) - ((T.getD i 0 : Nat) : Int) = ((1 - T.getD i 0 : Nat) : Int) := by rcases tn_le hT hi with h | h <;> rw [h] <;> rfl
  rw [e]
  refine qx_tup (k := 1 - T.getD i 0) (p := natP (Tu.hd E T i)) ?_ ?_
  · unfold Tu.hd Tu.headE
    rcases tn_le hT hi with h | h <;> rw [h] <;> rfl
  walk_at "vi step"
  exact ⟨_, rfl, lv_same (Nat.le_refl _) q⟩
theorem rep0 (N : Nat) : (List.replicate N [PyData.int 0]).flatten = (List.replicate N (0 : Int)).map PyData.int := by
  induction N with
  | zero => rfl
  | succ N ih => rw [List.replicate_succ, List.flatten_cons, ih]; rfl
theorem tl_lt {N : Nat} {E : Fo.Ed} {T : List Nat} {i : Nat} (he : Fo.InF N E) (hi : i < E.length) : Tu.tl E T i < N ∧ Tu.hd E T i < N := by
  obtain ⟨h1, h2⟩ := getD_in he hi
  unfold Tu.tl Tu.hd Tu.tailE Tu.headE
  constructor <;> split <;> assumption
theorem outs_of_ok (n : Nat) {st : Sto} {N : Nat} {E : Fo.Ed} {T : List Nat} {Q : D → Sto → Prop} (hN : N ≤ 900) (hE : E.length ≤ 1000) (he : Fo.InF N E) (hT : Tu.Tn E T) (hb : st.all (belowO st.length) = true) (q : Q (zrD (Tu.ol N E T)) st) : Ok2 (callF Pr LIM (n + 2) i_outs_of [frD N E, rowTD T] st) Q := by
  refine run_of p_outs_of rfl ?_; simp only [f_outs_of, List.map_cons, List.map_nil, List.cons_append, List.nil_append, Nat.reduceSub, List.replicate_succ, List.replicate_zero, List.append_nil]
  walk_at "vi step0"
  refine mk_lst (ps := [.int 0]) rfl (by simp) ?_
  walk_at "vi step0"
  refine qx_tup (k := 0) (p := natP N) rfl ?_
  refine op_rep (xs := [.int 0]) (n := N) (by simp; omega) (by omega) ?_
  rw [rep0]
  refine is_lst ?_
  walk_at "vi step"
  refine qx_tup (k := 1) (p := .tuple (E.map edP)) rfl ?_
  walk_at "vi step"
  rw [List.length_map]
  refine rng_one (n := E.length) (by omega) ?_
  refine fo_inv (e := fun i : Nat => D.v (.int (i : Nat))) (fun l env st' => ∃ (xs : List Int) (u : Option D), st' = st ++ [Vi.O.lst ((xs.map PyData.int).map D.v)] ∧ env = [some (frD N E), some (rowTD T), some (.ref st.length), u] ∧ xs.length = N ∧ (∀ i ∈ l, i < E.length) ∧ ∀ c, c < N → xs.getD c 0 + (l.map fun i => Fo.one (Tu.tl E T i) c).sum = Tu.oc E T c) ?_ ?_ ?_
  · rintro i l env st' ⟨xs, u, rfl, rfl, hx, hl, hs⟩
    have hi := hl i (by simp)
    have hv := (tl_lt (T := T) he hi).1
    walk_at "vi step"
    refine ok_augL (n := st.length) (k := Tu.tl E T i) (a := xs.getD (Tu.tl E T i) 0) (ok_var (by repeat constructor) ⟨rfl, rfl⟩) ?_ (kp_at _ _) ?_ ?_
    · walk_at "vi step"
      with_reducible refine tail_ok n hT hi ?_
      exact ⟨rfl, rfl⟩
    · rw [List.getElem?_map, zr_at (by omega)]
      rfl
    · refine ok_cst ⟨rfl, 1, rfl, ?_⟩
      rw [kp_set]
      have e : ((xs.map PyData.int).map D.v).set (Tu.tl E T i) (D.v (.int (xs.getD (Tu.tl E T i) 0 + 1))) = ((xs.set (Tu.tl E T i) (xs.getD (Tu.tl E T i) 0 + 1)).map PyData.int).map D.v := by rw [List.map_set, List.map_set]
      rw [e]
      walk_at "vi step"
      refine ⟨rfl, _, _, rfl, rfl, by rw [List.length_set]; exact hx, fun j hj => hl j (List.mem_cons_of_mem _ hj), fun c hc => ?_⟩
      have := hs c hc
      rw [List.map_cons, List.sum_cons] at this
      rw [← this]
      simp only [List.getD_eq_getElem?_getD, List.getElem?_set]
      unfold Fo.one
      by_cases h : Tu.tl E T i = c
      · subst h
        simp [hx, hv]
        omega
      · have h' : ¬ c = Tu.tl E T i := fun e => h e.symm
        simp [h, h']
  · refine ⟨List.replicate N 0, _, rfl, rfl, by simp, fun i hi => List.mem_range.mp hi, fun c hc => ?_⟩
    rw [← Tu.oc_sum hT c]
    simp [hc]
  · rintro env st' ⟨xs, u, rfl, rfl, hx, hl, hs⟩
    have e : xs = Tu.ol N E T := by
      refine List.ext_getElem (by rw [hx, Tu.ol_length]) fun i h1 h2 => ?_
      have := hs i (by omega)
      have e1 : xs.getD i 0 = xs[i] := by simp [h1]
      rw [e1] at this
      simp only [List.map_nil, List.sum_nil] at this
      have e2 : (Tu.ol N E T)[i] = Tu.oc E T i := by simp [Tu.ol]
      rw [e2]
      omega
    subst e
    walk_at "vi step"
    refine bl_tupR (kp_at _ _) (by rw [List.length_map, Tu.ol_length]; omega) ?_
    walk_at "vi step"
    exact ⟨_, rfl, lv_cut hb _ rfl q⟩
theorem turned_ok (n : Nat) {st : Sto} {E : Fo.Ed} {T p : List Nat} {Q : D → Sto → Prop} (hE : E.length ≤ 1000) (hT : Tu.Tn E T) (q : Q (rowTD (Tu.flip T p)) st) : Ok2 (callF Pr LIM (n + 1) i_turned_roads [rowTD T, rowTD p] st) Q := by
  have hl := hT.len
  refine run_of p_turned_roads rfl ?_; simp only [f_turned_roads, List.map_cons, List.map_nil, List.cons_append, List.nil_append, Nat.reduceSub, List.replicate_succ, List.replicate_zero, List.append_nil]
  walk_at "vi step"
  rw [List.zipIdx_map, List.map_map]
  refine co_map (e := fun p : Nat × Nat => D.v (.tuple [.int (p.2 : Nat), natP p.1])) (g := fun x : Nat × Nat => natP (if x.2 ∈ p then 1 - x.1 else x.1)) (by simp; omega) ?_ ?_
  · rintro ⟨t, i⟩ hm
    have ht : t ≤ 1 := hT.le t (by
      have := List.mem_zipIdx hm
      rw [this.2.2]
      exact List.getElem_mem _)
    walk_at "vi step"
    refine in_nats (N := p) ?_
    walk_at "vi step"
    refine ⟨fun g => ?_, fun g => ?_⟩
    · have g2 : i ∈ p := of_decide_eq_true g
      walk_at "vi step"
      have e : (1 : Int) - (t : Int) = ((1 - t : Nat) : Int) := by omega
      rw [e]
      refine ⟨?_, rfl⟩
      simp [g2]
    · have g2 : ¬ i ∈ p := of_decide_eq_false g
      walk_at "vi step"
      refine ⟨?_, rfl⟩
      simp [g2]
  · have e : (T.zipIdx.map fun x : Nat × Nat => natP (if x.2 ∈ p then 1 - x.1 else x.1)) = (Tu.flip T p).map natP := by
      refine List.ext_getElem (by simp [Tu.flip]) fun i h1 h2 => ?_
      simp [Tu.flip]
    rw [e]
    walk_at "vi step"
    refine bl_tupL (by rw [List.length_map, Tu.flip_length]; omega) ?_
    walk_at "vi step"
    exact ⟨_, rfl, lv_same (Nat.le_refl _) q⟩
theorem zipIdx_range (o : List Int) : o.zipIdx = (List.range o.length).map fun c => (o.getD c 0, c) := by
  refine List.ext_getElem (by simp) fun i h1 h2 => ?_
  have : i < o.length := by simpa using h1
  simp [this]
theorem too_many_ok (n : Nat) {st : Sto} {N : Nat} {o r : List Int} {Q : D → Sto → Prop} (hN : N ≤ 1000) (ho : o.length = N) (hr : r.length = N) (q1 : ∀ c, c < N → r.getD c 0 < o.getD c 0 → Q (natD c) st) (q2 : (∀ c, c < N → o.getD c 0 ≤ r.getD c 0) → Q (.v .none) st) : Ok2 (callF Pr LIM (n + 1) i_too_many [zrD o, zrD r] st) Q := by
  refine run_of p_too_many rfl ?_; simp only [f_too_many, List.map_cons, List.map_nil, List.cons_append, List.nil_append, Nat.reduceSub, List.replicate_succ, List.replicate_zero, List.append_nil]
  walk_at "vi step"
  rw [List.zipIdx_map, List.map_map, zipIdx_range, List.map_map]
  refine co_filter (e := fun c : Nat => D.v (.tuple [.int (c : Nat), .int (o.getD c 0)])) (p := fun c => decide (r.getD c 0 < o.getD c 0)) (g := natP) (by simp; omega) ?_ ?_
  · intro c hc
    have hc2 : c < N := by have := List.mem_range.mp hc; omega
    walk_at "vi step"
    refine qx_tup (k := c) (p := .int (r.getD c 0)) (zr_at (by omega)) ?_
    walk_at "vi step"
    refine ⟨fun g => ?_, fun g => ?_⟩
    · have : r.getD c 0 < o.getD c 0 := of_decide_eq_true g
      walk_at "vi step"
      refine ⟨?_, rfl⟩
      rw [if_pos (decide_eq_true this)]
    · have : ¬ r.getD c 0 < o.getD c 0 := of_decide_eq_false g
      refine ⟨?_, rfl⟩
      rw [if_neg (by simpa using this)]
  · have hmem : ∀ c, c ∈ (List.range o.length).filter (fun c => decide (r.getD c 0 < o.getD c 0)) ↔ c < N ∧ r.getD c 0 < o.getD c 0 := by
      intro c
      rw [List.mem_filter, List.mem_range, decide_eq_true_eq, ho]
    generalize (List.range o.length).filter (fun c => decide (r.getD c 0 < o.getD c 0)) = L at hmem
    walk_at "vi step"
    refine mk_lst (ps := []) rfl (by simp) ?_
    refine ne_nilL ?_
    walk_at "vi step"
    refine ⟨fun g => ?_, fun g => ?_⟩
    · cases L with
      | nil => simp at g
      | cons c L =>
        obtain ⟨k1, k2⟩ := (hmem c).mp (by simp)
        walk_at "vi step"
        refine qx_lst (k := 0) (p := natP c) rfl ?_
        walk_at "vi step"
        exact ⟨_, rfl, lv_same (Nat.le_refl _) (q1 c k1 k2)⟩
    · cases L with
      | nil =>
        walk_at "vi step"
        refine ⟨_, rfl, lv_same (Nat.le_refl _) (q2 fun c hc => ?_)⟩
        by_cases h : r.getD c 0 < o.getD c 0
        · exact absurd ((hmem c).mpr ⟨hc, h⟩) (by simp)
        · omega
      | cons c L => simp at g

end K58
set_option Elab.async false
set_option linter.all false
set_option maxRecDepth 100000
set_option maxHeartbeats 400000
namespace K58
open PySem PySem.Spec PyProof.Rows L2 Vi
local macro_rules | `(tactic| walk_at "vi step") => `(tactic| repeat (with_reducible first | refine ok_var (by repeat constructor) ?_ | refine ok_name (by repeat constructor) ?_ | refine ok_comp (by repeat constructor) ?_ | refine ok_s1 ?_ | refine at_nx ?_ | refine at_rt ?_ | refine at_ex ?_ | refine ok_set ?_ | refine ok_par ?_ | refine ok_expr ?_ | refine ok_sret ?_ | refine ok_sretN ?_ | refine ok_site ?_ | refine ok_for ?_ | refine ok_while ?_ | refine ok_pass ?_ | refine ok_raise ?_ | refine ok_s0 ?_ | refine ok_cst ?_ | refine ok_tup ?_ | refine ok_lst ?_ | refine ok_bin ?_ | refine ok_neg ?_ | refine ok_not ?_ | refine ok_and ?_ | refine ok_or ?_ | refine ok_and1 ?_ | refine ok_or1 ?_ | refine ok_and2 ?_ | refine ok_or2 ?_ | refine ok_cmp ?_ | refine ok_chain ?_ | refine ok_isN ?_ | refine ok_ite ?_ | refine ok_idx ?_ | refine ok_slice ?_ | refine ok_o0 ?_ | refine ok_o1 ?_ | refine ok_rev ?_ | refine ok_call ?_ | refine ok_blt ?_ | refine ok_lrng ?_ | refine ok_trng ?_ | refine ok_sorted ?_ | refine ok_isa ?_ | refine ok_mt ?_ | refine ok_turn0 ?_ | refine ok_turn1 ?_ | refine ok_new ?_ | refine ok_ndct ?_ | refine ok_k0 ?_ | refine ok_k1 ?_ | refine ok_es0 ?_ | refine ok_es1 ?_ | refine ok_as0 ?_ | refine ok_as1 ?_ | refine ok_as2 ?_ | refine ok_val ?_ | refine ok_rng ?_ | refine ok_rngD ?_ | refine ok_enumT ?_ | refine ok_zip ?_ | refine ok_tt2 ?_ | refine ok_tt3 ?_ | refine ok_ts0 ?_ | refine ok_ts1 ?_ | refine ok_body ?_ | refine ok_sub ?_ | refine ok_evT ?_ | refine en_tup ?_ | refine en_lst ?_ | refine zi_tup ?_ | refine is_int ?_ | refine sq_tup ?_ | refine sq_lst ?_ | refine ok_gint ?_ | refine ok_ndT ?_ | refine ok_ndK ?_ | refine okt_b ?_ | refine op_add ?_ | refine op_sub ?_ | refine op_and ?_ | refine op_lt2 ?_ | refine op_le2 ?_ | refine op_gt2 ?_ | refine op_ge2 ?_ | refine op_eq2 ?_ | refine op_ne2 ?_ | refine op_eqS ?_ | refine op_neS ?_ | refine bl_intb ?_ | refine bl_inti ?_ | refine bl_lenT ?_ | refine bl_lenL ?_ | refine bl_abs ?_ | refine bl_max ?_ | refine bl_min ?_ | refine it_tup ?_ | refine it_lst ?_))
local macro_rules | `(tactic| walk_at "vi step0") => `(tactic| repeat (with_reducible first | refine ok_var (by repeat constructor) ?_ | refine ok_name (by repeat constructor) ?_ | refine ok_comp (by repeat constructor) ?_ | refine ok_s1 ?_ | refine at_nx ?_ | refine at_rt ?_ | refine at_ex ?_ | refine ok_set ?_ | refine ok_par ?_ | refine ok_expr ?_ | refine ok_sret ?_ | refine ok_sretN ?_ | refine ok_site ?_ | refine ok_for ?_ | refine ok_while ?_ | refine ok_pass ?_ | refine ok_raise ?_ | refine ok_s0 ?_ | refine ok_cst ?_ | refine ok_tup ?_ | refine ok_lst ?_ | refine ok_bin ?_ | refine ok_neg ?_ | refine ok_not ?_ | refine ok_and ?_ | refine ok_or ?_ | refine ok_and1 ?_ | refine ok_or1 ?_ | refine ok_and2 ?_ | refine ok_or2 ?_ | refine ok_cmp ?_ | refine ok_chain ?_ | refine ok_isN ?_ | refine ok_ite ?_ | refine ok_idx ?_ | refine ok_slice ?_ | refine ok_o0 ?_ | refine ok_o1 ?_ | refine ok_rev ?_ | refine ok_call ?_ | refine ok_blt ?_ | refine ok_lrng ?_ | refine ok_trng ?_ | refine ok_sorted ?_ | refine ok_isa ?_ | refine ok_mt ?_ | refine ok_turn0 ?_ | refine ok_turn1 ?_ | refine ok_new ?_ | refine ok_ndct ?_ | refine ok_k0 ?_ | refine ok_k1 ?_ | refine ok_es0 ?_ | refine ok_es1 ?_ | refine ok_as0 ?_ | refine ok_as1 ?_ | refine ok_as2 ?_ | refine ok_val ?_ | refine ok_rng ?_ | refine ok_rngD ?_ | refine ok_enumT ?_ | refine ok_zip ?_ | refine ok_tt2 ?_ | refine ok_tt3 ?_ | refine ok_ts0 ?_ | refine ok_ts1 ?_ | refine ok_body ?_ | refine ok_sub ?_ | refine ok_evT ?_ | refine en_tup ?_ | refine en_lst ?_ | refine zi_tup ?_ | refine is_int ?_ | refine sq_tup ?_ | refine sq_lst ?_ | refine ok_gint ?_ | refine ok_ndT ?_ | refine ok_ndK ?_ | refine okt_b ?_))
/-! the crossings come to -/
theorem ways_ok (n : Nat) {st : Sto} {N : Nat} {E : Fo.Ed} {T : List Nat} {s : Nat} {Q : D → Sto → Prop} (hN : N ≤ 900) (hE : E.length ≤ 1000) (he : Fo.InF N E) (hT : Tu.Tn E T) (hs : s < N)
    (q : ∀ l js, Tu.Ways N E T s l → js.all (belowO 0) = true → Q (.ref st.length) (st ++ (Vi.O.dk false (dkP l) :: js))) : Ok2 (callF Pr LIM (n + 2) i_ways_from [frD N E, rowTD T, natD s] st) Q := by
  refine run_of p_ways_from rfl ?_; simp only [f_ways_from, List.map_cons, List.map_nil, List.cons_append, List.nil_append, Nat.reduceSub, List.replicate_succ, List.replicate_zero, List.append_nil]
  walk_at "vi step"
  refine ok_nd1K ?_
  walk_at "vi step"
  refine mk_tup (ps := []) rfl (by simp) ?_
  refine ⟨_, Sum.inl (s : Int), rfl, rfl, ?_⟩
  walk_at "vi step"
  refine mk_lst (ps := [natP s]) rfl (by simp) ?_
  refine is_lst ?_
  walk_at "vi step"
  refine wh_inv (fun j env st' => ∃ (l : List (Nat × List Nat)) (late here : List Nat) (js : Sto) (k : Nat) (u5 u6 u7 u8 : Option D), k = st.length + 1 + js.length ∧ st' = st ++ (Vi.O.dk false (dkP l) :: (js ++ [Vi.O.lst (late.map natD)])) ∧ env = [some (frD N E), some (rowTD T), some (natD s), some (.ref st.length), some (.ref k), u5, u6, u7, u8] ∧ Tu.Wst N E T s l late here [] ∧ js.all (belowO 0) = true ∧ j = 2 * (N - l.length) + (if late = [] then 0 else 1)) (2 * N - 1) (by show 2 * N - 1 < 4000; omega) ?_ ?_
  · rintro j env st' ⟨l, late, here, js, k, u5, u6, u7, u8, hk, rfl, rfl, W, hjs, rfl⟩
    refine ok_evT ?_
    walk_at "vi step"
    refine mk_lst (ps := []) rfl (by simp) ?_
    refine ne_nilR (xs := late) (w_at1 _ _ _ _ hk) ?_
    walk_at "vi step"
    refine ⟨fun g => ?_, fun g => ?_⟩
    · have hl : late = [] := by simpa using g
      subst hl
      walk_at "vi step"
      refine ⟨_, rfl, .of leave_keep (q l (js ++ [.lst []]) W.fin ?_)⟩
      rw [List.all_append, hjs]
      rfl
    · have hl : late ≠ [] := by simpa using g
      walk_at "vi step"
      refine mk_lst (ps := []) rfl (by simp) ?_
      refine is_lst ?_
      walk_at "vi step"
      refine qx_tup (k := 1) (p := .tuple (E.map edP)) rfl ?_
      walk_at "vi step"
      rw [List.length_map]
      refine rng_one (n := E.length) (by omega) ?_
      have hlen : (st ++ (Vi.O.dk false (dkP l) :: (js ++ [Vi.O.lst (late.map natD)]))).length = st.length + 1 + (js ++ [Vi.O.lst (late.map natD)]).length := by simp; omega
      rw [hlen]
      have happ : st ++ (Vi.O.dk false (dkP l) :: (js ++ [Vi.O.lst (late.map natD)])) ++ [Vi.O.lst (([] : List PyData).map D.v)] = st ++ (Vi.O.dk false (dkP l) :: ((js ++ [Vi.O.lst (late.map natD)]) ++ [Vi.O.lst (([] : List Nat).map natD)])) := by simp
      rw [happ]
      generalize hk2 : st.length + 1 + (js ++ [Vi.O.lst (late.map natD)]).length = k2
      refine fo_inv (e := fun i : Nat => D.v (.int (i : Nat))) (fun rs env st' => ∃ (l2 : List (Nat × List Nat)) (late2 : List Nat) (u6 u7 u8 : Option D), st' = st ++ (Vi.O.dk false (dkP l2) :: ((js ++ [Vi.O.lst (late.map natD)]) ++ [Vi.O.lst (late2.map natD)])) ∧ env = [some (frD N E), some (rowTD T), some (natD s), some (.ref st.length), some (.ref k2), some (.ref k), u6, u7, u8] ∧ Tu.Wst N E T s l2 late2 late rs ∧ (∀ i ∈ rs, i < E.length) ∧ late2.length + l.length = l2.length) ?_ ?_ ?_
      · rintro i rs env st' ⟨l2, late2, u6, u7, u8, rfl, rfl, W2, hrs, hg1⟩
        have hi := hrs i (by simp)
        obtain ⟨hv1, hv2⟩ := tl_lt (T := T) he hi
        have hfew := W2.few
        walk_at "vi step"
        with_reducible refine tail_ok n hT hi ?_
        walk_at "vi step"
        with_reducible refine head_ok n hT hi ?_
        walk_at "vi step"
        refine in_natsR (N := late) (w_at2 _ _ _ _ _ hk) ?_
        walk_at "vi step"
        refine ⟨fun g => ?_, fun g => ?_⟩
        · have g1 : Tu.tl E T i ∈ late := of_decide_eq_true g
          walk_at "vi step"
          refine notin_P (w_at0 _ _ _) ?_
          walk_at "vi step"
          refine ⟨fun g => ?_, fun g => ?_⟩
          · have g2 : Tu.hd E T i ∉ Tu.ks l2 := by simpa using g
            obtain ⟨p, hp1, hp2⟩ := lookup_some (W2.hk _ g1)
            have hpl := W2.pl _ _ hp2
            walk_at "vi step"
            refine ix_P (w_at0 _ _ _) hp1 ?_
            walk_at "vi step"
            refine mk_tup (ps := p.map natP ++ [natP i]) (by rw [← List.map_singleton, ← List.map_append, plains_map]) (by simp; omega) ?_
            walk_at "vi step"
            have ep : PyData.tuple (p.map natP ++ [natP i]) = rowT (p ++ [i]) := by simp [rowT]
            rw [ep]
            refine to_P (w_at0 _ _ _) g2 (by omega) ?_
            rw [w_set0]
            walk_at "vi step"
            refine mt_ref rfl (w_at1 _ _ _ _ hk2.symm) ?_
            walk_at "vi step"
            refine me_append (w_at1 _ _ _ _ hk2.symm) (by rw [List.length_map]; omega) ?_
            rw [w_set1 _ _ _ _ _ hk2.symm]
            have el : late2.map natD ++ [natD (Tu.hd E T i)] = (late2 ++ [Tu.hd E T i]).map natD := by simp
            rw [el]
            walk_at "vi step"
            exact ⟨rfl, l2 ++ [(Tu.hd E T i, p ++ [i])], late2 ++ [Tu.hd E T i], _, _, _, rfl, rfl, W2.yes hi hv2 g2 hp2, fun j hj => hrs j (by simp [hj]), by simp; omega⟩
          · have g2 : Tu.hd E T i ∈ Tu.ks l2 := by simpa using g
            walk_at "vi step"
            exact ⟨rfl, l2, late2, _, _, _, rfl, rfl, W2.no (.inr g2), fun j hj => hrs j (by simp [hj]), hg1⟩
        · have g1 : Tu.tl E T i ∉ late := of_decide_eq_false g
          walk_at "vi step"
          refine ⟨fun e2 => (by rw [g] at e2; cases e2), fun _ => ?_⟩
          walk_at "vi step"
          exact ⟨rfl, l2, late2, _, _, _, rfl, rfl, W2.no (.inl g1), fun j hj => hrs j (by simp [hj]), hg1⟩
      · exact ⟨l, [], _, _, _, rfl, rfl, W.shift, fun i hi => List.mem_range.mp hi, by simp⟩
      · rintro env st' ⟨l2, late2, u6, u7, u8, rfl, rfl, W2, hrs, hg1⟩
        have hfew := W2.few
        walk_at "vi step"
        refine ⟨rfl, _, ?_, l2, late2, late, js ++ [Vi.O.lst (late.map natD)], k2, _, _, _, _, hk2.symm, rfl, rfl, W2, ?_, rfl⟩
        · rw [if_neg hl]
          by_cases hg2 : late2 = []
          · rw [if_pos hg2]; omega
          · have : 0 < late2.length := List.length_pos_iff.mpr hg2
            rw [if_neg hg2]; omega
        · rw [List.all_append, hjs]
          simp [belowO, belowD]
  · refine ⟨[(s, [])], [s], [], [], st.length + 1, none, none, none, none, rfl, ?_, ?_, Tu.Wst.start hs, rfl, ?_⟩
    · simp [dkP]
    · simp
    · simp
      omega

end K58
set_option Elab.async false
set_option linter.all false
set_option maxRecDepth 100000
set_option maxHeartbeats 400000
namespace K58
open PySem PySem.Spec PyProof.Rows L2 Vi
local macro_rules | `(tactic| walk_at "vi step") => `(tactic| repeat (with_reducible first | refine ok_var (by repeat constructor) ?_ | refine ok_name (by repeat constructor) ?_ | refine ok_comp (by repeat constructor) ?_ | refine ok_s1 ?_ | refine at_nx ?_ | refine at_rt ?_ | refine at_ex ?_ | refine ok_set ?_ | refine ok_par ?_ | refine ok_expr ?_ | refine ok_sret ?_ | refine ok_sretN ?_ | refine ok_site ?_ | refine ok_for ?_ | refine ok_while ?_ | refine ok_pass ?_ | refine ok_raise ?_ | refine ok_s0 ?_ | refine ok_cst ?_ | refine ok_tup ?_ | refine ok_lst ?_ | refine ok_bin ?_ | refine ok_neg ?_ | refine ok_not ?_ | refine ok_and ?_ | refine ok_or ?_ | refine ok_and1 ?_ | refine ok_or1 ?_ | refine ok_and2 ?_ | refine ok_or2 ?_ | refine ok_cmp ?_ | refine ok_chain ?_ | refine ok_isN ?_ | refine ok_ite ?_ | refine ok_idx ?_ | refine ok_slice ?_ | refine ok_o0 ?_ | refine ok_o1 ?_ | refine ok_rev ?_ | refine ok_call ?_ | refine ok_blt ?_ | refine ok_lrng ?_ | refine ok_trng ?_ | refine ok_sorted ?_ | refine ok_isa ?_ | refine ok_mt ?_ | refine ok_turn0 ?_ | refine ok_turn1 ?_ | refine ok_new ?_ | refine ok_ndct ?_ | refine ok_k0 ?_ | refine ok_k1 ?_ | refine ok_es0 ?_ | refine ok_es1 ?_ | refine ok_as0 ?_ | refine ok_as1 ?_ | refine ok_as2 ?_ | refine ok_val ?_ | refine ok_rng ?_ | refine ok_rngD ?_ | refine ok_enumT ?_ | refine ok_zip ?_ | refine ok_tt2 ?_ | refine ok_tt3 ?_ | refine ok_ts0 ?_ | refine ok_ts1 ?_ | refine ok_body ?_ | refine ok_sub ?_ | refine ok_evT ?_ | refine en_tup ?_ | refine en_lst ?_ | refine zi_tup ?_ | refine is_int ?_ | refine sq_tup ?_ | refine sq_lst ?_ | refine ok_gint ?_ | refine ok_ndT ?_ | refine ok_ndK ?_ | refine okt_b ?_ | refine op_add ?_ | refine op_sub ?_ | refine op_and ?_ | refine op_lt2 ?_ | refine op_le2 ?_ | refine op_gt2 ?_ | refine op_ge2 ?_ | refine op_eq2 ?_ | refine op_ne2 ?_ | refine op_eqS ?_ | refine op_neS ?_ | refine bl_intb ?_ | refine bl_inti ?_ | refine bl_lenT ?_ | refine bl_lenL ?_ | refine bl_abs ?_ | refine bl_max ?_ | refine bl_min ?_ | refine it_tup ?_ | refine it_lst ?_))
local macro_rules | `(tactic| walk_at "vi step0") => `(tactic| repeat (with_reducible first | refine ok_var (by repeat constructor) ?_ | refine ok_name (by repeat constructor) ?_ | refine ok_comp (by repeat constructor) ?_ | refine ok_s1 ?_ | refine at_nx ?_ | refine at_rt ?_ | refine at_ex ?_ | refine ok_set ?_ | refine ok_par ?_ | refine ok_expr ?_ | refine ok_sret ?_ | refine ok_sretN ?_ | refine ok_site ?_ | refine ok_for ?_ | refine ok_while ?_ | refine ok_pass ?_ | refine ok_raise ?_ | refine ok_s0 ?_ | refine ok_cst ?_ | refine ok_tup ?_ | refine ok_lst ?_ | refine ok_bin ?_ | refine ok_neg ?_ | refine ok_not ?_ | refine ok_and ?_ | refine ok_or ?_ | refine ok_and1 ?_ | refine ok_or1 ?_ | refine ok_and2 ?_ | refine ok_or2 ?_ | refine ok_cmp ?_ | refine ok_chain ?_ | refine ok_isN ?_ | refine ok_ite ?_ | refine ok_idx ?_ | refine ok_slice ?_ | refine ok_o0 ?_ | refine ok_o1 ?_ | refine ok_rev ?_ | refine ok_call ?_ | refine ok_blt ?_ | refine ok_lrng ?_ | refine ok_trng ?_ | refine ok_sorted ?_ | refine ok_isa ?_ | refine ok_mt ?_ | refine ok_turn0 ?_ | refine ok_turn1 ?_ | refine ok_new ?_ | refine ok_ndct ?_ | refine ok_k0 ?_ | refine ok_k1 ?_ | refine ok_es0 ?_ | refine ok_es1 ?_ | refine ok_as0 ?_ | refine ok_as1 ?_ | refine ok_as2 ?_ | refine ok_val ?_ | refine ok_rng ?_ | refine ok_rngD ?_ | refine ok_enumT ?_ | refine ok_zip ?_ | refine ok_tt2 ?_ | refine ok_tt3 ?_ | refine ok_ts0 ?_ | refine ok_ts1 ?_ | refine ok_body ?_ | refine ok_sub ?_ | refine ok_evT ?_ | refine en_tup ?_ | refine en_lst ?_ | refine zi_tup ?_ | refine is_int ?_ | refine sq_tup ?_ | refine sq_lst ?_ | refine ok_gint ?_ | refine ok_ndT ?_ | refine ok_ndK ?_ | refine okt_b ?_))
/-! the nearest turning -/
theorem bel_plain {st : Sto} {js : Sto} (hb : st.all (belowO st.length) = true) (hj : js.all (belowO 0) = true) : (st ++ js).all (belowO (st ++ js).length) = true := by
  rw [List.all_append, Bool.and_eq_true]
  rw [List.all_eq_true] at hb hj
  refine ⟨List.all_eq_true.mpr fun o ho => bel_up (by rw [List.length_append]; omega) o (hb o ho), List.all_eq_true.mpr fun o ho => bel_up (by omega) o (hj o ho)⟩
theorem dkP_bel (l : List (Nat × List Nat)) : belowO 0 (Vi.O.dk false (dkP l)) = true := by
  simp [belowO, dkP, belowD]
theorem zf_get {r : List Int} {c : Nat} : Tu.zf r c = r.getD c 0 := rfl
theorem nearest_ok (n : Nat) {st : Sto} {N : Nat} {E : Fo.Ed} {r : List Int} {Q : D → Sto → Prop} (hN : N ≤ 60) (hE : E.length ≤ 900) (he : Fo.InF N E) (hr : r.length = N) (hs : r.sum = E.length) (hnb : E.length + Tu.nb r < 3900) (hb : st.all (belowO st.length) = true)
    (q1 : ∀ T, Tu.Tn E T → r = Tu.ol N E T → Q (.v (.tuple [rowT T, .none])) st)
    (q2 : ∀ T R, Tu.Tn E T → R.Nodup → (∀ v ∈ R, v < N) → R.Pairwise (· < ·) → Tu.sumAt (Tu.zf r) R < Tu.within E R → Q (.v (.tuple [rowT T, rowT R])) st) : Ok2 (callF Pr LIM (n + 3) i_nearest_turning [frD N E, zrD r] st) Q := by
  refine run_of p_nearest_turning rfl ?_; simp only [f_nearest_turning, List.map_cons, List.map_nil, List.cons_append, List.nil_append, Nat.reduceSub, List.replicate_succ, List.replicate_zero, List.append_nil]
  walk_at "vi step0"
  refine mk_tup (ps := [.int 0]) rfl (by simp) ?_
  walk_at "vi step0"
  refine qx_tup (k := 1) (p := .tuple (E.map edP)) rfl ?_
  walk_at "vi step0"
  refine bl_lenT ?_
  rw [List.length_map]
  refine op_repT0 (k := E.length) (by omega) (by simp) ?_
  rw [zer_flat]
  have hT0 : Tu.Tn E (Fo.zer E.length) := ⟨by simp [Fo.zer], fun k hk => by rw [(List.mem_replicate.mp hk).2]; omega⟩
  walk_at "vi step"
  with_reducible refine outs_of_ok n (by omega) (by omega) he hT0 hb ?_
  walk_at "vi step"
  have tm : ∀ {st' : Sto} {T : List Nat} {Q : D → Sto → Prop}, (∀ c, c < N → Tu.zf r c < Tu.oc E T c → Q (natD c) st') → ((∀ c, c < N → Tu.oc E T c ≤ Tu.zf r c) → Q (.v .none) st') → Ok2 (callF Pr LIM (n + 2) i_too_many [zrD (Tu.ol N E T), zrD r] st') Q := fun {st' T Q} h1 h2 =>
    too_many_ok (n + 1) (by omega) (Tu.ol_length N E T) hr (fun c hc h => h1 c hc (by rw [Tu.ol_get hc] at h; exact h)) (fun h => h2 fun c hc => by have := h c hc; rw [Tu.ol_get hc] at this; exact this)
  -- the loop, whatever the first look tells
  have loop : ∀ (T : List Nat) (start : D), Tu.Tn E T → ((∃ c, start = natD c ∧ c < N ∧ Tu.zf r c < Tu.oc E T c) ∨ (start = .v .none ∧ ∀ c, c < N → Tu.oc E T c ≤ Tu.zf r c)) →
      Ok3 (exSs (cfg Pr LIM (n + 2)) (f_nearest_turning.body.drop 3) [some (frD N E), some (zrD r), some (rowTD T), some (zrD (Tu.ol N E T)), some start, none, none, none] st) (fun fl _ st' => ∃ d, fl = .rt d ∧ Ok2 (leave f_nearest_turning.keep st.length d st') Q) := by
    intro T start hT hstart
    simp only [f_nearest_turning, List.drop_succ_cons, List.drop_zero]
    refine ok_s1 ?_
    refine ok_while ?_
    refine wh_ret (fun j env st' => ∃ (T : List Nat) (start : D) (js : Sto) (u5 u6 u7 : Option D), j = Tu.exc N (Tu.oc E T) (Tu.zf r) ∧ Tu.Tn E T ∧ ((∃ c, start = natD c ∧ c < N ∧ Tu.zf r c < Tu.oc E T c) ∨ (start = .v .none ∧ ∀ c, c < N → Tu.oc E T c ≤ Tu.zf r c)) ∧ st' = st ++ js ∧ js.all (belowO 0) = true ∧ env = [some (frD N E), some (zrD r), some (rowTD T), some (zrD (Tu.ol N E T)), some start, u5, u6, u7]) (Tu.exc N (Tu.oc E T) (Tu.zf r)) ?_ ?_ ?_
    · have := Tu.exc_le hT he hr
      show _ < 4000
      omega
    · rintro j env st' ⟨T, start, js, u5, u6, u7, rfl, hT, hstart, rfl, hjs, rfl⟩
      have hb2 := bel_plain hb hjs
      refine ok_evT ?_
      rcases hstart with ⟨c, rfl, hc, hlt⟩ | ⟨rfl, hle⟩
      · walk_at "vi step"
        refine ⟨(fun e => nomatch e), fun _ => ?_⟩
        walk_at "vi step"
        with_reducible refine ways_ok n (by omega) (by omega) he hT hc fun l js2 W hj2 => ?_
        have hfew := W.few
        walk_at "vi step"
        have kat : (st ++ js ++ Vi.O.dk false (dkP l) :: js2)[(st ++ js).length]? = some (Vi.O.dk false (dkP l)) := w_at0 _ _ _
        refine so_P kat (by omega) ?_
        walk_at "vi step"
        have hks : ∀ v, v ∈ (Tu.ks l).mergeSort (fun a b => decide (a ≤ b)) ↔ v ∈ Tu.ks l := fun v => (List.mergeSort_perm _ _).mem_iff
        generalize hR : (Tu.ks l).mergeSort (fun a b => decide (a ≤ b)) = R at hks
        have hRl : R.length ≤ N := by rw [← hR, List.length_mergeSort]; simpa [Tu.ks] using hfew
        rw [nat_tup]
        refine co_filter (e := natD) (p := fun v => decide (Tu.oc E T v < Tu.zf r v)) (g := natP) (by omega) ?_ ?_
        · intro v hv
          have hvN := W.lt v ((hks v).mp hv)
          walk_at "vi step"
          refine qx_tup (k := v) (p := .int (Tu.oc E T v)) (by rw [zr_at (by rw [Tu.ol_length]; exact hvN), Tu.ol_get hvN]) ?_
          walk_at "vi step"
          refine qx_tup (k := v) (p := .int (Tu.zf r v)) (zr_at (by omega)) ?_
          walk_at "vi step"
          refine ⟨fun g => ?_, fun g => ?_⟩
          · have : Tu.oc E T v < Tu.zf r v := of_decide_eq_true g
            walk_at "vi step"
            refine ⟨?_, rfl⟩
            rw [if_pos (decide_eq_true this)]
          · have : ¬ Tu.oc E T v < Tu.zf r v := of_decide_eq_false g
            refine ⟨?_, rfl⟩
            rw [if_neg (by simpa using this)]
        · have hmem : ∀ v, v ∈ R.filter (fun v => decide (Tu.oc E T v < Tu.zf r v)) ↔ v ∈ Tu.ks l ∧ Tu.oc E T v < Tu.zf r v := by
            intro v
            rw [List.mem_filter, hks, decide_eq_true_eq]
          generalize R.filter (fun v => decide (Tu.oc E T v < Tu.zf r v)) = few at hmem
          walk_at "vi step"
          refine mk_lst (ps := []) rfl (by simp) ?_
          refine eq_nilL ?_
          walk_at "vi step"
          refine ⟨fun g => ?_, fun g => ?_⟩
          · have g2 : few = [] := of_decide_eq_true g
            subst g2
            walk_at "vi step"
            refine so_P kat (by omega) ?_
            rw [hR]
            walk_at "vi step"
            refine bl_tupL (by rw [List.length_map]; omega) ?_
            walk_at "vi step"
            refine mk_tup (ps := [rowT T, rowT R]) rfl (by simp) ?_
            walk_at "vi step"
            have ndR : R.Nodup := by rw [← hR]; exact (List.mergeSort_perm _ _).nodup_iff.mpr W.nd
            have srt : R.Pairwise (· < ·) := by
              have h1 : R.Pairwise (fun a b => decide (a ≤ b) = true) := by
                rw [← hR]
                refine List.pairwise_mergeSort (fun a b c h1 h2 => ?_) (fun a b => ?_) _
                · have := of_decide_eq_true h1; have := of_decide_eq_true h2; exact decide_eq_true (by omega)
                · rw [Bool.or_eq_true, decide_eq_true_eq, decide_eq_true_eq]; omega
              exact (h1.and ndR).imp fun h => by have := of_decide_eq_true h.1; have := h.2; omega
            refine .inr ⟨_, rfl, _, rfl, lv_cut hb (js ++ Vi.O.dk false (dkP l) :: js2) (by rw [List.append_assoc]) (q2 T R hT ndR (fun v hv => W.lt v ((hks v).mp hv)) srt ?_)⟩
            have hclo : Tu.Clo E T R := fun i hi h => (hks _).mpr (W.clo i hi ((hks _).mp h))
            rw [← Tu.sumAt_clo ndR hT hclo]
            have hge : ∀ v ∈ R, Tu.zf r v ≤ Tu.oc E T v := fun v hv => by
              by_cases h : Tu.oc E T v < Tu.zf r v
              · exact absurd ((hmem v).mpr ⟨(hks v).mp hv, h⟩) (by simp)
              · omega
            have hcR : c ∈ R := (hks c).mpr W.st
            have key : ∀ L : List Nat, (∀ v ∈ L, Tu.zf r v ≤ Tu.oc E T v) → Tu.sumAt (Tu.zf r) L ≤ Tu.sumAt (Tu.oc E T) L ∧ (c ∈ L → Tu.sumAt (Tu.zf r) L < Tu.sumAt (Tu.oc E T) L) := by
              intro L
              induction L with
              | nil => intro _; exact ⟨Int.le_refl _, fun h => by cases h⟩
              | cons a L ih =>
                intro h
                obtain ⟨i1, i2⟩ := ih fun v hv => h v (by simp [hv])
                have ha := h a (by simp)
                unfold Tu.sumAt at i1 i2 ⊢
                simp only [List.map_cons, List.sum_cons]
                refine ⟨by omega, fun hc => ?_⟩
                rcases List.mem_cons.mp hc with rfl | hc
                · omega
                · have := i2 hc; omega
            exact (key R hge).2 hcR
          · cases few with
            | nil => simp at g
            | cons v few =>
              obtain ⟨hv1, hv2⟩ := (hmem v).mp (by simp)
              obtain ⟨p, hp1, hp2⟩ := lookup_some hv1
              have hp := W.pth v p hp2
              have hvN := W.lt v hv1
              have hT2 : Tu.Tn E (Tu.flip T p) := hT.flip
              walk_at "vi step"
              refine qx_lst (k := 0) (p := natP v) rfl ?_
              refine ix_P kat hp1 ?_
              walk_at "vi step"
              with_reducible refine turned_ok (n + 1) (by omega) hT ?_
              walk_at "vi step"
              have hb3 : (st ++ js ++ Vi.O.dk false (dkP l) :: js2).all (belowO (st ++ js ++ Vi.O.dk false (dkP l) :: js2).length) = true := bel_plain hb2 (by rw [List.all_cons, dkP_bel, hj2]; rfl)
              with_reducible refine outs_of_ok n (by omega) (by omega) he hT2 hb3 ?_
              walk_at "vi step"
              have hfl := hp.flip hT
              have hex := Tu.exc_lt (n := N) (r := Tu.zf r) hc hlt hv2 hfl
              with_reducible refine tm (fun c2 hc2 h2 => ?_) (fun h2 => ?_)
              · walk_at "vi step"
                exact .inl ⟨rfl, _, hex, Tu.flip T p, natD c2, js ++ Vi.O.dk false (dkP l) :: js2, _, _, _, rfl, hT2, .inl ⟨c2, rfl, hc2, h2⟩, by rw [List.append_assoc], by rw [List.all_append, hjs, List.all_cons, dkP_bel, hj2]; rfl, rfl⟩
              · walk_at "vi step"
                exact .inl ⟨rfl, _, hex, Tu.flip T p, .v .none, js ++ Vi.O.dk false (dkP l) :: js2, _, _, _, rfl, hT2, .inr ⟨rfl, h2⟩, by rw [List.append_assoc], by rw [List.all_append, hjs, List.all_cons, dkP_bel, hj2]; rfl, rfl⟩
      · walk_at "vi step"
        refine ⟨fun _ => ?_, fun e => nomatch e⟩
        walk_at "vi step"
        refine mk_tup (ps := [rowT T, .none]) rfl (by simp) ?_
        walk_at "vi step"
        refine ⟨_, rfl, lv_cut hb js rfl (q1 T hT ?_)⟩
        have h1 := Tu.sum_oc hT he
        have h2 : ((List.range N).map (Tu.zf r)).sum = r.sum := by
          congr 1
          refine List.ext_getElem (by simp [hr]) fun i h1 h2 => ?_
          simp [Tu.zf, h2]
        have h3 := Tu.eq_of_le hle (by rw [h1, h2, hs])
        refine List.ext_getElem (by rw [Tu.ol_length, hr]) fun i k1 k2 => ?_
        have e1 : (Tu.ol N E T)[i] = Tu.oc E T i := by simp [Tu.ol]
        rw [e1, h3 i (by omega)]
        simp [Tu.zf, k1]
    · exact ⟨T, start, [], none, none, none, rfl, hT, hstart, by simp, rfl, rfl⟩
  with_reducible refine tm (fun c hc h => ?_) (fun h => ?_)
  · refine ok_name (by repeat constructor) ?_
    refine at_nx ?_
    exact loop (Fo.zer E.length) (natD c) hT0 (.inl ⟨c, rfl, hc, h⟩)
  · refine ok_name (by repeat constructor) ?_
    refine at_nx ?_
    exact loop (Fo.zer E.length) (.v .none) hT0 (.inr ⟨rfl, h⟩)

end K58
set_option Elab.async false
set_option linter.all false
set_option maxRecDepth 100000
set_option maxHeartbeats 400000
namespace K58
open PySem PySem.Spec PyProof.Rows L2 Vi
local macro_rules | `(tactic| walk_at "vi step") => `(tactic| repeat (with_reducible first | refine ok_var (by repeat constructor) ?_ | refine ok_name (by repeat constructor) ?_ | refine ok_comp (by repeat constructor) ?_ | refine ok_s1 ?_ | refine at_nx ?_ | refine at_rt ?_ | refine at_ex ?_ | refine ok_set ?_ | refine ok_par ?_ | refine ok_expr ?_ | refine ok_sret ?_ | refine ok_sretN ?_ | refine ok_site ?_ | refine ok_for ?_ | refine ok_while ?_ | refine ok_pass ?_ | refine ok_raise ?_ | refine ok_s0 ?_ | refine ok_cst ?_ | refine ok_tup ?_ | refine ok_lst ?_ | refine ok_bin ?_ | refine ok_neg ?_ | refine ok_not ?_ | refine ok_and ?_ | refine ok_or ?_ | refine ok_and1 ?_ | refine ok_or1 ?_ | refine ok_and2 ?_ | refine ok_or2 ?_ | refine ok_cmp ?_ | refine ok_chain ?_ | refine ok_isN ?_ | refine ok_ite ?_ | refine ok_idx ?_ | refine ok_slice ?_ | refine ok_o0 ?_ | refine ok_o1 ?_ | refine ok_rev ?_ | refine ok_call ?_ | refine ok_blt ?_ | refine ok_lrng ?_ | refine ok_trng ?_ | refine ok_sorted ?_ | refine ok_isa ?_ | refine ok_mt ?_ | refine ok_turn0 ?_ | refine ok_turn1 ?_ | refine ok_new ?_ | refine ok_ndct ?_ | refine ok_k0 ?_ | refine ok_k1 ?_ | refine ok_es0 ?_ | refine ok_es1 ?_ | refine ok_as0 ?_ | refine ok_as1 ?_ | refine ok_as2 ?_ | refine ok_val ?_ | refine ok_rng ?_ | refine ok_rngD ?_ | refine ok_enumT ?_ | refine ok_zip ?_ | refine ok_tt2 ?_ | refine ok_tt3 ?_ | refine ok_ts0 ?_ | refine ok_ts1 ?_ | refine ok_body ?_ | refine ok_sub ?_ | refine ok_evT ?_ | refine en_tup ?_ | refine en_lst ?_ | refine zi_tup ?_ | refine is_int ?_ | refine sq_tup ?_ | refine sq_lst ?_ | refine ok_gint ?_ | refine ok_ndT ?_ | refine ok_ndK ?_ | refine okt_b ?_ | refine op_add ?_ | refine op_sub ?_ | refine op_and ?_ | refine op_lt2 ?_ | refine op_le2 ?_ | refine op_gt2 ?_ | refine op_ge2 ?_ | refine op_eq2 ?_ | refine op_ne2 ?_ | refine op_eqS ?_ | refine op_neS ?_ | refine bl_intb ?_ | refine bl_inti ?_ | refine bl_lenT ?_ | refine bl_lenL ?_ | refine bl_abs ?_ | refine bl_max ?_ | refine bl_min ?_ | refine it_tup ?_ | refine it_lst ?_))
local macro_rules | `(tactic| walk_at "vi step0") => `(tactic| repeat (with_reducible first | refine ok_var (by repeat constructor) ?_ | refine ok_name (by repeat constructor) ?_ | refine ok_comp (by repeat constructor) ?_ | refine ok_s1 ?_ | refine at_nx ?_ | refine at_rt ?_ | refine at_ex ?_ | refine ok_set ?_ | refine ok_par ?_ | refine ok_expr ?_ | refine ok_sret ?_ | refine ok_sretN ?_ | refine ok_site ?_ | refine ok_for ?_ | refine ok_while ?_ | refine ok_pass ?_ | refine ok_raise ?_ | refine ok_s0 ?_ | refine ok_cst ?_ | refine ok_tup ?_ | refine ok_lst ?_ | refine ok_bin ?_ | refine ok_neg ?_ | refine ok_not ?_ | refine ok_and ?_ | refine ok_or ?_ | refine ok_and1 ?_ | refine ok_or1 ?_ | refine ok_and2 ?_ | refine ok_or2 ?_ | refine ok_cmp ?_ | refine ok_chain ?_ | refine ok_isN ?_ | refine ok_ite ?_ | refine ok_idx ?_ | refine ok_slice ?_ | refine ok_o0 ?_ | refine ok_o1 ?_ | refine ok_rev ?_ | refine ok_call ?_ | refine ok_blt ?_ | refine ok_lrng ?_ | refine ok_trng ?_ | refine ok_sorted ?_ | refine ok_isa ?_ | refine ok_mt ?_ | refine ok_turn0 ?_ | refine ok_turn1 ?_ | refine ok_new ?_ | refine ok_ndct ?_ | refine ok_k0 ?_ | refine ok_k1 ?_ | refine ok_es0 ?_ | refine ok_es1 ?_ | refine ok_as0 ?_ | refine ok_as1 ?_ | refine ok_as2 ?_ | refine ok_val ?_ | refine ok_rng ?_ | refine ok_rngD ?_ | refine ok_enumT ?_ | refine ok_zip ?_ | refine ok_tt2 ?_ | refine ok_tt3 ?_ | refine ok_ts0 ?_ | refine ok_ts1 ?_ | refine ok_body ?_ | refine ok_sub ?_ | refine ok_evT ?_ | refine en_tup ?_ | refine en_lst ?_ | refine zi_tup ?_ | refine is_int ?_ | refine sq_tup ?_ | refine sq_lst ?_ | refine ok_gint ?_ | refine ok_ndT ?_ | refine ok_ndK ?_ | refine okt_b ?_))
/-! outs papers, a turning with told outs -/
theorem outs_paper_ok (n : Nat) {st : Sto} {N : Nat} {E : Fo.Ed} {r : List Int} {Q : D → Sto → Prop} (hN : N ≤ 60) (hE : E.length ≤ 900) (he : Fo.InF N E) (hr : r.length = N) (hnb : E.length + Tu.nb r < 3900) (hb : st.all (belowO st.length) = true)
    (q0 : r.sum ≠ E.length → Q (.v (.tuple [.str "sum"])) st) (q1 : ∀ T, Tu.Tn E T → r = Tu.ol N E T → Q (.v (.tuple [.str "turning", rowT T])) st)
    (q2 : ∀ R, R.Nodup → (∀ v ∈ R, v < N) → R.Pairwise (· < ·) → Tu.sumAt (Tu.zf r) R < Tu.within E R → r.sum = E.length → Q (.v (.tuple [.str "lot", rowT R])) st) : Ok2 (callF Pr LIM (n + 4) i_outs_paper [frD N E, zrD r] st) Q := by
  refine run_of p_outs_paper rfl ?_; simp only [f_outs_paper, List.map_cons, List.map_nil, List.cons_append, List.nil_append, Nat.reduceSub, List.replicate_succ, List.replicate_zero, List.append_nil]
  walk_at "vi step"
  refine bl_sumT ?_
  walk_at "vi step"
  refine qx_tup (k := 1) (p := .tuple (E.map edP)) rfl ?_
  walk_at "vi step"
  rw [List.length_map]
  refine ⟨fun g => ?_, fun g => ?_⟩
  · have g2 : r.sum ≠ E.length := by simpa using g
    walk_at "vi step"
    refine mk_tup (ps := [.str "sum"]) rfl (by simp) ?_
    walk_at "vi step"
    exact ⟨_, rfl, lv_same (Nat.le_refl _) (q0 g2)⟩
  · have g2 : r.sum = E.length := by simpa using g
    walk_at "vi step"
    with_reducible refine nearest_ok n hN hE he hr g2 hnb hb (fun T hT e => ?_) (fun T R hT h1 h2 h3 h4 => ?_)
    · walk_at "vi step"
      refine ⟨fun _ => ?_, fun g => nomatch g⟩
      walk_at "vi step"
      refine mk_tup (ps := [.str "turning", rowT T]) rfl (by simp) ?_
      walk_at "vi step"
      exact ⟨_, rfl, lv_same (Nat.le_refl _) (q1 T hT e)⟩
    · walk_at "vi step"
      refine ⟨(fun g => nomatch g), fun _ => ?_⟩
      walk_at "vi step"
      refine mk_tup (ps := [.str "lot", rowT R]) rfl (by simp) ?_
      walk_at "vi step"
      exact ⟨_, rfl, lv_same (Nat.le_refl _) (q2 R h1 h2 h3 h4 g2)⟩
theorem real_sum {N : Nat} {E : Fo.Ed} {r : List Int} (he : Fo.InF N E) (h : Tu.Real N E r) : r.sum = E.length := by
  obtain ⟨T, hT, rfl⟩ := h
  exact Tu.sum_oc hT he
theorem turning_with_ok (n : Nat) {st : Sto} {N : Nat} {E : Fo.Ed} {r : List Int} {Q : D → Sto → Prop} (hN : N ≤ 60) (hE : E.length ≤ 900) (he : Fo.InF N E) (hr : r.length = N) (hnb : E.length + Tu.nb r < 3900) (hb : st.all (belowO st.length) = true)
    (q1 : ∀ T, Tu.Tn E T → r = Tu.ol N E T → Q (rowTD T) st) (q2 : ¬ Tu.Real N E r → Q (.v .none) st) : Ok2 (callF Pr LIM (n + 5) i_turning_with [frD N E, zrD r] st) Q := by
  refine run_of p_turning_with rfl ?_; simp only [f_turning_with, List.map_cons, List.map_nil, List.cons_append, List.nil_append, Nat.reduceSub, List.replicate_succ, List.replicate_zero, List.append_nil]
  walk_at "vi step"
  with_reducible refine outs_paper_ok n hN hE he hr hnb hb (fun h => ?_) (fun T hT e => ?_) (fun R h1 h2 h3 h4 h5 => ?_)
  · walk_at "vi step"
    refine qx_tup (k := 0) (p := .str "sum") rfl ?_
    walk_at "vi step"
    refine ⟨fun g => absurd (of_decide_eq_true g) (by decide +kernel), fun _ => ?_⟩
    walk_at "vi step"
    exact ⟨_, rfl, lv_same (Nat.le_refl _) (q2 fun hR => h (real_sum he hR))⟩
  · walk_at "vi step"
    refine qx_tup (k := 0) (p := .str "turning") rfl ?_
    walk_at "vi step"
    refine ⟨fun _ => ?_, fun g => absurd rfl (of_decide_eq_false g)⟩
    walk_at "vi step"
    refine qx_tup (k := 1) (p := rowT T) rfl ?_
    walk_at "vi step"
    exact ⟨_, rfl, lv_same (Nat.le_refl _) (q1 T hT e)⟩
  · walk_at "vi step"
    refine qx_tup (k := 0) (p := .str "lot") rfl ?_
    walk_at "vi step"
    refine ⟨fun g => absurd (of_decide_eq_true g) (by decide +kernel), fun _ => ?_⟩
    walk_at "vi step"
    exact ⟨_, rfl, lv_same (Nat.le_refl _) (q2 (Tu.no_real h1 h2 h4))⟩
/-! frames with a road out, shut -/
theorem cut_drop {α : Type} (l : List α) (i : Nat) : l.take i ++ l.drop (i + 1) = l.eraseIdx i := by rw [List.eraseIdx_eq_take_drop_succ]
theorem frame_out_ok (n : Nat) {st : Sto} {N : Nat} {E : Fo.Ed} {i : Nat} {Q : D → Sto → Prop} (hE : E.length ≤ 1000) (q : Q (frD N (E.eraseIdx i)) st) : Ok2 (callF Pr LIM (n + 1) i_frame_out [frD N E, natD i] st) Q := by
  refine run_of p_frame_out rfl ?_; simp only [f_frame_out, List.map_cons, List.map_nil, List.cons_append, List.nil_append, Nat.reduceSub, List.replicate_succ, List.replicate_zero, List.append_nil]
  walk_at "vi step"
  refine qx_tup (k := 0) (p := natP N) rfl ?_
  walk_at "vi step"
  refine qx_tup (k := 1) (p := .tuple (E.map edP)) rfl ?_
  walk_at "vi step"
  refine sl_hi ?_
  walk_at "vi step"
  refine qx_tup (k := 1) (p := .tuple (E.map edP)) rfl ?_
  walk_at "vi step"
  refine sl_lo (k := i + 1) ?_
  refine op_addT (by simp; omega) ?_
  walk_at "vi step"
  have e : (E.map edP).take i ++ (E.map edP).drop (i + 1) = (E.eraseIdx i).map edP := by rw [← List.map_take, ← List.map_drop, ← List.map_append, cut_drop]
  rw [e]
  refine mk_tup (ps := [natP N, .tuple ((E.eraseIdx i).map edP)]) rfl (by simp) ?_
  walk_at "vi step"
  exact ⟨_, rfl, lv_same (Nat.le_refl _) q⟩
theorem names_at {N low high : Nat} {c : Nat} (hc : c < N) : ((List.range N).map fun c => natP (Tu.nm high low c))[c]? = some (natP (Tu.nm high low c)) := by simp [hc]
theorem frame_shut_ok (n : Nat) {st : Sto} {N : Nat} {E : Fo.Ed} {i : Nat} {Q : D → Sto → Prop} (hN : N ≤ 1000) (hE : E.length ≤ 1000) (he : Fo.InF N E) (hi : i < E.length) (hne : (E.getD i (0, 0)).1 ≠ (E.getD i (0, 0)).2)
    (q : Q (frD (N - 1) (Tu.shutE (E.eraseIdx i) (min (E.getD i (0, 0)).1 (E.getD i (0, 0)).2) (max (E.getD i (0, 0)).1 (E.getD i (0, 0)).2))) st) : Ok2 (callF Pr LIM (n + 2) i_frame_shut [frD N E, natD i] st) Q := by
  obtain ⟨ha, hb⟩ := getD_in he hi
  have hat := ed_at hi
  generalize E.getD i (0, 0) = e at ha hb hne q hat
  obtain ⟨a, b⟩ := e
  have he2 : Fo.InF N (E.eraseIdx i) := fun e hm => he e (List.mem_of_mem_eraseIdx hm)
  simp only at hne q ha hb
  generalize hlo : min a b = low at q
  generalize hhi : max a b = high at q
  have hlh : low < high := by omega
  have hhN : high < N := by omega
  refine run_of p_frame_shut rfl ?_; simp only [f_frame_shut, List.map_cons, List.map_nil, List.cons_append, List.nil_append, Nat.reduceSub, List.replicate_succ, List.replicate_zero, List.append_nil]
  walk_at "vi step"
  with_reducible refine frame_out_ok n (by omega) ?_
  walk_at "vi step"
  refine qx_tup (k := 1) (p := .tuple (E.map edP)) rfl ?_
  walk_at "vi step"
  refine qx_tup (k := i) (p := edP (a, b)) hat ?_
  have e1 : edP (a, b) = .tuple ([a, b].map natP) := rfl
  rw [e1]
  refine sort_natsT (by simp) ?_
  rw [merge2, hlo, hhi]
  refine ok_tl2 (a := natP low) (b := natP high) ?_
  walk_at "vi step"
  refine ⟨fun g => ?_, fun g => ?_⟩
  · have := of_decide_eq_true g
    omega
  walk_at "vi step"
  refine rng_one (n := N) (by omega) ?_
  refine co_map (e := fun i : Nat => D.v (.int (i : Nat))) (g := fun c => natP (Tu.nm high low c)) (by simp; omega) ?_ ?_
  · intro c hc
    have hcN := List.mem_range.mp hc
    walk_at "vi step"
    refine ⟨fun g => ?_, fun g => ?_⟩
    · have g2 : c = high := by have := of_decide_eq_true g; omega
      walk_at "vi step"
      refine ⟨?_, rfl⟩
      unfold Tu.nm
      rw [if_neg (by omega), if_pos g2]
    · have g2 : ¬ c = high := by have := of_decide_eq_false g; omega
      walk_at "vi step"
      refine ⟨?_, rfl⟩
      unfold Tu.nm
      by_cases h : c < high
      · have h' : ¬ ((high : Int) < (c : Int)) := by omega
        rw [if_pos h]
        simp [h']
      · have h' : (high : Int) < (c : Int) := by omega
        have e : ((c - 1 : Nat) : Int) = (c : Int) - 1 := by omega
        rw [if_neg h, if_neg g2]
        simp [h', e]
  · walk_at "vi step"
    rw [List.map_map]
    refine co_map (e := fun e : Nat × Nat => D.v (edP e)) (g := fun e : Nat × Nat => edP (Tu.nm high low e.1, Tu.nm high low e.2)) (by rw [List.length_eraseIdx_of_lt hi]; omega) ?_ ?_
    · rintro ⟨x, y⟩ hm
      obtain ⟨k1, k2⟩ := he2 (x, y) hm
      walk_at "vi step"
      refine qx_lst (k := x) (names_at k1) ?_
      walk_at "vi step"
      refine qx_lst (k := y) (names_at k2) ?_
      walk_at "vi step"
      refine mk_tup (ps := [natP (Tu.nm high low x), natP (Tu.nm high low y)]) rfl (by simp) ?_
      exact ⟨rfl, rfl⟩
    · have e2 : ((E.eraseIdx i).map fun e : Nat × Nat => edP (Tu.nm high low e.1, Tu.nm high low e.2)) = (Tu.shutE (E.eraseIdx i) low high).map edP := by unfold Tu.shutE; rw [List.map_map]; rfl
      rw [e2]
      walk_at "vi step"
      refine bl_tupL (by rw [List.length_map]; unfold Tu.shutE; rw [List.length_map, List.length_eraseIdx_of_lt hi]; omega) ?_
      walk_at "vi step"
      have e3 : (N : Int) - 1 = ((N - 1 : Nat) : Int) := by omega
      rw [e3]
      refine mk_tup (ps := [natP (N - 1), .tuple ((Tu.shutE (E.eraseIdx i) low high).map edP)]) rfl (by simp) ?_
      walk_at "vi step"
      exact ⟨_, rfl, lv_same (Nat.le_refl _) q⟩

end K58
set_option Elab.async false
set_option linter.all false
set_option maxRecDepth 100000
set_option maxHeartbeats 400000
namespace K58
open PySem PySem.Spec PyProof.Rows L2 Vi
local macro_rules | `(tactic| walk_at "vi step") => `(tactic| repeat (with_reducible first | refine ok_var (by repeat constructor) ?_ | refine ok_name (by repeat constructor) ?_ | refine ok_comp (by repeat constructor) ?_ | refine ok_s1 ?_ | refine at_nx ?_ | refine at_rt ?_ | refine at_ex ?_ | refine ok_set ?_ | refine ok_par ?_ | refine ok_expr ?_ | refine ok_sret ?_ | refine ok_sretN ?_ | refine ok_site ?_ | refine ok_for ?_ | refine ok_while ?_ | refine ok_pass ?_ | refine ok_raise ?_ | refine ok_s0 ?_ | refine ok_cst ?_ | refine ok_tup ?_ | refine ok_lst ?_ | refine ok_bin ?_ | refine ok_neg ?_ | refine ok_not ?_ | refine ok_and ?_ | refine ok_or ?_ | refine ok_and1 ?_ | refine ok_or1 ?_ | refine ok_and2 ?_ | refine ok_or2 ?_ | refine ok_cmp ?_ | refine ok_chain ?_ | refine ok_isN ?_ | refine ok_ite ?_ | refine ok_idx ?_ | refine ok_slice ?_ | refine ok_o0 ?_ | refine ok_o1 ?_ | refine ok_rev ?_ | refine ok_call ?_ | refine ok_blt ?_ | refine ok_lrng ?_ | refine ok_trng ?_ | refine ok_sorted ?_ | refine ok_isa ?_ | refine ok_mt ?_ | refine ok_turn0 ?_ | refine ok_turn1 ?_ | refine ok_new ?_ | refine ok_ndct ?_ | refine ok_k0 ?_ | refine ok_k1 ?_ | refine ok_es0 ?_ | refine ok_es1 ?_ | refine ok_as0 ?_ | refine ok_as1 ?_ | refine ok_as2 ?_ | refine ok_val ?_ | refine ok_rng ?_ | refine ok_rngD ?_ | refine ok_enumT ?_ | refine ok_zip ?_ | refine ok_tt2 ?_ | refine ok_tt3 ?_ | refine ok_ts0 ?_ | refine ok_ts1 ?_ | refine ok_body ?_ | refine ok_sub ?_ | refine ok_evT ?_ | refine en_tup ?_ | refine en_lst ?_ | refine zi_tup ?_ | refine is_int ?_ | refine sq_tup ?_ | refine sq_lst ?_ | refine ok_gint ?_ | refine ok_ndT ?_ | refine ok_ndK ?_ | refine okt_b ?_ | refine op_add ?_ | refine op_sub ?_ | refine op_and ?_ | refine op_lt2 ?_ | refine op_le2 ?_ | refine op_gt2 ?_ | refine op_ge2 ?_ | refine op_eq2 ?_ | refine op_ne2 ?_ | refine op_eqS ?_ | refine op_neS ?_ | refine bl_intb ?_ | refine bl_inti ?_ | refine bl_lenT ?_ | refine bl_lenL ?_ | refine bl_abs ?_ | refine bl_max ?_ | refine bl_min ?_ | refine it_tup ?_ | refine it_lst ?_))
local macro_rules | `(tactic| walk_at "vi step0") => `(tactic| repeat (with_reducible first | refine ok_var (by repeat constructor) ?_ | refine ok_name (by repeat constructor) ?_ | refine ok_comp (by repeat constructor) ?_ | refine ok_s1 ?_ | refine at_nx ?_ | refine at_rt ?_ | refine at_ex ?_ | refine ok_set ?_ | refine ok_par ?_ | refine ok_expr ?_ | refine ok_sret ?_ | refine ok_sretN ?_ | refine ok_site ?_ | refine ok_for ?_ | refine ok_while ?_ | refine ok_pass ?_ | refine ok_raise ?_ | refine ok_s0 ?_ | refine ok_cst ?_ | refine ok_tup ?_ | refine ok_lst ?_ | refine ok_bin ?_ | refine ok_neg ?_ | refine ok_not ?_ | refine ok_and ?_ | refine ok_or ?_ | refine ok_and1 ?_ | refine ok_or1 ?_ | refine ok_and2 ?_ | refine ok_or2 ?_ | refine ok_cmp ?_ | refine ok_chain ?_ | refine ok_isN ?_ | refine ok_ite ?_ | refine ok_idx ?_ | refine ok_slice ?_ | refine ok_o0 ?_ | refine ok_o1 ?_ | refine ok_rev ?_ | refine ok_call ?_ | refine ok_blt ?_ | refine ok_lrng ?_ | refine ok_trng ?_ | refine ok_sorted ?_ | refine ok_isa ?_ | refine ok_mt ?_ | refine ok_turn0 ?_ | refine ok_turn1 ?_ | refine ok_new ?_ | refine ok_ndct ?_ | refine ok_k0 ?_ | refine ok_k1 ?_ | refine ok_es0 ?_ | refine ok_es1 ?_ | refine ok_as0 ?_ | refine ok_as1 ?_ | refine ok_as2 ?_ | refine ok_val ?_ | refine ok_rng ?_ | refine ok_rngD ?_ | refine ok_enumT ?_ | refine ok_zip ?_ | refine ok_tt2 ?_ | refine ok_tt3 ?_ | refine ok_ts0 ?_ | refine ok_ts1 ?_ | refine ok_body ?_ | refine ok_sub ?_ | refine ok_evT ?_ | refine en_tup ?_ | refine en_lst ?_ | refine zi_tup ?_ | refine is_int ?_ | refine sq_tup ?_ | refine sq_lst ?_ | refine ok_gint ?_ | refine ok_ndT ?_ | refine ok_ndK ?_ | refine okt_b ?_))
/-! rows of whole numbers, told forests -/
theorem putZ_map (r : List Int) (c : Nat) (k : Int) : (r.zipIdx.map fun p : Int × Nat => PyData.int (p.1 + k * (if p.2 = c then 1 else 0))) = (Tu.putZ r c k).map .int := by
  refine List.ext_getElem (by simp [Tu.putZ]) fun i h1 h2 => ?_
  have h3 : i < r.length := by simpa using h1
  simp only [List.getElem_map, List.getElem_zipIdx, Nat.zero_add, Tu.putZ_get i h3]
  congr 2
  split <;> simp
theorem with_addedZ_ok (n : Nat) {st : Sto} {r : List Int} {c : Nat} {k : Int} {Q : D → Sto → Prop} (hl : r.length ≤ 1000) (q : Q (zrD (Tu.putZ r c k)) st) : Ok2 (callF Pr LIM (n + 1) i_with_added [zrD r, natD c, .v (.int k)] st) Q := by
  refine run_of p_with_added rfl ?_; simp only [f_with_added, List.map_cons, List.map_nil, List.cons_append, List.nil_append, Nat.reduceSub, List.replicate_succ, List.replicate_zero, List.append_nil]
  walk_at "vi step"
  rw [List.zipIdx_map, List.map_map]
  refine co_map (e := fun p : Int × Nat => D.v (.tuple [.int (p.2 : Nat), .int p.1])) (g := fun p : Int × Nat => PyData.int (p.1 + k * (if p.2 = c then 1 else 0))) (by simp; omega) ?_ ?_
  · rintro ⟨x, i⟩ _
    walk_at "vi step0"
    refine op_eq2 ?_
    walk_at "vi step0"
    refine bl_intb ?_
    walk_at "vi step0"
    by_cases h : i = c
    · subst h
      simp only [decide_true, if_true]
      refine op_mul (mul_small (.inr (by omega))) ?_
      refine op_add ?_
      exact ⟨by simp, by trivial⟩
    · have h' : ¬ ((i : Int) = (c : Int)) := by omega
      simp only [h', h, decide_false, if_false, Bool.false_eq_true]
      refine op_mul (mul_small (.inr (by omega))) ?_
      refine op_add ?_
      exact ⟨by simp, by trivial⟩
  · rw [putZ_map]
    walk_at "vi step"
    refine bl_tupL (by rw [List.length_map, Tu.putZ_length]; omega) ?_
    walk_at "vi step"
    exact ⟨_, rfl, lv_same (Nat.le_refl _) q⟩
theorem putZ_split {r : List Int} {c : Nat} {k : Int} (hc : c < r.length) : (r.map PyData.int).take c ++ [.int (r.getD c 0 + k)] ++ (r.map PyData.int).drop (c + 1) = (Tu.putZ r c k).map .int := by
  have e : r.getD c 0 = r[c] := by simp [hc]
  rw [e, ← List.map_take, ← List.map_drop]
  unfold Tu.putZ
  rw [List.modify_eq_take_cons_drop hc, List.map_append, List.map_cons, List.append_assoc]
  rfl
theorem law_putZ_ok (n : Nat) {st : Sto} {r : List Int} {c : Nat} {k : Int} {Q : D → Sto → Prop} (hc : c < r.length) (hl : r.length ≤ 1000) (q : Q (zrD (Tu.putZ r c k)) st) : Ok2 (callF Pr LIM (n + 1) i__law_put [zrD r, natD c, .v (.int k)] st) Q := by
  refine run_of p__law_put rfl ?_; simp only [f__law_put, List.map_cons, List.map_nil, List.cons_append, List.nil_append, Nat.reduceSub, List.replicate_succ, List.replicate_zero, List.append_nil]
  walk_at "vi step"
  refine sl_hi ?_
  walk_at "vi step"
  refine qx_tup (k := c) (p := .int (r.getD c 0)) (zr_at hc) ?_
  walk_at "vi step"
  refine mk_tup (ps := [.int (r.getD c 0 + k)]) rfl (by simp) ?_
  refine op_addT (by simp; omega) ?_
  walk_at "vi step"
  refine sl_lo (k := c + 1) ?_
  refine op_addT (by simp; omega) ?_
  rw [putZ_split hc]
  walk_at "vi step"
  exact ⟨_, rfl, lv_same (Nat.le_refl _) q⟩
theorem cutZ (f : List Int) (i : Nat) : (f.map PyData.int).take i ++ (f.map PyData.int).drop (i + 1) = (f.take i ++ f.drop (i + 1)).map .int := by
  rw [← List.map_take, ← List.map_drop, ← List.map_append]
theorem shut_outs_ok (n : Nat) {st : Sto} {N : Nat} {E : Fo.Ed} {i : Nat} {o : List Int} {Q : D → Sto → Prop} (hN : N ≤ 1000) (he : Fo.InF N E) (hi : i < E.length) (ho : o.length = N)
    (q : Q (zrD (Tu.shutO o (min (E.getD i (0, 0)).1 (E.getD i (0, 0)).2) (max (E.getD i (0, 0)).1 (E.getD i (0, 0)).2))) st) : Ok2 (callF Pr LIM (n + 2) i_shut_outs [frD N E, natD i, zrD o] st) Q := by
  obtain ⟨ha, hb⟩ := getD_in he hi
  have hat := ed_at hi
  generalize E.getD i (0, 0) = e at ha hb q hat
  obtain ⟨a, b⟩ := e
  simp only at q ha hb
  generalize hlo : min a b = low at q
  generalize hhi : max a b = high at q
  have hhN : high < N := by omega
  refine run_of p_shut_outs rfl ?_; simp only [f_shut_outs, List.map_cons, List.map_nil, List.cons_append, List.nil_append, Nat.reduceSub, List.replicate_succ, List.replicate_zero, List.append_nil]
  walk_at "vi step"
  refine qx_tup (k := 1) (p := .tuple (E.map edP)) rfl ?_
  walk_at "vi step"
  refine qx_tup (k := i) (p := edP (a, b)) hat ?_
  have e1 : edP (a, b) = .tuple ([a, b].map natP) := rfl
  rw [e1]
  refine sort_natsT (by simp) ?_
  rw [merge2, hlo, hhi]
  refine ok_tl2 (a := natP low) (b := natP high) ?_
  walk_at "vi step"
  refine qx_tup (k := high) (p := .int (o.getD high 0)) (zr_at (by omega)) ?_
  walk_at "vi step"
  with_reducible refine with_addedZ_ok n (by omega) ?_
  walk_at "vi step"
  refine sl_hi ?_
  walk_at "vi step"
  refine sl_lo (k := high + 1) ?_
  refine op_addT (by simp [Tu.putZ_length]; omega) ?_
  rw [cutZ]
  walk_at "vi step"
  exact ⟨_, rfl, lv_same (Nat.le_refl _) q⟩
theorem rngD_rev (m : Nat) : rngDn ((m : Int) - 1) (-1) = ((List.range m).reverse).map fun (i : Nat) => D.v (.int (i : Nat)) := by
  unfold rngDn
  have e : ((m : Int) - 1 - -1).toNat = m := by omega
  rw [e]
  refine List.ext_getElem (by simp) fun i h1 h2 => ?_
  have h3 : i < m := by simpa using h1
  simp only [List.getElem_map, List.getElem_range, List.getElem_reverse, List.length_range]
  congr 2
  omega
theorem rngD_ok {m : Nat} {P : List D → Prop} (hm : m < 1000000) (h : P (((List.range m).reverse).map fun (i : Nat) => D.v (.int (i : Nat)))) : Ok (rngDOf [.v (.int ((m : Int) - 1)), .v (.int (-1))]) P := by
  refine ⟨_, ?_, h⟩
  have h1 : rngOk ((m : Int) - 1) = true := by simp [rngOk]; omega
  have h2 : rngOk (-1) = true := by decide
  simp only [rngDOf, h1, h2, Bool.and_self, if_true, rngD_rev]
theorem rev_cons {x j : Nat} {r : List Nat} (h : x :: r = (List.range j).reverse) : j = x + 1 ∧ r = (List.range x).reverse := by
  cases j with
  | zero => simp at h
  | succ j =>
    rw [List.range_succ, List.reverse_append] at h
    simp only [List.reverse_cons, List.reverse_nil, List.nil_append, List.singleton_append, List.cons.injEq] at h
    obtain ⟨rfl, rfl⟩ := h
    exact ⟨rfl, rfl⟩
theorem told_loop (n : Nat) {st : Sto} {N : Nat} {E : Fo.Ed} {o : List Int} {F : Vi.Flow → En → Sto → Prop} (hN0 : 0 < N) (hN : N ≤ 60) (hE : E.length ≤ 900) (he : Fo.InF N E) (ho : o.length = N) (hnb : Tu.nb o + E.length ≤ 2000) (hb : st.all (belowO st.length) = true)
    (hF : ∀ env js, js.all (belowO 0) = true → F (.rt (rowTD (Tu.tf E.length N E o []))) env (st ++ js)) : Ok3 (exSs (cfg Pr LIM (n + 5)) (f_told_forest.body.drop 1) [some (frD N E), some (zrD o), none, none, none, none, none, none] st) F := by
  simp only [f_told_forest, List.drop_succ_cons, List.drop_zero]
  walk_at "vi step"
  refine mk_lst (ps := []) rfl (by simp) ?_
  refine is_lst ?_
  walk_at "vi step"
  refine qx_tup (k := 1) (p := .tuple (E.map edP)) rfl ?_
  walk_at "vi step"
  rw [List.length_map]
  refine rngD_ok (by omega) ?_
  refine fo_inv (e := fun i : Nat => D.v (.int (i : Nat))) (fun l env st' => ∃ (j Nc : Nat) (Ec : Fo.Ed) (oc : List Int) (acc : List Nat) (u3 u4 u5 u6 u7 : Option D), l = (List.range j).reverse ∧ st' = st ++ [Vi.O.lst ((acc.reverse.map natP).map D.v)] ∧ env = [some (frD Nc Ec), some (zrD oc), some (.ref st.length), u3, u4, u5, u6, u7] ∧ Ec.length = j ∧ j ≤ E.length ∧ 0 < Nc ∧ Nc ≤ N ∧ Fo.InF Nc Ec ∧ oc.length = Nc ∧ Tu.nb oc + j ≤ 2000 ∧ acc.length + j ≤ E.length ∧ Tu.tf j Nc Ec oc acc = Tu.tf E.length N E o []) ?_ ?_ ?_
  · rintro i l env st' ⟨j, Nc, Ec, oc, acc, u3, u4, u5, u6, u7, hl, rfl, rfl, hEc, hj, hNc0, hNc, hec, hoc, hnc, hal, htf⟩
    obtain ⟨rfl, rfl⟩ := rev_cons hl
    have hi : i < Ec.length := by omega
    obtain ⟨ha, hbb⟩ := getD_in hec hi
    have hat := ed_at hi
    have hlast := Tu.take_last hEc
    have hsub : Fo.InF Nc (Ec.take i) := fun e hm => hec e (List.mem_of_mem_take hm)
    have hb2 : (st ++ [Vi.O.lst ((acc.reverse.map natP).map D.v)]).all (belowO (st ++ [Vi.O.lst ((acc.reverse.map natP).map D.v)]).length) = true := bel_plain hb (by simp [belowO, belowD])
    have hsh := fun Q => frame_shut_ok (Q := Q) (st := st ++ [Vi.O.lst (((acc.reverse ++ [i]).map natP).map D.v)]) (n + 3) (N := Nc) (E := Ec) (i := i) (by omega) (by omega) hec hi
    have hso := fun Q => shut_outs_ok (Q := Q) (st := st ++ [Vi.O.lst (((acc.reverse ++ [i]).map natP).map D.v)]) (n + 3) (N := Nc) (E := Ec) (i := i) (o := oc) (by omega) hec hi hoc
    have hty := Tu.tf_yes (m := i) (n := Nc) (E := Ec) (o := oc) (acc := acc)
    have htn := Tu.tf_no (m := i) (n := Nc) (E := Ec) (o := oc) (acc := acc)
    rw [htf] at hty htn
    generalize Ec.getD i (0, 0) = e at ha hbb hat hsh hso hty htn
    obtain ⟨a, b⟩ := e
    simp only at ha hbb hsh hso hty htn
    have hnp := Tu.nb_less (o := oc) (c := a) (by omega)
    have hnp2 : Tu.nb (Tu.putZ oc (a, b).fst (-1)) ≤ Tu.nb oc + 1 := hnp
    have hpl : (Tu.putZ oc a (-1)).length = Nc := by rw [Tu.putZ_length]; exact hoc
    have htk : (Ec.take i).length = i := by rw [List.length_take]; omega
    walk_at "vi step"
    refine qx_tup (k := 1) (p := .tuple (Ec.map edP)) rfl ?_
    walk_at "vi step"
    refine qx_tup (k := i) (p := edP (a, b)) hat ?_
    walk_at "vi step"
    with_reducible refine with_addedZ_ok (n + 4) (by omega) ?_
    walk_at "vi step"
    with_reducible refine frame_out_ok (n + 4) (by omega) ?_
    rw [hlast]
    walk_at "vi step"
    have yes : a = b ∨ Tu.Real Nc (Ec.take i) (Tu.putZ oc a (-1)) → Tu.tf i Nc (Ec.take i) (Tu.putZ oc a (-1)) acc = Tu.tf E.length N E o [] := fun h => (hty h).symm
    refine ⟨fun g => ?_, fun g => ?_⟩
    · have g2 : a = b := by have := of_decide_eq_true g; omega
      walk_at "vi step"
      refine ⟨fun _ => ?_, fun g3 => by rw [g] at g3; cases g3⟩
      walk_at "vi step"
      exact ⟨rfl, i, Nc, Ec.take i, _, acc, _, _, _, _, _, rfl, rfl, rfl, htk, by omega, hNc0, hNc, hsub, hpl, by (show Tu.nb (Tu.putZ oc a (-1)) + i ≤ 2000); omega, by omega, yes (.inl g2)⟩
    · have g2 : a ≠ b := by have := of_decide_eq_false g; omega
      walk_at "vi step"
      with_reducible refine turning_with_ok n (by omega) (by omega) hsub hpl (by omega) hb2 (fun T hT e => ?_) (fun hno => ?_)
      · walk_at "vi step"
        refine ⟨fun _ => ?_, (fun g3 => nomatch g3)⟩
        walk_at "vi step"
        exact ⟨rfl, i, Nc, Ec.take i, _, acc, _, _, _, _, _, rfl, rfl, rfl, htk, by omega, hNc0, hNc, hsub, hpl, by (show Tu.nb (Tu.putZ oc a (-1)) + i ≤ 2000); omega, by omega, yes (.inr ⟨T, hT, e⟩)⟩
      · walk_at "vi step"
        refine ⟨(fun g3 => nomatch g3), fun _ => ?_⟩
        walk_at "vi step"
        refine mt_ref rfl (kp_at _ _) ?_
        walk_at "vi step"
        refine me_append (kp_at _ _) (by simp; omega) ?_
        rw [kp_set]
        have ea : (acc.reverse.map natP).map D.v ++ [natD i] = ((acc.reverse ++ [i]).map natP).map D.v := by simp
        rw [ea]
        walk_at "vi step"
        refine hso _ ?_
        walk_at "vi step"
        refine hsh _ g2 ?_
        rw [hlast]
        walk_at "vi step"
        have hlh : min a b < max a b := by omega
        have hhN : max a b < Nc := by omega
        refine ⟨rfl, i, Nc - 1, _, _, i :: acc, _, _, _, _, _, rfl, by rw [List.reverse_cons], rfl, ?_, by omega, by omega, by omega, Tu.shut_in hlh hhN hsub, ?_, ?_, ?_, ?_⟩
        · unfold Tu.shutE; rw [List.length_map]; exact htk
        · rw [Tu.shutO_length (by omega)]; omega
        · have := Tu.nb_shut hlh (by omega : max a b < oc.length); omega
        · rw [List.length_cons]; omega
        · exact (htn (fun h => h.elim g2 hno)).symm
  · exact ⟨E.length, N, E, o, [], _, _, _, _, _, rfl, rfl, rfl, rfl, Nat.le_refl _, hN0, Nat.le_refl _, he, ho, hnb, by simp, rfl⟩
  · rintro env st' ⟨j, Nc, Ec, oc, acc, u3, u4, u5, u6, u7, hl, rfl, rfl, hEc, hj, hNc0, hNc, hec, hoc, hnc, hal, htf⟩
    have hj0 : j = 0 := by
      have := congrArg List.length hl
      simp at this
      omega
    subst hj0
    have htf' : acc = Tu.tf E.length N E o [] := htf
    walk_at "vi step"
    refine rv_ref (xs := acc.reverse.map natP) (kp_at _ _) (by simp; omega) ?_
    rw [← List.map_reverse, List.reverse_reverse]
    walk_at "vi step"
    refine bl_tupL (xs := acc.map natP) (by rw [List.length_map]; omega) ?_
    walk_at "vi step"
    rw [htf']
    exact hF _ _ (by simp [belowO, belowD])
theorem told_forestX_ok (n : Nat) {st : Sto} {N : Nat} {E : Fo.Ed} {o : List Int} {Q : Option D → Sto → Prop} (hN0 : 0 < N) (hN : N ≤ 60) (hE : E.length ≤ 900) (he : Fo.InF N E) (ho : o.length = N) (hnb : Tu.nb o + E.length ≤ 2000) (hb : st.all (belowO st.length) = true)
    (q1 : Tu.Real N E o → Q (some (rowTD (Tu.tf E.length N E o []))) st) (q2 : ¬ Tu.Real N E o → Q none st) : Ok2 (callX Pr LIM (n + 6) i_told_forest [frD N E, zrD o] st) Q := by
  refine runX_of p_told_forest rfl ?_; simp only [f_told_forest, List.map_cons, List.map_nil, List.cons_append, List.nil_append, Nat.reduceSub, List.replicate_succ, List.replicate_zero, List.append_nil]
  refine ok_s1 ?_
  walk_at "vi step"
  with_reducible refine turning_with_ok n hN hE he ho (by omega) hb (fun T hT e => ?_) (fun hno => ?_)
  · walk_at "vi step"
    refine ⟨(fun g => nomatch g), fun _ => ?_⟩
    refine ok_s0 ?_
    refine at_nx ?_
    refine told_loop n hN0 hN hE he ho hnb hb fun env js hj => ?_
    exact .inl ⟨_, rfl, lv_cut hb js rfl (q1 ⟨T, hT, e⟩)⟩
  · walk_at "vi step"
    refine ⟨fun _ => ?_, (fun g => nomatch g)⟩
    walk_at "vi step"
    exact .inr ⟨rfl, lv_same (Nat.le_refl _) (q2 hno)⟩
theorem told_forest_ok (n : Nat) {st : Sto} {N : Nat} {E : Fo.Ed} {o : List Int} {Q : D → Sto → Prop} (hN0 : 0 < N) (hN : N ≤ 60) (hE : E.length ≤ 900) (he : Fo.InF N E) (ho : o.length = N) (hnb : Tu.nb o + E.length ≤ 2000) (hb : st.all (belowO st.length) = true) (hr : Tu.Real N E o)
    (q1 : Q (rowTD (Tu.tf E.length N E o [])) st) : Ok2 (callF Pr LIM (n + 6) i_told_forest [frD N E, zrD o] st) Q := by
  refine run_of p_told_forest rfl ?_; simp only [f_told_forest, List.map_cons, List.map_nil, List.cons_append, List.nil_append, Nat.reduceSub, List.replicate_succ, List.replicate_zero, List.append_nil]
  refine ok_s1 ?_
  walk_at "vi step"
  with_reducible refine turning_with_ok n hN hE he ho (by omega) hb (fun T hT e => ?_) (fun hno => absurd hr hno)
  walk_at "vi step"
  refine ⟨(fun g => nomatch g), fun _ => ?_⟩
  refine ok_s0 ?_
  refine at_nx ?_
  refine told_loop n hN0 hN hE he ho hnb hb fun env js hj => ?_
  exact ⟨_, rfl, lv_cut hb js rfl q1⟩

end K58
set_option Elab.async false
set_option linter.all false
set_option maxRecDepth 100000
set_option maxHeartbeats 400000
namespace K58
open PySem PySem.Spec PyProof.Rows L2 Vi
local macro_rules | `(tactic| walk_at "vi step") => `(tactic| repeat (with_reducible first | refine ok_var (by repeat constructor) ?_ | refine ok_name (by repeat constructor) ?_ | refine ok_comp (by repeat constructor) ?_ | refine ok_s1 ?_ | refine at_nx ?_ | refine at_rt ?_ | refine at_ex ?_ | refine ok_set ?_ | refine ok_par ?_ | refine ok_expr ?_ | refine ok_sret ?_ | refine ok_sretN ?_ | refine ok_site ?_ | refine ok_for ?_ | refine ok_while ?_ | refine ok_pass ?_ | refine ok_raise ?_ | refine ok_s0 ?_ | refine ok_cst ?_ | refine ok_tup ?_ | refine ok_lst ?_ | refine ok_bin ?_ | refine ok_neg ?_ | refine ok_not ?_ | refine ok_and ?_ | refine ok_or ?_ | refine ok_and1 ?_ | refine ok_or1 ?_ | refine ok_and2 ?_ | refine ok_or2 ?_ | refine ok_cmp ?_ | refine ok_chain ?_ | refine ok_isN ?_ | refine ok_ite ?_ | refine ok_idx ?_ | refine ok_slice ?_ | refine ok_o0 ?_ | refine ok_o1 ?_ | refine ok_rev ?_ | refine ok_call ?_ | refine ok_blt ?_ | refine ok_lrng ?_ | refine ok_trng ?_ | refine ok_sorted ?_ | refine ok_isa ?_ | refine ok_mt ?_ | refine ok_turn0 ?_ | refine ok_turn1 ?_ | refine ok_new ?_ | refine ok_ndct ?_ | refine ok_k0 ?_ | refine ok_k1 ?_ | refine ok_es0 ?_ | refine ok_es1 ?_ | refine ok_as0 ?_ | refine ok_as1 ?_ | refine ok_as2 ?_ | refine ok_val ?_ | refine ok_rng ?_ | refine ok_rngD ?_ | refine ok_enumT ?_ | refine ok_zip ?_ | refine ok_tt2 ?_ | refine ok_tt3 ?_ | refine ok_ts0 ?_ | refine ok_ts1 ?_ | refine ok_body ?_ | refine ok_sub ?_ | refine ok_evT ?_ | refine en_tup ?_ | refine en_lst ?_ | refine zi_tup ?_ | refine is_int ?_ | refine sq_tup ?_ | refine sq_lst ?_ | refine ok_gint ?_ | refine ok_ndT ?_ | refine ok_ndK ?_ | refine okt_b ?_ | refine op_add ?_ | refine op_sub ?_ | refine op_and ?_ | refine op_lt2 ?_ | refine op_le2 ?_ | refine op_gt2 ?_ | refine op_ge2 ?_ | refine op_eq2 ?_ | refine op_ne2 ?_ | refine op_eqS ?_ | refine op_neS ?_ | refine bl_intb ?_ | refine bl_inti ?_ | refine bl_lenT ?_ | refine bl_lenL ?_ | refine bl_abs ?_ | refine bl_max ?_ | refine bl_min ?_ | refine it_tup ?_ | refine it_lst ?_))
local macro_rules | `(tactic| walk_at "vi step0") => `(tactic| repeat (with_reducible first | refine ok_var (by repeat constructor) ?_ | refine ok_name (by repeat constructor) ?_ | refine ok_comp (by repeat constructor) ?_ | refine ok_s1 ?_ | refine at_nx ?_ | refine at_rt ?_ | refine at_ex ?_ | refine ok_set ?_ | refine ok_par ?_ | refine ok_expr ?_ | refine ok_sret ?_ | refine ok_sretN ?_ | refine ok_site ?_ | refine ok_for ?_ | refine ok_while ?_ | refine ok_pass ?_ | refine ok_raise ?_ | refine ok_s0 ?_ | refine ok_cst ?_ | refine ok_tup ?_ | refine ok_lst ?_ | refine ok_bin ?_ | refine ok_neg ?_ | refine ok_not ?_ | refine ok_and ?_ | refine ok_or ?_ | refine ok_and1 ?_ | refine ok_or1 ?_ | refine ok_and2 ?_ | refine ok_or2 ?_ | refine ok_cmp ?_ | refine ok_chain ?_ | refine ok_isN ?_ | refine ok_ite ?_ | refine ok_idx ?_ | refine ok_slice ?_ | refine ok_o0 ?_ | refine ok_o1 ?_ | refine ok_rev ?_ | refine ok_call ?_ | refine ok_blt ?_ | refine ok_lrng ?_ | refine ok_trng ?_ | refine ok_sorted ?_ | refine ok_isa ?_ | refine ok_mt ?_ | refine ok_turn0 ?_ | refine ok_turn1 ?_ | refine ok_new ?_ | refine ok_ndct ?_ | refine ok_k0 ?_ | refine ok_k1 ?_ | refine ok_es0 ?_ | refine ok_es1 ?_ | refine ok_as0 ?_ | refine ok_as1 ?_ | refine ok_as2 ?_ | refine ok_val ?_ | refine ok_rng ?_ | refine ok_rngD ?_ | refine ok_enumT ?_ | refine ok_zip ?_ | refine ok_tt2 ?_ | refine ok_tt3 ?_ | refine ok_ts0 ?_ | refine ok_ts1 ?_ | refine ok_body ?_ | refine ok_sub ?_ | refine ok_evT ?_ | refine en_tup ?_ | refine en_lst ?_ | refine zi_tup ?_ | refine is_int ?_ | refine sq_tup ?_ | refine sq_lst ?_ | refine ok_gint ?_ | refine ok_ndT ?_ | refine ok_ndK ?_ | refine okt_b ?_))
/-! the law's own told forest -/
theorem rowT_zr (r : List Nat) : rowT r = zr (Tu.toZ r) := by
  unfold Tu.toZ
  show PyData.tuple (r.map natP) = PyData.tuple ((r.map _).map PyData.int)
  rw [List.map_map]
  rfl
theorem rows_zr (l : List (List Nat)) : l.map rowT = (l.map Tu.toZ).map zr := by
  rw [List.map_map]
  exact List.map_congr_left fun r _ => rowT_zr r
theorem mem_outs {N : Nat} {E : Fo.Ed} (he : Fo.InF N E) {r : List Int} : r ∈ (sortN (Fo.rows 1 [Fo.zer N] E)).map Tu.toZ ↔ Tu.Real N E r := by
  rw [← Tu.mem_real he]
  constructor
  · intro h
    obtain ⟨s, hs, rfl⟩ := List.mem_map.mp h
    exact List.mem_map_of_mem (sortN_mem.mp hs)
  · intro h
    obtain ⟨s, hs, rfl⟩ := List.mem_map.mp h
    exact List.mem_map_of_mem (sortN_mem.mpr hs)
theorem law_out_ok (n : Nat) {st : Sto} {N : Nat} {E : Fo.Ed} {i : Nat} {Q : D → Sto → Prop} (hE : E.length ≤ 1000) (q : Q (frD N (E.eraseIdx i)) st) : Ok2 (callF Pr LIM (n + 1) i__law_out [frD N E, natD i] st) Q := by
  refine run_of p__law_out rfl ?_; simp only [f__law_out, List.map_cons, List.map_nil, List.cons_append, List.nil_append, Nat.reduceSub, List.replicate_succ, List.replicate_zero, List.append_nil]
  walk_at "vi step"
  refine qx_tup (k := 0) (p := natP N) rfl ?_
  walk_at "vi step"
  refine qx_tup (k := 1) (p := .tuple (E.map edP)) rfl ?_
  walk_at "vi step"
  refine sl_hi ?_
  walk_at "vi step"
  refine qx_tup (k := 1) (p := .tuple (E.map edP)) rfl ?_
  walk_at "vi step"
  refine sl_lo (k := i + 1) ?_
  refine op_addT (by simp; omega) ?_
  walk_at "vi step"
  have e : (E.map edP).take i ++ (E.map edP).drop (i + 1) = (E.eraseIdx i).map edP := by rw [← List.map_take, ← List.map_drop, ← List.map_append, cut_drop]
  rw [e]
  refine mk_tup (ps := [natP N, .tuple ((E.eraseIdx i).map edP)]) rfl (by simp) ?_
  walk_at "vi step"
  exact ⟨_, rfl, lv_same (Nat.le_refl _) q⟩
theorem law_shut_ok (n : Nat) {st : Sto} {N : Nat} {E : Fo.Ed} {i : Nat} {Q : D → Sto → Prop} (hN : N ≤ 1000) (hE : E.length ≤ 1000) (he : Fo.InF N E) (hi : i < E.length)
    (q : Q (frD (N - 1) (Tu.shutE (E.eraseIdx i) (min (E.getD i (0, 0)).1 (E.getD i (0, 0)).2) (max (E.getD i (0, 0)).1 (E.getD i (0, 0)).2))) st) : Ok2 (callF Pr LIM (n + 2) i__law_shut [frD N E, natD i] st) Q := by
  obtain ⟨ha, hb⟩ := getD_in he hi
  have hat := ed_at hi
  generalize E.getD i (0, 0) = e at ha hb q hat
  obtain ⟨a, b⟩ := e
  have he2 : Fo.InF N (E.eraseIdx i) := fun e hm => he e (List.mem_of_mem_eraseIdx hm)
  simp only at q ha hb
  generalize hlo : min a b = low at q
  generalize hhi : max a b = high at q
  have hhN : high < N := by omega
  refine run_of p__law_shut rfl ?_; simp only [f__law_shut, List.map_cons, List.map_nil, List.cons_append, List.nil_append, Nat.reduceSub, List.replicate_succ, List.replicate_zero, List.append_nil]
  walk_at "vi step"
  refine qx_tup (k := 1) (p := .tuple (E.map edP)) rfl ?_
  walk_at "vi step"
  refine qx_tup (k := i) (p := edP (a, b)) hat ?_
  have e1 : edP (a, b) = .tuple ([a, b].map natP) := rfl
  rw [e1]
  refine sort_natsT (by simp) ?_
  rw [merge2, hlo, hhi]
  refine ok_tl2 (a := natP low) (b := natP high) ?_
  walk_at "vi step"
  refine qx_tup (k := 0) (p := natP N) rfl ?_
  walk_at "vi step"
  refine rng_one (n := N) (by omega) ?_
  refine co_map (e := fun i : Nat => D.v (.int (i : Nat))) (g := fun c => natP (Tu.nm high low c)) (by simp; omega) ?_ ?_
  · intro c hc
    have hcN := List.mem_range.mp hc
    walk_at "vi step"
    refine ⟨fun g => ?_, fun g => ?_⟩
    · have g2 : c < high := by have := of_decide_eq_true g; omega
      walk_at "vi step"
      refine ⟨?_, rfl⟩
      unfold Tu.nm
      rw [if_pos g2]
    · have g2 : ¬ c < high := by have := of_decide_eq_false g; omega
      walk_at "vi step"
      refine ⟨fun g => ?_, fun g => ?_⟩
      · have g3 : c = high := by have := of_decide_eq_true g; omega
        walk_at "vi step"
        refine ⟨?_, rfl⟩
        unfold Tu.nm
        rw [if_neg g2, if_pos g3]
      · have g3 : ¬ c = high := by have := of_decide_eq_false g; omega
        have e : ((c - 1 : Nat) : Int) = (c : Int) - 1 := by omega
        walk_at "vi step"
        refine ⟨?_, rfl⟩
        unfold Tu.nm
        rw [if_neg g2, if_neg g3]
        simp [e]
  · walk_at "vi step"
    refine qx_tup (k := 0) (p := natP N) rfl ?_
    walk_at "vi step"
    refine qx_tup (k := 1) (p := .tuple (E.map edP)) rfl ?_
    walk_at "vi step"
    rw [List.zipIdx_map, List.map_map]
    refine co_filter (e := fun p : (Nat × Nat) × Nat => D.v (.tuple [.int (p.2 : Nat), edP p.1])) (p := fun p => decide (p.2 ≠ i)) (g := fun p => edP (Tu.nm high low p.1.1, Tu.nm high low p.1.2)) (by simp; omega) ?_ ?_
    · rintro ⟨⟨x, y⟩, j⟩ hm
      obtain ⟨k1, k2⟩ := he (x, y) (List.fst_mem_of_mem_zipIdx hm)
      walk_at "vi step"
      refine ⟨fun g => ?_, fun g => ?_⟩
      · have g2 : j ≠ i := by have := g; simp at this; omega
        walk_at "vi step"
        refine qx_lst (k := x) (names_at k1) ?_
        walk_at "vi step"
        refine qx_lst (k := y) (names_at k2) ?_
        walk_at "vi step"
        refine mk_tup (ps := [natP (Tu.nm high low x), natP (Tu.nm high low y)]) rfl (by simp) ?_
        refine ⟨?_, rfl⟩
        rw [if_pos (decide_eq_true g2)]
      · have g2 : ¬ j ≠ i := by have := g; simp at this; omega
        walk_at "vi step"
        rw [if_neg (by simpa using g2)]
        exact ⟨rfl, rfl⟩
    · have e2 : (E.zipIdx.filter fun p => decide (p.2 ≠ i)).map (fun p : (Nat × Nat) × Nat => edP (Tu.nm high low p.1.1, Tu.nm high low p.1.2)) = (Tu.shutE (E.eraseIdx i) low high).map edP := by
        have h := Tu.zip_erase E i 0
        rw [← h]
        unfold Tu.shutE
        rw [List.map_map, List.map_map]
        rfl
      rw [e2]
      walk_at "vi step"
      refine bl_tupL (by rw [List.length_map]; unfold Tu.shutE; rw [List.length_map, List.length_eraseIdx_of_lt hi]; omega) ?_
      walk_at "vi step"
      have e3 : (N : Int) - 1 = ((N - 1 : Nat) : Int) := by omega
      rw [e3]
      refine mk_tup (ps := [natP (N - 1), .tuple ((Tu.shutE (E.eraseIdx i) low high).map edP)]) rfl (by simp) ?_
      walk_at "vi step"
      exact ⟨_, rfl, lv_same (Nat.le_refl _) q⟩
theorem law_told_forest_ok (n : Nat) {st : Sto} {N : Nat} {E : Fo.Ed} {o : List Int} {Q : D → Sto → Prop} (hN0 : 0 < N) (hN : N ≤ 60) (hE : 2 ^ E.length ≤ 4000) (hE2 : E.length ≤ 900) (he : Fo.InF N E) (ho : o.length = N) (hb : st.all (belowO st.length) = true)
    (q1 : Q (rowTD (Tu.tf E.length N E o [])) st) : Ok2 (callF Pr LIM (n + 3) i__law_told_forest [frD N E, zrD o] st) Q := by
  refine run_of p__law_told_forest rfl ?_; simp only [f__law_told_forest, List.map_cons, List.map_nil, List.cons_append, List.nil_append, Nat.reduceSub, List.replicate_succ, List.replicate_zero, List.append_nil]
  walk_at "vi step"
  refine mk_tup (ps := []) rfl (by simp) ?_
  walk_at "vi step"
  refine qx_tup (k := 1) (p := .tuple (E.map edP)) rfl ?_
  walk_at "vi step"
  rw [List.length_map]
  refine rngD_ok (by omega) ?_
  refine fo_inv (e := fun i : Nat => D.v (.int (i : Nat))) (fun l env st' => ∃ (j Nc : Nat) (Ec : Fo.Ed) (oc : List Int) (acc : List Nat) (u3 u4 u5 u6 u7 u8 : Option D), l = (List.range j).reverse ∧ st' = st ∧ env = [some (frD Nc Ec), some (zrD oc), some (rowTD acc), u3, u4, u5, u6, u7, u8] ∧ Ec.length = j ∧ j ≤ E.length ∧ 0 < Nc ∧ Nc ≤ N ∧ Fo.InF Nc Ec ∧ oc.length = Nc ∧ acc.length + j ≤ E.length ∧ Tu.tf j Nc Ec oc acc = Tu.tf E.length N E o []) ?_ ?_ ?_
  · rintro i l env st' ⟨j, Nc, Ec, oc, acc, u3, u4, u5, u6, u7, u8, hl, rfl, rfl, hEc, hj, hNc0, hNc, hec, hoc, hal, htf⟩
    obtain ⟨rfl, rfl⟩ := rev_cons hl
    have hi : i < Ec.length := by omega
    obtain ⟨ha, hbb⟩ := getD_in hec hi
    have hat := ed_at hi
    have hlast := Tu.take_last hEc
    have hsub : Fo.InF Nc (Ec.take i) := fun e hm => hec e (List.mem_of_mem_take hm)
    have hsh := fun Q => law_shut_ok (Q := Q) (st := st') n (N := Nc) (E := Ec) (i := i) (by omega) (by omega) hec hi
    have hty := Tu.tf_yes (m := i) (n := Nc) (E := Ec) (o := oc) (acc := acc)
    have htn := Tu.tf_no (m := i) (n := Nc) (E := Ec) (o := oc) (acc := acc)
    rw [htf] at hty htn
    generalize Ec.getD i (0, 0) = e at ha hbb hat hsh hty htn
    obtain ⟨a, b⟩ := e
    simp only at ha hbb hsh hty htn
    have hpl : (Tu.putZ oc a (-1)).length = Nc := by rw [Tu.putZ_length]; exact hoc
    have htk : (Ec.take i).length = i := by rw [List.length_take]; omega
    have hpw : 2 ^ (Ec.take i).length ≤ 4000 := Nat.le_trans (Nat.pow_le_pow_right (by omega) (by omega)) hE
    walk_at "vi step"
    refine qx_tup (k := 1) (p := .tuple (Ec.map edP)) rfl ?_
    walk_at "vi step"
    refine qx_tup (k := i) (p := edP (a, b)) hat ?_
    walk_at "vi step"
    with_reducible refine law_putZ_ok (n + 1) (by omega) (by omega) ?_
    walk_at "vi step"
    have yes : a = b ∨ Tu.Real Nc (Ec.take i) (Tu.putZ oc a (-1)) → Tu.tf i Nc (Ec.take i) (Tu.putZ oc a (-1)) acc = Tu.tf E.length N E o [] := fun h => (hty h).symm
    refine ⟨fun g => ?_, fun g => ?_⟩
    · have g2 : a = b := by have := of_decide_eq_true g; omega
      walk_at "vi step"
      refine ⟨fun _ => ?_, fun g3 => by rw [g] at g3; cases g3⟩
      walk_at "vi step"
      with_reducible refine law_out_ok (n + 1) (by omega) ?_
      rw [hlast]
      walk_at "vi step"
      exact ⟨rfl, i, Nc, Ec.take i, _, acc, _, _, _, _, _, _, rfl, rfl, rfl, htk, by omega, hNc0, hNc, hsub, hpl, by omega, yes (.inl g2)⟩
    · have g2 : a ≠ b := by have := of_decide_eq_false g; omega
      walk_at "vi step"
      with_reducible refine law_out_ok (n + 1) (by omega) ?_
      rw [hlast]
      walk_at "vi step"
      with_reducible refine law_outs_ok n (by omega) (by omega) hsub hpw hb ?_
      rw [rows_zr]
      refine in_zrs ?_
      walk_at "vi step"
      refine ⟨fun g3 => ?_, fun g3 => ?_⟩
      · have g4 : Tu.Real Nc (Ec.take i) (Tu.putZ oc a (-1)) := (mem_outs hsub).mp (of_decide_eq_true g3)
        walk_at "vi step"
        with_reducible refine law_out_ok (n + 1) (by omega) ?_
        rw [hlast]
        walk_at "vi step"
        exact ⟨rfl, i, Nc, Ec.take i, _, acc, _, _, _, _, _, _, rfl, rfl, rfl, htk, by omega, hNc0, hNc, hsub, hpl, by omega, yes (.inr g4)⟩
      · have g4 : ¬ Tu.Real Nc (Ec.take i) (Tu.putZ oc a (-1)) := fun h => of_decide_eq_false g3 ((mem_outs hsub).mpr h)
        have hlh : min a b < max a b := by omega
        have hhN : max a b < Nc := by omega
        have hfin := htn (fun h => h.elim g2 g4)
        generalize hlo : min a b = low at hlh hfin hsh
        generalize hhi : max a b = high at hlh hhN hfin hsh
        walk_at "vi step"
        refine mk_lst (ps := [a, b].map natP) rfl (by simp) ?_
        refine sort_nats (by simp) ?_
        rw [merge2, hlo, hhi]
        refine ok_tl2 (a := natP low) (b := natP high) ?_
        walk_at "vi step"
        refine qx_tup (k := high) (p := .int (oc.getD high 0)) (zr_at (by omega)) ?_
        walk_at "vi step"
        with_reducible refine law_putZ_ok (n + 1) (by omega) (by omega) ?_
        walk_at "vi step"
        refine sl_hi ?_
        walk_at "vi step"
        refine sl_lo (k := high + 1) ?_
        refine op_addT (by simp [Tu.putZ_length]; omega) ?_
        rw [cutZ]
        walk_at "vi step"
        refine hsh _ ?_
        rw [hlast]
        walk_at "vi step"
        refine mk_tup (ps := [natP i]) rfl (by simp) ?_
        walk_at "vi step"
        refine op_addT (by simp; omega) ?_
        walk_at "vi step"
        refine ⟨rfl, i, Nc - 1, _, _, i :: acc, _, _, _, _, _, _, rfl, rfl, rfl, ?_, by omega, by omega, by omega, Tu.shut_in hlh hhN hsub, ?_, ?_, ?_⟩
        · unfold Tu.shutE; rw [List.length_map]; exact htk
        · have := Tu.shutO_length (o := oc) (low := low) (high := high) (by omega)
          unfold Tu.shutO at this
          rw [this]; omega
        · rw [List.length_cons]; omega
        · exact hfin.symm
  · exact ⟨E.length, N, E, o, [], _, _, _, _, _, _, rfl, rfl, rfl, rfl, Nat.le_refl _, hN0, Nat.le_refl _, he, ho, by simp, rfl⟩
  · rintro env st' ⟨j, Nc, Ec, oc, acc, u3, u4, u5, u6, u7, u8, hl, rfl, rfl, hEc, hj, hNc0, hNc, hec, hoc, hal, htf⟩
    have hj0 : j = 0 := by
      have := congrArg List.length hl
      simp at this
      omega
    subst hj0
    have htf' : acc = Tu.tf E.length N E o [] := htf
    walk_at "vi step"
    rw [htf']
    exact ⟨_, rfl, lv_same (Nat.le_refl _) q1⟩
theorem law_told_ok (n : Nat) {st : Sto} {N : Nat} {E : Fo.Ed} {o : List Int} {Q : D → Sto → Prop} (hN0 : 0 < N) (hN : N ≤ 60) (hE : E.length ≤ 900) (he : Fo.InF N E) (ho : o.length = N) (hnb : Tu.nb o + E.length ≤ 2000) (hb : st.all (belowO st.length) = true)
    (q1 : Tu.Real N E o → Q (rowTD (Tu.tf E.length N E o [])) st) (q2 : ¬ Tu.Real N E o → Q (.v .none) st) : Ok2 (callF Pr LIM (n + 7) i__law_told [frD N E, zrD o] st) Q := by
  refine run_of p__law_told rfl ?_; simp only [f__law_told, List.map_cons, List.map_nil, List.cons_append, List.nil_append, Nat.reduceSub, List.replicate_succ, List.replicate_zero, List.append_nil]
  refine ok_s1 ?_
  refine ok_try ?_
  walk_at "vi step"
  refine told_forestX_ok n hN0 hN hE he ho hnb hb (fun h => ?_) (fun h => ?_)
  · exact ⟨_, rfl, lv_same (Nat.le_refl _) (q1 h)⟩
  · exact ⟨_, rfl, lv_same (Nat.le_refl _) (q2 h)⟩

end K58
set_option Elab.async false
set_option linter.all false
set_option maxRecDepth 100000
set_option maxHeartbeats 400000
namespace K58
open PySem PySem.Spec PyProof.Rows L2 Vi
local macro_rules | `(tactic| walk_at "vi step") => `(tactic| repeat (with_reducible first | refine ok_var (by repeat constructor) ?_ | refine ok_name (by repeat constructor) ?_ | refine ok_comp (by repeat constructor) ?_ | refine ok_s1 ?_ | refine at_nx ?_ | refine at_rt ?_ | refine at_ex ?_ | refine ok_set ?_ | refine ok_par ?_ | refine ok_expr ?_ | refine ok_sret ?_ | refine ok_sretN ?_ | refine ok_site ?_ | refine ok_for ?_ | refine ok_while ?_ | refine ok_pass ?_ | refine ok_raise ?_ | refine ok_s0 ?_ | refine ok_cst ?_ | refine ok_tup ?_ | refine ok_lst ?_ | refine ok_bin ?_ | refine ok_neg ?_ | refine ok_not ?_ | refine ok_and ?_ | refine ok_or ?_ | refine ok_and1 ?_ | refine ok_or1 ?_ | refine ok_and2 ?_ | refine ok_or2 ?_ | refine ok_cmp ?_ | refine ok_chain ?_ | refine ok_isN ?_ | refine ok_ite ?_ | refine ok_idx ?_ | refine ok_slice ?_ | refine ok_o0 ?_ | refine ok_o1 ?_ | refine ok_rev ?_ | refine ok_call ?_ | refine ok_blt ?_ | refine ok_lrng ?_ | refine ok_trng ?_ | refine ok_sorted ?_ | refine ok_isa ?_ | refine ok_mt ?_ | refine ok_turn0 ?_ | refine ok_turn1 ?_ | refine ok_new ?_ | refine ok_ndct ?_ | refine ok_k0 ?_ | refine ok_k1 ?_ | refine ok_es0 ?_ | refine ok_es1 ?_ | refine ok_as0 ?_ | refine ok_as1 ?_ | refine ok_as2 ?_ | refine ok_val ?_ | refine ok_rng ?_ | refine ok_rngD ?_ | refine ok_enumT ?_ | refine ok_zip ?_ | refine ok_tt2 ?_ | refine ok_tt3 ?_ | refine ok_ts0 ?_ | refine ok_ts1 ?_ | refine ok_body ?_ | refine ok_sub ?_ | refine ok_evT ?_ | refine en_tup ?_ | refine en_lst ?_ | refine zi_tup ?_ | refine is_int ?_ | refine sq_tup ?_ | refine sq_lst ?_ | refine ok_gint ?_ | refine ok_ndT ?_ | refine ok_ndK ?_ | refine okt_b ?_ | refine op_add ?_ | refine op_sub ?_ | refine op_and ?_ | refine op_lt2 ?_ | refine op_le2 ?_ | refine op_gt2 ?_ | refine op_ge2 ?_ | refine op_eq2 ?_ | refine op_ne2 ?_ | refine op_eqS ?_ | refine op_neS ?_ | refine bl_intb ?_ | refine bl_inti ?_ | refine bl_lenT ?_ | refine bl_lenL ?_ | refine bl_abs ?_ | refine bl_max ?_ | refine bl_min ?_ | refine it_tup ?_ | refine it_lst ?_))
local macro_rules | `(tactic| walk_at "vi step0") => `(tactic| repeat (with_reducible first | refine ok_var (by repeat constructor) ?_ | refine ok_name (by repeat constructor) ?_ | refine ok_comp (by repeat constructor) ?_ | refine ok_s1 ?_ | refine at_nx ?_ | refine at_rt ?_ | refine at_ex ?_ | refine ok_set ?_ | refine ok_par ?_ | refine ok_expr ?_ | refine ok_sret ?_ | refine ok_sretN ?_ | refine ok_site ?_ | refine ok_for ?_ | refine ok_while ?_ | refine ok_pass ?_ | refine ok_raise ?_ | refine ok_s0 ?_ | refine ok_cst ?_ | refine ok_tup ?_ | refine ok_lst ?_ | refine ok_bin ?_ | refine ok_neg ?_ | refine ok_not ?_ | refine ok_and ?_ | refine ok_or ?_ | refine ok_and1 ?_ | refine ok_or1 ?_ | refine ok_and2 ?_ | refine ok_or2 ?_ | refine ok_cmp ?_ | refine ok_chain ?_ | refine ok_isN ?_ | refine ok_ite ?_ | refine ok_idx ?_ | refine ok_slice ?_ | refine ok_o0 ?_ | refine ok_o1 ?_ | refine ok_rev ?_ | refine ok_call ?_ | refine ok_blt ?_ | refine ok_lrng ?_ | refine ok_trng ?_ | refine ok_sorted ?_ | refine ok_isa ?_ | refine ok_mt ?_ | refine ok_turn0 ?_ | refine ok_turn1 ?_ | refine ok_new ?_ | refine ok_ndct ?_ | refine ok_k0 ?_ | refine ok_k1 ?_ | refine ok_es0 ?_ | refine ok_es1 ?_ | refine ok_as0 ?_ | refine ok_as1 ?_ | refine ok_as2 ?_ | refine ok_val ?_ | refine ok_rng ?_ | refine ok_rngD ?_ | refine ok_enumT ?_ | refine ok_zip ?_ | refine ok_tt2 ?_ | refine ok_tt3 ?_ | refine ok_ts0 ?_ | refine ok_ts1 ?_ | refine ok_body ?_ | refine ok_sub ?_ | refine ok_evT ?_ | refine en_tup ?_ | refine en_lst ?_ | refine zi_tup ?_ | refine is_int ?_ | refine sq_tup ?_ | refine sq_lst ?_ | refine ok_gint ?_ | refine ok_ndT ?_ | refine ok_ndK ?_ | refine okt_b ?_))
/-! the law -/
theorem put_le {r : List Nat} {c k B : Nat} (h : ∀ i ∈ r, i ≤ B) : ∀ i ∈ Fo.put r c k, i ≤ B + k := by
  intro i hi
  obtain ⟨j, hj, rfl⟩ := List.getElem_of_mem hi
  have hj' : j < r.length := by rw [Fo.put_length] at hj; exact hj
  simp only [Fo.put, List.getElem_modify]
  have := h (r[j]'hj') (List.getElem_mem _)
  split <;> omega
theorem step_le {q B : Nat} {l : List (List Nat)} {e : Nat × Nat} (h : ∀ r ∈ l, ∀ i ∈ r, i ≤ B) : ∀ r ∈ Fo.stepR q l e, ∀ i ∈ r, i ≤ B + 2 * q := by
  intro r hr i hi
  unfold Fo.stepR at hr
  rw [Fo.mem_inss, List.mem_flatMap] at hr
  rcases hr with hr | ⟨y, hy, hr⟩
  · simp at hr
  · obtain ⟨k, hk, rfl⟩ := List.mem_map.mp hr
    have := List.mem_range.mp hk
    have := put_le (put_le (h y hy) (c := e.1) (k := q - k)) (c := e.2) (k := k) i hi
    omega
theorem rows_le {q : Nat} : ∀ (E : Fo.Ed) (l : List (List Nat)) (B : Nat), (∀ r ∈ l, ∀ i ∈ r, i ≤ B) → ∀ r ∈ Fo.rows q l E, ∀ i ∈ r, i ≤ B + 2 * q * E.length
  | [], l, B, h => by simpa [Fo.rows] using h
  | e :: E, l, B, h => by
    intro r hr i hi
    have := rows_le E _ (B + 2 * q) (step_le h) r hr i hi
    rw [List.length_cons, Nat.mul_succ]
    omega
theorem rows_sm {N : Nat} {E : Fo.Ed} (he : Fo.InF N E) (hE : E.length ≤ 10) : ∀ r ∈ sortN (Fo.rows 1 [Fo.zer N] E), (∀ i ∈ r, i ≤ 20) ∧ r.length = N := by
  intro r hr
  have hr2 := sortN_mem.mp hr
  refine ⟨fun i hi => ?_, (Fo.rows_enum he).1 r hr2⟩
  have h1 := rows_le E [Fo.zer N] 0 (fun r hr i hi => by
    rw [List.mem_singleton.mp hr] at hi
    rw [(List.mem_replicate.mp hi).2]
    exact Nat.le_refl _) r hr2 i hi
  omega
theorem tf_ne {N : Nat} {E : Fo.Ed} {o : List Int} (hE : E.length ≤ 10) : Ne (rowT (Tu.tf E.length N E o [])) 1 410 := by
  obtain ⟨h1, h2⟩ := Tu.tf_small E.length N E o []
  refine rowT_ne (m := 10) (fun i hi => ?_) (by rw [List.length_nil] at h2; omega)
  rcases h1 i hi with h | h
  · cases h
  · omega
theorem nb_up {r : List Int} {c : Nat} {k : Int} (hc : c < r.length) (hk : 0 ≤ k) : Tu.nb (Tu.putZ r c k) ≤ Tu.nb r := by
  have := Tu.nb_put (k := k) hc
  omega
theorem law_ok (n : Nat) {ns : List Int} (hl : ns.length ≤ 63) : ∃ st', callF Pr LIM (n + 8) i_law [.scr ns] [] = .ok (.v (.bool true), st') := by
  suffices h : Ok2 (callF Pr LIM (n + 8) i_law [.scr ns] []) fun d _ => d = .v (.bool true) by
    obtain ⟨d, st', e, rfl⟩ := h
    exact ⟨st', e⟩
  refine run_of p_law rfl ?_; simp only [f_law, List.map_cons, List.map_nil, List.cons_append, List.nil_append, Nat.reduceSub, List.replicate_succ, List.replicate_zero, List.append_nil]
  walk_at "vi step"
  with_reducible refine source_ok (n + 6) hl fun σ0 h0 => ?_
  walk_at "vi step"
  refine rng_one (n := 4) (by omega) ?_
  refine fo_inv (e := fun i : Nat => D.v (.int (i : Nat))) (fun l env st' => ∃ (σ : Sr) (x2 x3 x4 x5 x6 x7 x8 x9 x10 x11 : Option D), σ.ok ∧ st' = σ.st [] ∧ env = [some (.scr ns), some (.ref 1), x2, x3, x4, x5, x6, x7, x8, x9, x10, x11] ∧ ∀ i ∈ l, i < 4) ?_ ?_ ?_
  · rintro i l env st' ⟨σ, x2, x3, x4, x5, x6, x7, x8, x9, x10, x11, h, rfl, rfl, hi⟩
    obtain ⟨c, m0, hc, hm, hc0, hc1, hm1⟩ : ∃ c m0 : Nat, [PyData.int 2, .int 3, .int 4, .int 5][i]? = some (natP c) ∧ [PyData.int 3, .int 5, .int 6, .int 6][i]? = some (natP m0) ∧ 0 < c ∧ c ≤ 5 ∧ m0 ≤ 6 := by
      have := hi i (by simp)
      rcases (by omega : i = 0 ∨ i = 1 ∨ i = 2 ∨ i = 3) with rfl | rfl | rfl | rfl
      · exact ⟨2, 3, rfl, rfl, by omega, by omega, by omega⟩
      · exact ⟨3, 5, rfl, rfl, by omega, by omega, by omega⟩
      · exact ⟨4, 6, rfl, rfl, by omega, by omega, by omega⟩
      · exact ⟨5, 6, rfl, rfl, by omega, by omega, by omega⟩
    walk_at "vi step"
    refine mk_lst (ps := [PyData.int 2, .int 3, .int 4, .int 5]) rfl (by simp) ?_
    walk_at "vi step"
    refine qx_lst hc ?_
    walk_at "vi step"
    refine mk_lst (ps := [PyData.int 3, .int 5, .int 6, .int 6]) rfl (by simp) ?_
    walk_at "vi step"
    refine qx_lst hm ?_
    walk_at "vi step"
    with_reducible refine frame_ok (n + 4) h hc0 (by omega) (by omega) rfl fun N E σ1 h1 hN0 hN hE he => ?_
    have hbel := sr_bel (σ := σ1) (r := []) rfl
    have hfne : Ne (frP N E) 3 (2 * (10 * 83 + 40 + 1)) := frP_ne (by omega) (fun e hm => by have := he e hm; omega) (by omega)
    have hpw : 2 ^ E.length ≤ 64 := Nat.pow_le_pow_right (by omega) (by omega : E.length ≤ 6)
    have hsum := Fo.forests_sum (q := 1) he
    have hrl := Fo.rows_length 1 E [Fo.zer N]
    rw [List.length_singleton, Nat.mul_one] at hrl
    have hps1 : Fo.psN 1 (Fo.forests N E) = (Fo.forests N E).length := by simp [Fo.psN, List.map_const']
    rw [hps1] at hsum
    have hsm := rows_sm he (by omega)
    have hmem := fun r => mem_outs (r := r) he
    have hRl : (sortN (Fo.rows 1 [Fo.zer N] E)).length ≤ 64 := by rw [sortN_length]; exact Nat.le_trans hrl hpw
    walk_at "vi step"
    refine bl_repr hfne (by omega) (by omega) ?_
    walk_at "vi step"
    with_reducible refine law_outs_ok (n + 5) (by omega) (by omega) he (by omega) hbel ?_
    walk_at "vi step"
    with_reducible refine outs_rows_ok (n + 5) (by omega) (by omega) he (by omega) hbel ?_
    walk_at "vi step"
    refine bl_lisT (by rw [List.length_map]; omega) ?_
    have hne := rowsT_ne (l := sortN (Fo.rows 1 [Fo.zer N] E)) (m := 10) (j := 64) (fun r hr => ⟨fun i hi => by have := (hsm r hr).1 i hi; omega, by have := (hsm r hr).2; omega⟩) hRl
    walk_at "vi step"
    refine op_neSame hne.2 (by omega) (by intro s hs; cases hs) ?_
    walk_at "vi step"
    refine ⟨fun e => by simp at e, fun _ => ?_⟩
    walk_at "vi step"
    with_reducible refine zone_forests_ok (n + 3) (by omega) he (by omega) hbel ?_
    walk_at "vi step"
    rw [List.length_map, List.length_map, sortN_length, sortN_length, hsum]
    refine ⟨fun e => by simp at e, fun _ => ?_⟩
    generalize hR : sortN (Fo.rows 1 [Fo.zer N] E) = R at hne hsm hmem hRl
    have hRne : R ≠ [] := by
      intro h
      have := (hmem _).mpr ⟨List.replicate E.length 0, ⟨by simp, fun t ht => by rw [(List.mem_replicate.mp ht).2]; omega⟩, rfl⟩
      rw [h] at this
      cases this
    walk_at "vi step"
    with_reducible refine mixed_ok (n + 5) (xs := R.map rowT) h1 (list_l (by rw [List.length_map]; omega)) (by rw [List.length_map]; omega) (fun p hp => ?_) rfl fun ps σ2 h2 hps => ?_
    · obtain ⟨r, hr, rfl⟩ := List.mem_map.mp hp
      exact ⟨1, 410, by omega, rowT_ne (m := 10) (fun i hi => by have := (hsm r hr).1 i hi; omega) (by have := (hsm r hr).2; omega)⟩
    walk_at "vi step"
    refine sl_take (k := 6) (by rw [hps.length_eq, List.length_map]; omega) ?_
    walk_at "vi step"
    refine fo_inv (e := D.v) (fun l env st' => ∃ (u6 : Option D), st' = σ2.st [] ∧ env = [some (.scr ns), some (.ref 1), some (natD i), some (frD N E), some (.v (.str (frP N E).shown)), some (.v (.list (R.map rowT))), u6, x7, x8, x9, x10, x11] ∧ ∀ p ∈ l, p ∈ R.map rowT) ?_ ?_ ?_
    · rintro p l env st' ⟨u6, rfl, rfl, hp⟩
      obtain ⟨r, hr, rfl⟩ := List.mem_map.mp (hp p (by simp))
      have hreal : Tu.Real N E (Tu.toZ r) := (hmem _).mp (List.mem_map_of_mem hr)
      have hlen : (Tu.toZ r).length = N := by unfold Tu.toZ; rw [List.length_map]; exact (hsm r hr).2
      have hnb := Tu.nb_toZ r
      have hbel2 := sr_bel (σ := σ2) (r := []) rfl
      rw [rowT_zr]
      walk_at "vi step"
      with_reducible refine law_told_ok n hN0 (by omega) (by omega) he hlen (by omega) hbel2 (fun _ => ?_) (fun h => absurd hreal h)
      walk_at "vi step"
      refine bl_repr (tf_ne (by omega)) (by omega) (by omega) ?_
      walk_at "vi step"
      with_reducible refine law_told_forest_ok (n + 4) hN0 (by omega) (by omega) (by omega) he hlen hbel2 ?_
      walk_at "vi step"
      refine bl_repr (tf_ne (by omega)) (by omega) (by omega) ?_
      walk_at "vi step"
      refine ⟨fun e => by simp at e, fun _ => ?_⟩
      walk_at "vi step"
      exact ⟨rfl, _, rfl, rfl, fun p h => hp p (by simp [h])⟩
    · exact ⟨_, rfl, rfl, fun p h => hps.mem_iff.mp (List.mem_of_mem_take h)⟩
    rintro env st' ⟨u6, rfl, rfl, _⟩
    walk_at "vi step"
    with_reducible refine of_ok (n + 5) (xs := R.map rowT) h2 (by simpa using hRne) (by rw [List.length_map]; omega) fun p σ3 h3 hp => ?_
    obtain ⟨r, hr, rfl⟩ := List.mem_map.mp hp
    have hlen : (Tu.toZ r).length = N := by unfold Tu.toZ; rw [List.length_map]; exact (hsm r hr).2
    have hnb := Tu.nb_toZ r
    rw [rowT_zr]
    walk_at "vi step"
    refine rng_one (n := 4) (by omega) ?_
    refine fo_inv (e := fun i : Nat => D.v (.int (i : Nat))) (fun l env st' => ∃ (σ : Sr) (u8 u9 u10 u11 : Option D), σ.ok ∧ st' = σ.st [] ∧ env = [some (.scr ns), some (.ref 1), some (natD i), some (frD N E), some (.v (.str (frP N E).shown)), some (.v (.list (R.map rowT))), u6, some (zrD (Tu.toZ r)), u8, u9, u10, u11]) ?_ ?_ ?_
    · rintro j l env st' ⟨σ4, u8, u9, u10, u11, h4, rfl, rfl⟩
      walk_at "vi step"
      refine qx_tup (k := 0) (p := natP N) rfl ?_
      walk_at "vi step"
      with_reducible refine pick_ok (n + 6) h4 (by omega) fun cc σ5 h5 hcc => ?_
      walk_at "vi step"
      refine qx_tup (k := 0) (p := natP N) rfl ?_
      walk_at "vi step"
      with_reducible refine pick_ok (n + 6) h5 (by omega) fun dd σ6 h6 hdd => ?_
      walk_at "vi step"
      with_reducible refine pick_lit (n + 6) h6 (z := 2) (m := 2) rfl (by omega) fun xx σ7 h7 hxx => ?_
      walk_at "vi step"
      with_reducible refine law_putZ_ok (n + 6) (by omega) (by omega) ?_
      have hl1 := Tu.putZ_length (Tu.toZ r) cc (1 + (xx : Int))
      have hnb1 := nb_up (r := Tu.toZ r) (c := cc) (k := 1 + (xx : Int)) (by omega) (by omega)
      generalize Tu.putZ (Tu.toZ r) cc (1 + (xx : Int)) = o1 at hl1 hnb1
      walk_at "vi step"
      with_reducible refine law_putZ_ok (n + 6) (by omega) (by omega) ?_
      have hl2 := Tu.putZ_length o1 dd (-1)
      have hnb2 := Tu.nb_less (o := o1) (c := dd) (by omega)
      generalize Tu.putZ o1 dd (-1) = o2 at hl2 hnb2
      have hbel2 := sr_bel (σ := σ7) (r := []) rfl
      walk_at "vi step"
      with_reducible refine law_told_ok n hN0 (by omega) (by omega) he (by omega) (by omega) hbel2 (fun hreal => ?_) (fun hreal => ?_)
      · have hin : o2 ∈ R.map Tu.toZ := (hmem _).mpr hreal
        walk_at "vi step"
        rw [rows_zr]
        refine notin_zrs ?_
        refine op_neB ?_
        walk_at "vi step"
        refine ⟨fun e => by simp [hin, isNone] at e, fun _ => ?_⟩
        walk_at "vi step"
        exact ⟨rfl, σ7, _, _, _, _, h7, rfl, rfl⟩
      · have hin : ¬ o2 ∈ R.map Tu.toZ := fun h => hreal ((hmem _).mp h)
        walk_at "vi step"
        rw [rows_zr]
        refine notin_zrs ?_
        refine op_neB ?_
        walk_at "vi step"
        refine ⟨fun e => by simp [hin, isNone] at e, fun _ => ?_⟩
        walk_at "vi step"
        exact ⟨rfl, σ7, _, _, _, _, h7, rfl, rfl⟩
    · exact ⟨σ3, _, _, _, _, h3, rfl, rfl⟩
    rintro env st' ⟨σ4, u8, u9, u10, u11, h4, rfl, rfl⟩
    walk_at "vi step"
    refine bl_repr hfne (by omega) (by omega) ?_
    walk_at "vi step"
    refine ⟨fun e => by simp at e, fun _ => ?_⟩
    walk_at "vi step"
    exact ⟨rfl, σ4, _, _, _, _, _, _, _, _, _, _, h4, rfl, rfl, fun j hj => hi j (by simp [hj])⟩
  · exact ⟨σ0, _, _, _, _, _, _, _, _, _, _, h0, rfl, rfl, fun i hi => List.mem_range.mp hi⟩
  · rintro env st' ⟨σ, x2, x3, x4, x5, x6, x7, x8, x9, x10, x11, h, rfl, rfl, hi⟩
    walk_at "vi step"
    refine mk_tup (ps := [natP 0, natP 1]) rfl (by simp) ?_
    walk_at "vi step"
    refine mk_tup (ps := [natP 1, natP 2]) rfl (by simp) ?_
    walk_at "vi step"
    refine mk_tup (ps := [natP 2, natP 0]) rfl (by simp) ?_
    walk_at "vi step"
    refine mk_tup (ps := [(0, 1), (1, 2), (2, 0)].map edP) rfl (by simp) ?_
    walk_at "vi step"
    refine mk_tup (ps := [natP 3, .tuple ([(0, 1), (1, 2), (2, 0)].map edP)]) rfl (by simp) ?_
    walk_at "vi step"
    refine mk_tup (ps := [1, 1, 1].map .int) rfl (by simp) ?_
    walk_at "vi step"
    have hre : Tu.Real 3 [(0, 1), (1, 2), (2, 0)] [1, 1, 1] := ⟨[0, 0, 0], ⟨rfl, by decide⟩, by decide⟩
    have htf : Tu.tf 3 3 [(0, 1), (1, 2), (2, 0)] [1, 1, 1] [] = [] := by
      rw [Tu.tf_yes (.inr ⟨[0, 0], ⟨rfl, by decide⟩, by decide⟩), Tu.tf_yes (.inr ⟨[0], ⟨rfl, by decide⟩, by decide⟩), Tu.tf_yes (.inr ⟨[], ⟨rfl, by decide⟩, by decide⟩)]
      rfl
    refine told_forest_ok (n + 1) (N := 3) (E := [(0, 1), (1, 2), (2, 0)]) (o := [1, 1, 1]) (by omega) (by omega) (by simp) (by unfold Fo.InF; decide) rfl (by decide) (sr_bel rfl) hre ?_
    have e3 : [(0, 1), (1, 2), (2, 0)].length = 3 := rfl
    rw [e3, htf]
    walk_at "vi step"
    refine mk_tup (ps := []) rfl (by simp) ?_
    refine op_eqSame (k := 1) (w := 410) (rowT_ne (r := []) (m := 10) (by simp) (by simp)) (by omega) (by intro s hs; cases hs) ?_
    walk_at "vi step"
    exact ⟨_, rfl, lv_cut (st := []) rfl _ rfl rfl⟩
theorem plain (ns : List Int) (hl : ns.length ≤ 63) : ∃ st', callF Pr LIM LV i_law [.scr ns] [] = .ok (.v (.bool true), st') := law_ok 6 hl

end K58
set_option Elab.async false
set_option linter.all false
set_option maxRecDepth 100000
set_option maxHeartbeats 0
open PySem PySem.W PySem.Calls PyProof.Rows K58
theorem PySem.Challenge.cw_hightrees_k58_whole_told_forests_of_outs_holds : PySem.Challenge.rw_hightrees_k58_whole_told_forests_of_outs.Holds := by
  w_on; o_law
  refine HandSHeadRun.head_any (r := OpenLaw.row PySem.Challenge.rw_hightrees_k58_whole_told_forests_of_outs) (q := view (OpenLaw.row PySem.Challenge.rw_hightrees_k58_whole_told_forests_of_outs).prog [42]) (H := K58.hk) (ob := K58.ob) (M := 4000) (loose := K58.loose) (d := HandSHeadRun.topDef (OpenLaw.row PySem.Challenge.rw_hightrees_k58_whole_told_forests_of_outs).prog 42) (kwd := []) K58.ob_eq
    (by kernel_rfl) (fun s => by kernel_rfl) K58.run (by kernel_rfl) (by kernel_rfl) (by kernel_rfl) (by rfl) (by first | assumption | decide +kernel) (by decide +kernel) ⟨rfl, rfl, rfl, rfl, rfl, by decide +kernel⟩ ?hw ?hc
  case hw => w_witness2
  case hc =>
    refine Vi.walk_G (l := PySem.Challenge.rw_hightrees_k58_whole_told_forests_of_outs) (n := 63) (k := K58.LV) (x := "script") rfl (by decide) (by kernel_rfl) ⟨rfl, by decide, by decide⟩ fun w mg fa h Y G hmg0 => ?_
    obtain ⟨K, KX, c⟩ := Y
    have hmg : mg ("law" : PySem.Str) = some (.ref fa) := by
      have e : (HandSHeadRun.topDef (OpenLaw.row PySem.Challenge.rw_hightrees_k58_whole_told_forests_of_outs).prog 42).name = ("law" : PySem.Str) := by kernel_rfl
      rw [← e]
      exact hmg0
    obtain ⟨fd, hb, hF⟩ := K58.facts (P := (PySem.Challenge.rw_hightrees_k58_whole_told_forests_of_outs).prog) (w := w) K58.LIM KX G hmg c
    exact ⟨K, fd, _, KX, hb, fun H a ns hl hO hS => Vi.sp_law hO hS (K58.plain ns hl), hF⟩
