import PyProof.Rows.All
import Wide.All
import OpenK.AllK
import Wide.FinOn
import HandS.ForMost
import HandS.TupAny
import HandS.TupMul
import HandS.Deep
import HandS.Conv
import PyProof.SeqIndex
import HandS.ForExc
import HandS.Flow
import HandS.CallSlots
import HandS.ExcCtx
import HandS.SortInts
import PyProof.WalksMore
import PyProof.WalkInts
import PyProof.AutoSeq1
import HandS.SetFor
import HandS.Strs
import PyProof.SeqRoads
import PyProof.ListIndex
import PyProof.ListIndexNeg
import HandS.Iter
import KE.GoesMore
import KE.GoesEnum
import HandS.SortKw
import KE.GoesEnumKw
import PyProof.ZipIter
import HandS.Comp
import HandS.Dict
import HandS.Defaults
import HandS.WordsExc
import HandS.Ends
import HandS.HeadEnd
import HandS.HeadHook1
import HandS.HeadHook2
import HandS.Set
import KE.KStateDown
import HandS.Head0
import HandS.Head1
import HandS.Head2
import PyProof.TableCode
import PySem.Challenge.RW_copyplaces_k68_whole_copies_counted
set_option Elab.async false
set_option linter.all false
set_option autoImplicit false
set_option maxRecDepth 100000
set_option maxHeartbeats 4000000
/-! MI: a small pure layer: what the program's constructs do to plain data. -/
set_option autoImplicit false
namespace MI

/-- a value: texts by their code points, tuples as trees, a mutable object by its place in the store; frz: a list that is read alone (the script); xtup: a tuple whose methods are called -/
inductive D where
  | non
  | bl (b : Bool)
  | int (i : Int)
  | str (s : List Nat)
  | tup (l : List D)
  | loc (n : Nat)
  | frz (l : List D)
  | xtup (l : List D)
  deriving Inhabited

/-- a mutable object -/
inductive Ob where
  | lst (l : List D)
  | ins (c : Nat) (fs : List (List Nat × D))
  | dic (kvs : List (D × D))
  | set (ks : List D)
  deriving Inhabited

inductive Rs (α : Type) where
  | ok (a : α)
  | exc (c : Nat) (fs : List (List Nat × D))

abbrev Stt := List Ob
abbrev Env := List (Option D)
abbrev R (α : Type) := Stt → Option (Rs α × Stt)
def ret {α : Type} (a : α) : R α := fun st => some (.ok a, st)
def fail {α : Type} : R α := fun _ => none
def bnd {α β : Type} (x : R α) (f : α → R β) : R β := fun st => match x st with
  | some (.ok a, st') => f a st'
  | some (.exc c fs, st') => some (.exc c fs, st')
  | none => none
def new (o : Ob) : R D := fun st => some (.ok (.loc st.length), st ++ [o])

structure Ctx where
  call : Nat → List D → R D
  meth : Nat → List Nat → Option Nat
  flds : Nat → List Nat → Bool
  fuel : Nat
abbrev SE := Ctx → Env → R D

/-- the largest length of a list, a text -/
abbrev lim : Nat := 16777216

/-! ### == of data -/
def b2i (b : Bool) : Int := if b then 1 else 0
mutual
def D.eqv : D → D → Bool
  | .non, .non => true
  | .bl a, .bl b => a == b
  | .bl a, .int j => b2i a == j
  | .int i, .bl b => i == b2i b
  | .int i, .int j => i == j
  | .str s, .str t => s == t
  | .tup l, .tup m => D.eqvL l m
  | .tup l, .xtup m => D.eqvL l m
  | .xtup l, .tup m => D.eqvL l m
  | .xtup l, .xtup m => D.eqvL l m
  | .frz l, .frz m => D.eqvL l m
  | _, _ => false
def D.eqvL : List D → List D → Bool
  | [], [] => true
  | x :: xs, y :: ys => D.eqv x y && D.eqvL xs ys
  | _, _ => false
end
mutual
/-- no mutable object within, nested so deep at most -/
def D.ok : Nat → D → Bool
  | _, .non => true
  | _, .bl _ => true
  | _, .int _ => true
  | _, .str s => s.all (· < 1114112)
  | 0, .tup _ => false
  | n + 1, .tup l => l.length < lim && D.okL n l
  | 0, .xtup _ => false
  | n + 1, .xtup l => l.length < lim && D.okL n l
  | _, .loc _ => false
  | 0, .frz _ => false
  | n + 1, .frz l => l.length < lim && D.okL n l
def D.okL : Nat → List D → Bool
  | _, [] => true
  | n, x :: xs => D.ok n x && D.okL n xs
end
abbrev deep : Nat := 40
/-- a list as it stands, as a value -/
def dat (x : D) (st : Stt) : Option D := match x with
  | .loc a => match st[a]? with
    | some (.lst l) => some (.frz l)
    | _ => none
  | x => some x
def eqD (x y : D) : R Bool := fun st => match dat x st with
  | some a => match dat y st with
    | some b => if D.ok deep a && D.ok deep b then some (.ok (D.eqv a b), st) else none
    | none => none
  | none => none
/-- the items of a list or tuple -/
def seqOf (x : D) : R (List D) := fun st => match x with
  | .tup l => some (.ok l, st)
  | .xtup l => some (.ok l, st)
  | .frz l => some (.ok l, st)
  | .loc a => match st[a]? with
    | some (.lst l) => some (.ok l, st)
    | _ => none
  | _ => none
def isInT (x s : D) : R Bool := fun st => match s with
  | .tup l => if D.ok deep x && D.okL deep l then some (.ok (l.any fun y => D.eqv y x), st) else none
  | .xtup l => if D.ok deep x && D.okL deep l then some (.ok (l.any fun y => D.eqv y x), st) else none
  | .frz l => if D.ok deep x && D.okL deep l then some (.ok (l.any fun y => D.eqv y x), st) else none
  | .loc a => match st[a]? with
    | some (.lst l) => if D.ok deep x && D.okL deep l then some (.ok (l.any fun y => D.eqv y x), st) else none
    | some (.dic kvs) => if D.ok deep x && D.okL deep (kvs.map (·.1)) then some (.ok (kvs.any fun p => D.eqv p.1 x), st) else none
    | _ => none
  | .str t => match x with
    | .str [c] => some (.ok (t.contains c), st)
    | _ => none
  | _ => none

/-! ### operators -/
def big : Int := 18446744073709551616
def opAdd (x y : D) : R D := fun st => match x, y with
  | .int i, .int j => some (.ok (.int (i + j)), st)
  | .str s, .str t => if s.length + t.length < lim then some (.ok (.str (s ++ t)), st) else none
  | .tup l, .tup m => if l.length + m.length < lim then some (.ok (.tup (l ++ m)), st) else none
  | .loc a, .loc b => match st[a]?, st[b]? with
    | some (.lst l), some (.lst m) => if l.length + m.length < lim then new (.lst (l ++ m)) st else none
    | _, _ => none
  | _, _ => none
def opSub (x y : D) : R D := fun st => match x, y with
  | .int i, .int j => some (.ok (.int (i - j)), st)
  | _, _ => none
def opMul (x y : D) : R D := fun st => match x, y with
  | .int i, .int j => if (-big < i ∧ i < big) ∨ (-big < j ∧ j < big) then some (.ok (.int (i * j)), st) else none
  | .tup l, .int j => if j < lim ∧ -lim < j ∧ l.length * j.toNat < 16000000 then some (.ok (.tup (List.replicate j.toNat l).flatten), st) else none
  | .loc a, .int j => match st[a]? with
    | some (.lst l) => if j < lim ∧ -lim < j ∧ l.length * j.toNat < lim then new (.lst (List.replicate j.toNat l).flatten) st else none
    | _ => none
  | _, _ => none
def opMod (x y : D) : R D := fun st => match x, y with
  | .int i, .int j => if 0 < j then some (.ok (.int (i % j)), st) else none
  | _, _ => none
def opDiv (x y : D) : R D := fun st => match x, y with
  | .int i, .int j => if 0 < j ∧ j < 1073741824 then some (.ok (.int (i / j)), st) else none
  | _, _ => none
def opPow (x y : D) : R D := fun st => match x, y with
  | .int i, .int j => if 0 ≤ j ∧ j ≤ 100 ∧ -big < i ∧ i < big then some (.ok (.int (i ^ j.toNat)), st) else none
  | _, _ => none
def opEq (x y : D) : R D := bnd (eqD x y) fun b => ret (.bl b)
def opNe (x y : D) : R D := bnd (eqD x y) fun b => ret (.bl (!b))
def opLt (x y : D) : R D := fun st => match x, y with
  | .int i, .int j => some (.ok (.bl (decide (i < j))), st)
  | _, _ => none
def opLe (x y : D) : R D := fun st => match x, y with
  | .int i, .int j => some (.ok (.bl (decide (i ≤ j))), st)
  | _, _ => none
def opGt (x y : D) : R D := fun st => match x, y with
  | .int i, .int j => some (.ok (.bl (decide (j < i))), st)
  | _, _ => none
def opGe (x y : D) : R D := fun st => match x, y with
  | .int i, .int j => some (.ok (.bl (decide (j ≤ i))), st)
  | _, _ => none
def opIn (x y : D) : R D := bnd (isInT x y) fun b => ret (.bl b)
def opNotIn (x y : D) : R D := bnd (isInT x y) fun b => ret (.bl (!b))
def isNone : D → Bool
  | .non => true
  | _ => false
def isTrue? : D → Option Bool
  | .bl b => some b
  | _ => none

/-! ### expressions -/
def eC (d : D) : SE := fun _ _ => ret d
def eVar (i : Nat) : SE := fun _ env st => match env[i]? with
  | some (some d) => some (.ok d, st)
  | _ => none
def eBin (f : D → D → R D) (a b : SE) : SE := fun c env => bnd (a c env) fun x => bnd (b c env) fun y => f x y
def eUn (f : D → R D) (a : SE) : SE := fun c env => bnd (a c env) f
def opNeg (x : D) : R D := fun st => match x with
  | .int i => some (.ok (.int (-i)), st)
  | _ => none
def opIsN (x : D) : R D := ret (.bl (isNone x))
def opNotN (x : D) : R D := ret (.bl (!isNone x))
abbrev SL := Ctx → Env → R (List D)
def lNil : SL := fun _ _ => ret []
def lCons (a : SE) (l : SL) : SL := fun c env => bnd (a c env) fun x => bnd (l c env) fun xs => ret (x :: xs)
def eTup (l : SL) : SE := fun c env => bnd (l c env) fun xs => if xs.length < lim then ret (.tup xs) else fail
def eLst (l : SL) : SE := fun c env => bnd (l c env) fun xs => if xs.length < lim then new (.lst xs) else fail
/-- a list that nobody changes: a value -/
def eLstF (l : SL) : SE := fun c env => bnd (l c env) fun xs => if xs.length < lim then ret (.frz xs) else fail
/-- a test -/
abbrev ST := Ctx → Env → R Bool
def cB (a : SE) : ST := fun c env => bnd (a c env) fun x => match x with
  | .bl b => ret b
  | _ => fail
def cNot (a : ST) : ST := fun c env => bnd (a c env) fun b => ret (!b)
def cAnd (a b : ST) : ST := fun c env => bnd (a c env) fun x => if x then b c env else ret false
def cOr (a b : ST) : ST := fun c env => bnd (a c env) fun x => if x then ret true else b c env
/-- and, or of bools as values; the last may be any value -/
def eAnd (a b : SE) : SE := fun c env => bnd (a c env) fun x => match x with
  | .bl true => b c env
  | .bl false => ret (.bl false)
  | _ => fail
def eOr (a b : SE) : SE := fun c env => bnd (a c env) fun x => match x with
  | .bl true => ret (.bl true)
  | .bl false => b c env
  | _ => fail
def eNot (a : SE) : SE := fun c env => bnd (a c env) fun x => match x with
  | .bl b => ret (.bl (!b))
  | _ => fail
def eNotT (t : ST) : SE := fun c env => bnd (t c env) fun b => ret (.bl (!b))
def eIf (t : ST) (a b : SE) : SE := fun c env => bnd (t c env) fun x => if x then a c env else b c env
/-- a op b op' c -/
def eChain (f g : D → D → R D) (a b d : SE) : SE := fun c env => bnd (a c env) fun x => bnd (b c env) fun y => bnd (f x y) fun r => match r with
  | .bl true => bnd (d c env) fun z => g y z
  | .bl false => ret (.bl false)
  | _ => fail

/-! ### subscripts -/
/-- the place of index i in n -/
def ixN (n : Nat) (i : Int) : Option Nat := if 0 ≤ i then (if i < n then some i.toNat else none) else if -(n : Int) ≤ i then some (i + n).toNat else none
def opIx (x y : D) : R D := fun st => match y with
  | .int i => match x with
    | .tup l => match (ixN l.length i).bind fun k => l[k]? with
      | some d => some (.ok d, st)
      | none => none
    | .xtup l => match (ixN l.length i).bind fun k => l[k]? with
      | some d => some (.ok d, st)
      | none => none
    | .str s => match (ixN s.length i).bind fun k => s[k]? with
      | some d => if s.length < lim then some (.ok (.str [d]), st) else none
      | none => none
    | .loc a => match st[a]? with
      | some (.lst l) => match (ixN l.length i).bind fun k => l[k]? with
        | some d => some (.ok d, st)
        | none => none
      | _ => none
    | .frz l => match (ixN l.length i).bind fun k => l[k]? with
      | some d => some (.ok d, st)
      | none => none
    | _ => none
  | _ => none
/-- a slice's bound -/
def clampI (n : Nat) (i : Int) : Nat := if i < 0 then (i + n).toNat else min i.toNat n
def cut {α : Type} (l : List α) (lo hi : Option Int) : List α :=
  let a := (lo.map (clampI l.length)).getD 0
  let b := (hi.map (clampI l.length)).getD l.length
  (l.take b).drop a
def everyOther {α : Type} : List α → List α
  | [] => []
  | [x] => [x]
  | x :: _ :: r => x :: everyOther r
abbrev SO := Ctx → Env → R (Option Int)
def oNone : SO := fun _ _ => ret none
def oSome (a : SE) : SO := fun c env => bnd (a c env) fun x => match x with
  | .int i => if -lim < i ∧ i < lim then ret (some i) else fail
  | _ => fail
def opSlc (x : D) (lo hi : Option Int) : R D := fun st => match x with
  | .tup l => some (.ok (.tup (cut l lo hi)), st)
  | .str s => if s.length < lim then some (.ok (.str (cut s lo hi)), st) else none
  | .loc a => match st[a]? with
    | some (.lst l) => some (.ok (.frz (cut l lo hi)), st)
    | _ => none
  | .frz l => some (.ok (.frz (cut l lo hi)), st)
  | _ => none
def eSlc (a : SE) (lo hi : SO) : SE := fun c env => bnd (a c env) fun x => bnd (lo c env) fun l => bnd (hi c env) fun h => opSlc x l h
/-- t[a:b:2] of a tuple, a and b written -/
def eSlc2 (a : SE) (lo hi : Option Int) : SE := fun c env => bnd (a c env) fun x => match x with
  | .tup l => ret (.tup (everyOther (cut l lo hi)))
  | _ => fail

/-! ### objects -/
def getD (fs : List (List Nat × D)) (f : List Nat) : Option D := (fs.find? fun p => p.1 == f).map (·.2)
def putD (fs : List (List Nat × D)) (f : List Nat) (d : D) : List (List Nat × D) := match fs with
  | [] => [(f, d)]
  | p :: r => if p.1 = f then (p.1, d) :: r else p :: putD r f d
def opFld (f : List Nat) (x : D) : R D := fun st => match x with
  | .loc a => match st[a]? with
    | some (.ins _ fs) => match getD fs f with
      | some d => some (.ok d, st)
      | none => none
    | _ => none
  | _ => none
def eFld (a : SE) (f : List Nat) : SE := fun c env => bnd (a c env) (opFld f)
/-- a call of a def by its number -/
def eCall (f : Nat) (l : SL) : SE := fun c env => bnd (l c env) fun xs => c.call f xs
/-- o.m(..): the class's own method -/
def opRes (c : Ctx) (m : List Nat) (x : D) : R Nat := fun st => match x with
  | .loc n => match st[n]? with
    | some (.ins k fs) => match c.meth k m, getD fs m with
      | some f, none => some (.ok f, st)
      | _, _ => none
    | _ => none
  | _ => none
def eMeth (a : SE) (m : List Nat) (l : SL) : SE := fun c env => bnd (a c env) fun x => bnd (opRes c m x) fun f => bnd (l c env) fun xs => c.call f (x :: xs)
def mkEnd (o r : D) : R D := match r with
  | .non => ret o
  | _ => fail
/-- C(..): a new instance, then its __init__ -/
def eMake (k f : Nat) (l : SL) : SE := fun c env => bnd (l c env) fun xs => bnd (new (.ins k [])) fun o => bnd (c.call f (o :: xs)) (mkEnd o)

/-! ### built-in functions -/
def bLen (x : D) : R D := fun st => match x with
  | .tup l => some (.ok (.int l.length), st)
  | .xtup l => some (.ok (.int l.length), st)
  | .str s => if s.length < lim then some (.ok (.int s.length), st) else none
  | .loc a => match st[a]? with
    | some (.lst l) => some (.ok (.int l.length), st)
    | some (.dic l) => some (.ok (.int l.length), st)
    | _ => none
  | .frz l => some (.ok (.int l.length), st)
  | _ => none
def bInt (x : D) : R D := fun st => match x with
  | .int i => some (.ok (.int i), st)
  | .bl b => some (.ok (.int (b2i b)), st)
  | _ => none
def bAbs (x : D) : R D := fun st => match x with
  | .int i => some (.ok (.int (if i < 0 then -i else i)), st)
  | _ => none
def bTuple (x : D) : R D := bnd (seqOf x) fun l => ret (.tup l)
/-- tuple(x) of a list, a tuple whose methods are called -/
def bTupleX (x : D) : R D := fun st => match x with
  | .loc a => match st[a]? with
    | some (.lst l) => some (.ok (.xtup l), st)
    | _ => none
  | .frz l => some (.ok (.xtup l), st)
  | _ => none
def bListF (x : D) : R D := bnd (seqOf x) fun l => if l.length < lim then ret (.frz l) else fail
def bList (x : D) : R D := bnd (seqOf x) fun l => if l.length < lim then new (.lst l) else fail
def bMax2 (x y : D) : R D := fun st => match x, y with
  | .int i, .int j => some (.ok (.int (if j > i then j else i)), st)
  | _, _ => none
def bMin2 (x y : D) : R D := fun st => match x, y with
  | .int i, .int j => some (.ok (.int (if j < i then j else i)), st)
  | _, _ => none
def ints? : List D → Option (List Int)
  | [] => some []
  | .int i :: r => (ints? r).map (i :: ·)
  | _ => none
def bools? : List D → Option (List Bool)
  | [] => some []
  | .bl i :: r => (bools? r).map (i :: ·)
  | _ => none
def leastI : Int → List Int → Int
  | m, [] => m
  | m, x :: r => leastI (if x < m then x else m) r
def greatI : Int → List Int → Int
  | m, [] => m
  | m, x :: r => greatI (if m < x then x else m) r
def bMin (x : D) : R D := bnd (seqOf x) fun l => match ints? l with
  | some (i :: r) => ret (.int (leastI i r))
  | _ => fail
def bMax (x : D) : R D := bnd (seqOf x) fun l => match ints? l with
  | some (i :: r) => ret (.int (greatI i r))
  | _ => fail
def lstOf (x : D) : R (List D) := fun st => match x with
  | .loc a => match st[a]? with
    | some (.lst l) => some (.ok l, st)
    | _ => none
  | .frz l => some (.ok l, st)
  | _ => none
def bSum (x : D) : R D := bnd (lstOf x) fun l => match ints? l with
  | some r => ret (.int r.sum)
  | _ => fail
def bAll (x : D) : R D := bnd (lstOf x) fun l => match bools? l with
  | some r => ret (.bl (r.all id))
  | _ => fail
def bAny (x : D) : R D := bnd (lstOf x) fun l => match bools? l with
  | some r => ret (.bl (r.any id))
  | _ => fail
def insI (x : Int) : List Int → List Int
  | [] => [x]
  | y :: r => if x ≤ y then x :: y :: r else y :: insI x r
def sortI : List Int → List Int
  | [] => []
  | x :: r => insI x (sortI r)
/-- sorted of ints -/
def bSorted (x : D) : R D := bnd (seqOf x) fun l => match ints? l with
  | some r => if r.length < lim then new (.lst ((sortI r).map D.int)) else fail
  | none => fail
def bSortedF (x : D) : R D := bnd (seqOf x) fun l => match ints? l with
  | some r => if r.length < lim then ret (.frz ((sortI r).map D.int)) else fail
  | none => fail
/-- set of ints; sorted of it -/
def bSet (x : D) : R D := bnd (seqOf x) fun l => match ints? l with
  | some r => if r.length < 64 then new (.set (r.map D.int)) else fail
  | none => fail
def rangeL (lo hi : Int) : List D := (List.range (hi - lo).toNat).map fun (k : Nat) => D.int (lo + k)

/-! ### methods of built-in types -/
def mIndex (x y : D) : R D := fun st => match x with
  | .xtup l => if D.ok deep y && D.okL deep l then (match l.findIdx? fun z => D.eqv z y with
    | some k => some (.ok (.int k), st)
    | none => none) else none
  | .loc a => match st[a]? with
    | some (.lst l) => if D.ok deep y && D.okL deep l then (match l.findIdx? fun z => D.eqv z y with
      | some k => some (.ok (.int k), st)
      | none => none) else none
    | _ => none
  | _ => none
def mCount (x y : D) : R D := fun st => match x with
  | .loc a => match st[a]? with
    | some (.lst l) => match ints? l, y with
      | some r, .int i => some (.ok (.int (r.count i)), st)
      | _, _ => none
    | _ => none
  | _ => none
def mAppend (x y : D) : R D := fun st => match x with
  | .loc a => match st[a]? with
    | some (.lst l) => if l.length < lim - 1 then some (.ok .non, st.set a (.lst (l ++ [y]))) else none
    | _ => none
  | _ => none
/-- the items of a list -/
def lstD (x : D) (st : Stt) : Option (List D) := match x with
  | .loc b => match st[b]? with
    | some (.lst m) => some m
    | _ => none
  | .frz m => some m
  | _ => none
def mExtend (x y : D) : R D := fun st => match x with
  | .loc a => match st[a]? with
    | some (.lst l) => match lstD y st with
      | some m => if l.length + m.length < lim then some (.ok .non, st.set a (.lst (l ++ m))) else none
      | none => none
    | _ => none
  | _ => none
def mPop (x : D) : R D := fun st => match x with
  | .loc a => match st[a]? with
    | some (.lst l) => match l.getLast? with
      | some d => some (.ok d, st.set a (.lst l.dropLast))
      | none => none
    | _ => none
  | _ => none

/-! ### what a for walks -/
/-- items that are fixed; the items of a list as they stand at each turn -/
inductive Src where
  | items (l : List D)
  | live (n : Nat)
  | liveE (n : Nat)
abbrev SI := Ctx → Env → R Src
def iSeq (a : SE) : SI := fun c env => bnd (a c env) fun x => fun st => match x with
  | .tup l => some (.ok (.items l), st)
  | .xtup l => some (.ok (.items l), st)
  | .loc n => match st[n]? with
    | some (.lst _) => some (.ok (.live n), st)
    | _ => none
  | .frz l => some (.ok (.items l), st)
  | _ => none
def iRange1 (a : SE) : SI := fun c env => bnd (a c env) fun x => match x with
  | .int n => if -lim < n ∧ n < lim then ret (.items (rangeL 0 n)) else fail
  | _ => fail
def iRange2 (a b : SE) : SI := fun c env => bnd (a c env) fun x => bnd (b c env) fun y => match x, y with
  | .int m, .int n => if -lim < m ∧ m < lim ∧ -lim < n ∧ n < lim then ret (.items (rangeL m n)) else fail
  | _, _ => fail
/-- range(0, n, 2) -/
def iRange3 (a : SE) : SI := fun c env => bnd (a c env) fun x => match x with
  | .int n => if -lim < n ∧ n < lim then ret (.items (everyOther (rangeL 0 n))) else fail
  | _ => fail
def enumD : Nat → List D → List D
  | _, [] => []
  | k, x :: r => .tup [.int k, x] :: enumD (k + 1) r
def iEnum (a : SE) : SI := fun c env => bnd (a c env) fun x => fun st => match x with
  | .tup l => if l.length < lim then some (.ok (.items (enumD 0 l)), st) else none
  | .frz l => if l.length < lim then some (.ok (.items (enumD 0 l)), st) else none
  | .loc n => match st[n]? with
    | some (.lst _) => some (.ok (.liveE n), st)
    | _ => none
  | _ => none
def zipD : List D → List D → List D
  | x :: r, y :: s => .tup [x, y] :: zipD r s
  | _, _ => []
/-- zip(.., strict=True) of two tuples of one length -/
def iZip (a b : SE) : SI := fun c env => bnd (a c env) fun x => bnd (b c env) fun y => match x, y with
  | .tup l, .tup m => if l.length = m.length then ret (.items (zipD l m)) else fail
  | _, _ => fail

/-- list(range(..)), tuple(range(..)) -/
def eListOf (it : SI) : SE := fun c env => bnd (it c env) fun s => match s with
  | .items l => if l.length < lim then new (.lst l) else fail
  | _ => fail
def eListOfF (it : SI) : SE := fun c env => bnd (it c env) fun s => match s with
  | .items l => if l.length < lim then ret (.frz l) else fail
  | _ => fail
def eTupleOf (it : SI) : SE := fun c env => bnd (it c env) fun s => match s with
  | .items l => if l.length < lim then ret (.tup l) else fail
  | _ => fail
/-- {'a': 1, ..}.get(x, y) -/
def lookI (kvs : List (List Nat × Int)) (s : List Nat) : Option Int := (kvs.find? fun p => p.1 == s).map (·.2)
def eDGet (kvs : List (List Nat × Int)) (a b : SE) : SE := fun c env => bnd (a c env) fun x => bnd (b c env) fun y => match x with
  | .str s => ret (match lookI kvs s with
    | some i => .int i
    | none => y)
  | _ => fail
/-- {'a': 1, ..}[x] -/
def eDIx (kvs : List (List Nat × Int)) (a : SE) : SE := fun c env => bnd (a c env) fun x => match x with
  | .str s => match lookI kvs s with
    | some i => ret (.int i)
    | none => fail
  | _ => fail
/-- a method of a built-in type: what the receiver must be is asked ahead of the arguments -/
def isLst (x : D) : R Unit := fun st => match x with
  | .loc a => match st[a]? with
    | some (.lst _) => some (.ok (), st)
    | _ => none
  | _ => none
def isIxd (x : D) : R Unit := fun st => match x with
  | .loc a => match st[a]? with
    | some (.lst _) => some (.ok (), st)
    | _ => none
  | .xtup _ => some (.ok (), st)
  | _ => none
def eMt0 (k : D → R Unit) (f : D → R D) (a : SE) : SE := fun c env => bnd (a c env) fun x => bnd (k x) fun _ => f x
def eMt1 (k : D → R Unit) (f : D → D → R D) (a b : SE) : SE := fun c env => bnd (a c env) fun x => bnd (k x) fun _ => bnd (b c env) fun y => f x y

/-! ### statements -/
inductive Fl where
  | nx
  | rt (d : D)
  | bk
  | ct
  | ex (c : Nat) (fs : List (List Nat × D))
abbrev SS := Ctx → Env → Stt → Option (Fl × Env × Stt)
/-- an expression, then .. -/
def sBnd {α : Type} (x : R α) (env : Env) (f : α → Stt → Option (Fl × Env × Stt)) : Stt → Option (Fl × Env × Stt) := fun st => match x st with
  | some (.ok a, st') => f a st'
  | some (.exc c fs, st') => some (.ex c fs, env, st')
  | none => none
def sPass : SS := fun _ env st => some (.nx, env, st)
def sSeq (a b : SS) : SS := fun c env st => match a c env st with
  | some (.nx, env', st') => b c env' st'
  | r => r
def sExpr (e : SE) : SS := fun c env => sBnd (e c env) env fun _ st => some (.nx, env, st)
def sRet (e : SE) : SS := fun c env => sBnd (e c env) env fun d st => some (.rt d, env, st)
def sRetN : SS := fun _ env st => some (.rt .non, env, st)
def sIf (t : ST) (a b : SS) : SS := fun c env => sBnd (t c env) env fun x st => if x then a c env st else b c env st
def sBrk : SS := fun _ env st => some (.bk, env, st)
def sCont : SS := fun _ env st => some (.ct, env, st)

/-! ### targets -/
/-- a target: names by place, tuples of targets; a[i]; o.f -/
abbrev SG := Ctx → D → Env → Stt → Option (Env × Stt)
def gVar (i : Nat) : SG := fun _ d env st => if i < env.length then some (env.set i (some d), st) else none
abbrev SGs := Ctx → List D → Env → Stt → Option (Env × Stt)
def gNil : SGs := fun _ l env st => match l with
  | [] => some (env, st)
  | _ => none
def gCons (g : SG) (r : SGs) : SGs := fun c l env st => match l with
  | x :: xs => match g c x env st with
    | some (env', st') => r c xs env' st'
    | none => none
  | [] => none
def gTup (n : Nat) (g : SGs) : SG := fun c d env st => match d with
  | .tup l => if l.length = n then g c l env st else none
  | _ => none
/-- an expression in a target; nothing is raised in it -/
def gBnd {α : Type} (x : R α) (f : α → Stt → Option (Env × Stt)) : Stt → Option (Env × Stt) := fun st => match x st with
  | some (.ok a, st') => f a st'
  | _ => none
def setIx (n : Nat) (k : Int) (d : D) (st : Stt) : Option Stt := match st[n]? with
  | some (.lst l) => match ixN l.length k with
    | some j => some (st.set n (.lst (l.set j d)))
    | none => none
  | _ => none
def putIx (env : Env) (x y d : D) (st : Stt) : Option (Env × Stt) := match x, y with
  | .loc n, .int k => match setIx n k d st with
    | some st' => some (env, st')
    | none => none
  | _, _ => none
def gSub (a i : SE) : SG := fun c d env => gBnd (a c env) fun x => gBnd (i c env) fun y st => putIx env x y d st
def sAsg (g : SG) (e : SE) : SS := fun c env => sBnd (e c env) env fun d st => match g c d env st with
  | some (env', st') => some (.nx, env', st')
  | none => none
def sSet (i : Nat) (e : SE) : SS := fun c env => sBnd (e c env) env fun d st => if i < env.length then some (.nx, env.set i (some d), st) else none
/-- x, y = a, b: two names, no tuple -/
def sPar (i j : Nat) (l : SL) : SS := fun c env => sBnd (l c env) env fun ds st => match ds with
  | [x, y] => if i < env.length ∧ j < env.length then some (.nx, (env.set i (some x)).set j (some y), st) else none
  | _ => none
/-- o.f = e -/
def setFld (c : Ctx) (n : Nat) (f : List Nat) (d : D) (st : Stt) : Option Stt := match st[n]? with
  | some (.ins k fs) => if fs.length < 999 ∧ c.flds k f = true then some (st.set n (.ins k (putD fs f d))) else none
  | _ => none
def endFld (c : Ctx) (env : Env) (f : List Nat) (x d : D) (st : Stt) : Option (Fl × Env × Stt) := match x with
  | .loc n => match setFld c n f d st with
    | some st' => some (.nx, env, st')
    | none => none
  | _ => none
def sFld (o : SE) (f : List Nat) (e : SE) : SS := fun c env => sBnd (e c env) env fun d => sBnd (o c env) env fun x st => endFld c env f x d st
/-- x op= e -/
def sAug (i : Nat) (f : D → D → R D) (e : SE) : SS := fun c env st => match env[i]? with
  | some (some x) => sBnd (e c env) env (fun y => sBnd (f x y) env fun d st => some (.nx, env.set i (some d), st)) st
  | _ => none
/-- o.f op= e -/
def opFldK (f : List Nat) (x : D) : R (Nat × D) := fun st => match x with
  | .loc a => match st[a]? with
    | some (.ins k fs) => match getD fs f with
      | some d => some (.ok (k, d), st)
      | none => none
    | _ => none
  | _ => none
def isCls (k : Nat) (x : D) (st : Stt) : Bool := match x with
  | .loc a => match st[a]? with
    | some (.ins k' _) => k' == k
    | _ => false
  | _ => false
def endFldK (c : Ctx) (env : Env) (f : List Nat) (k : Nat) (x d : D) (st : Stt) : Option (Fl × Env × Stt) := if isCls k x st = true then endFld c env f x d st else none
def sFldAug (o : SE) (f : List Nat) (g : D → D → R D) (e : SE) : SS := fun c env => sBnd (o c env) env fun x => sBnd (opFldK f x) env fun v => sBnd (e c env) env fun y => sBnd (g v.2 y) env fun z st => endFldK c env f v.1 x z st
/-- a[i] op= e -/
def endIx (env : Env) (x y d : D) (st : Stt) : Option (Fl × Env × Stt) := match x, y with
  | .loc n, .int k => match setIx n k d st with
    | some st' => some (.nx, env, st')
    | none => none
  | _, _ => none
def opIxL (x y : D) : R D := match x with
  | .loc _ => opIx x y
  | _ => fail
def sSubAug (a i : SE) (g : D → D → R D) (e : SE) : SS := fun c env => sBnd (a c env) env fun x => sBnd (i c env) env fun y => sBnd (opIxL x y) env fun v => sBnd (e c env) env fun z => sBnd (g v z) env fun u st => endIx env x y u st
/-- the operators of op= -/
def opIAdd (x y : D) : R D := fun st => match x, y with
  | .int i, .int j => some (.ok (.int (i + j)), st)
  | .str s, .str t => if s.length + t.length < lim then some (.ok (.str (s ++ t)), st) else none
  | .tup l, .tup m => if l.length + m.length < lim then some (.ok (.tup (l ++ m)), st) else none
  | _, _ => none

/-! ### loops -/
/-- one more turn? the item -/
def srcAt (s : Src) (i : Nat) (st : Stt) : Option (Option D) := match s with
  | .items l => some l[i]?
  | .live n => match st[n]? with
    | some (.lst l) => some l[i]?
    | _ => none
  | .liveE n => match st[n]? with
    | some (.lst l) => some (l[i]?.map fun x => .tup [.int i, x])
    | _ => none
def forL (s : Src) (turn : D → Env → Stt → Option (Fl × Env × Stt)) : Nat → Nat → Env → Stt → Option (Fl × Env × Stt)
  | 0, _, _, _ => none
  | m + 1, i, env, st => match srcAt s i st with
    | none => none
    | some none => some (.nx, env, st)
    | some (some d) => match turn d env st with
      | some (.nx, env', st') => forL s turn m (i + 1) env' st'
      | some (.ct, env', st') => forL s turn m (i + 1) env' st'
      | some (.bk, env', st') => some (.nx, env', st')
      | r => r
def turnOf (g : SG) (b : SS) (c : Ctx) : D → Env → Stt → Option (Fl × Env × Stt) := fun d env st => match g c d env st with
  | some (env', st') => b c env' st'
  | none => none
def sFor (g : SG) (it : SI) (b : SS) : SS := fun c env => sBnd (it c env) env fun s st => forL s (turnOf g b c) c.fuel 0 env st
def whileL (t : Env → R Bool) (turn : Env → Stt → Option (Fl × Env × Stt)) : Nat → Env → Stt → Option (Fl × Env × Stt)
  | 0, _, _ => none
  | m + 1, env, st => match t env st with
    | none => none
    | some (.exc k fs, st') => some (.ex k fs, env, st')
    | some (.ok false, st') => some (.nx, env, st')
    | some (.ok true, st') => match turn env st' with
      | some (.nx, env', st'') => whileL t turn m env' st''
      | some (.ct, env', st'') => whileL t turn m env' st''
      | some (.bk, env', st'') => some (.nx, env', st'')
      | r => r
def sWhile (t : ST) (b : SS) : SS := fun c env st => whileL (t c) (b c) c.fuel env st
/-- a comprehension's own names are forgotten ahead of it -/
def wipeE (env : Env) : List Nat → Env
  | [] => env
  | v :: vs => (wipeE env vs).set v none
/-- the items of a comprehension, from the i-th turn; nothing is raised in it -/
def compL (s : Src) (turn : D → R (Option D)) : Nat → Nat → List D → R (List D)
  | 0, _, _ => fail
  | m + 1, i, acc => fun st => match srcAt s i st with
    | none => none
    | some none => some (.ok acc, st)
    | some (some d) => match turn d st with
      | some (.ok (some x), st') => if acc.length < lim - 1 then compL s turn m (i + 1) (acc ++ [x]) st' else none
      | some (.ok none, st') => compL s turn m (i + 1) acc st'
      | _ => none
def compT (g : SG) (t : ST) (e : SE) (c : Ctx) (env : Env) (d : D) : R (Option D) := fun st => match g c d env st with
  | some (env', st') => (bnd (t c env') fun b => if b then bnd (e c env') fun x => ret (some x) else ret none) st'
  | _ => none
def cYes : ST := fun _ _ => ret true
def eComp (own : List Nat) (g : SG) (it : SI) (t : ST) (e : SE) : SE := fun c env => bnd (it c env) fun s => bnd (compL s (compT g t e c (wipeE env own)) c.fuel 0 []) fun l => new (.lst l)
def eCompF (own : List Nat) (g : SG) (it : SI) (t : ST) (e : SE) : SE := fun c env => bnd (it c env) fun s => bnd (compL s (compT g t e c (wipeE env own)) c.fuel 0 []) fun l => ret (.frz l)

/-! ### defs -/
structure Fn where
  pars : Nat
  slots : Nat
  body : SS
def Fn.run (f : Fn) (c : Ctx) (args : List D) : R D := fun st => if args.length = f.pars then match f.body c (args.map some ++ List.replicate (f.slots - f.pars) none) st with
  | some (.rt d, _, st') => some (.ok d, st')
  | some (.nx, _, st') => some (.ok .non, st')
  | some (.ex k fs, _, st') => some (.exc k fs, st')
  | _ => none
  else none
/-! ### calls that touch no store -/
mutual
/-- no mutable object within -/
def D.lf : D → Bool
  | .tup l => D.lfL l
  | .xtup l => D.lfL l
  | .frz l => D.lfL l
  | .loc _ => false
  | _ => true
def D.lfL : List D → Bool
  | [] => true
  | x :: xs => D.lf x && D.lfL xs
end
/-- a call whose arguments hold no mutable object, nor does what comes of it: it does as in an empty store -/
def optC (g : List D → R D) : List D → R D := fun ds st => if D.lfL ds = true then match g ds [] with
  | some (.ok d, st0) => match d with
    | .loc n => match st0[n]? with
      | some (.lst l) => if D.lfL l = true then some (.ok (.frz l), st) else none
      | _ => none
    | d => if D.lf d = true then some (.ok d, st) else none
  | some (.exc k fs, _) => if D.lfL (fs.map (·.2)) = true then some (.exc k fs, st) else none
  | none => none
  else g ds st
structure Prog where
  fns : List Fn
  meths : List (Nat × List Nat × Nat)
  flds : List (Nat × List Nat)
  pures : List Nat
def Prog.meth (p : Prog) (k : Nat) (m : List Nat) : Option Nat := (p.meths.find? fun q => q.1 == k && q.2.1 == m).map (·.2.2)
def Prog.fld (p : Prog) (k : Nat) (f : List Nat) : Bool := p.flds.any fun q => q.1 == k && q.2 == f
/-- so many calls within one another -/
def Prog.call (p : Prog) (fuel : Nat) : Nat → Nat → List D → R D
  | 0, _ => fun _ => fail
  | n + 1, f => match p.fns[f]? with
    | some fn => if p.pures.contains f = true then optC (fn.run ⟨p.call fuel n, p.meth, p.fld, fuel⟩) else fn.run ⟨p.call fuel n, p.meth, p.fld, fuel⟩
    | none => fun _ => fail
end MI

set_option Elab.async false
set_option linter.all false
set_option maxRecDepth 100000
set_option maxHeartbeats 4000000
/-! MSR1: rules of our own at the library's level: tuple * int for any int, in and index of a tuple of data. -/
namespace MS
open PySem PySem.Spec PyProof.Rows L2

theorem tuple_mulSame (l : Addr) (items : Array Value) (n : Nat) (dd : Option Addr) (sl : Array (Option Value)) (x : Int) (u : Tok) (c0 : (decide (x < -(2 ^ 63)) || decide (x ≥ 2 ^ 63)) = false) (c1 : (items.isEmpty || x == 1) = true) :
    Meets (Builtin.«tuple.__mul__» ⟨[.ref l, .int x u], []⟩) (fun _ R s => s.heap.get? l = some { cls := .type "tuple", dict := dd, data := .seq items n, slots := sl } ∧
      R (.ok (.ret (Value.ref l))) s) :=
  .of_wp fun prog w A R s h => by
    obtain ⟨hp, g, d, tk, os⟩ := s
    obtain ⟨hl, h⟩ := h
    have f1 := AutoSeq1.idx_int
    wp_walk using wpAny_loadPart' hl
    repeat (first
      | (refine wpAny_ite_false (decide_eq_false (by rw [c0]; exact Bool.false_ne_true)) ?_; wp_walk using wpAny_loadPart' hl)
      | (refine wpAny_ite_true (decide_eq_true (by rw [c1])) ?_; wp_walk using wpAny_loadPart' hl))
    exact ⟨_, rfl, h⟩
theorem tuple_mulNil (l : Addr) (items : Array Value) (n : Nat) (dd : Option Addr) (sl : Array (Option Value)) (x : Int) (u : Tok) (c0 : (decide (x < -(2 ^ 63)) || decide (x ≥ 2 ^ 63)) = false) (c1 : (items.isEmpty || x == 1) = false) (c2 : (decide (x ≤ 0) || items.isEmpty) = true) :
    Meets (Builtin.«tuple.__mul__» ⟨[.ref l, .int x u], []⟩) (fun _ R s => s.heap.get? l = some { cls := .type "tuple", dict := dd, data := .seq items n, slots := sl } ∧
      R (.ok (.ret (Value.ref s.heap.objs.size))) { s with heap := s.heap.push { cls := Value.type "tuple", data := Data.seq #[] }, toks := s.toks }) :=
  .of_wp fun prog w A R s h => by
    obtain ⟨hp, g, d, tk, os⟩ := s
    obtain ⟨hl, h⟩ := h
    have f1 := AutoSeq1.idx_int
    wp_walk using wpAny_loadPart' hl
    repeat (first
      | (refine wpAny_ite_false (decide_eq_false (by rw [c0]; exact Bool.false_ne_true)) ?_; wp_walk using wpAny_loadPart' hl)
      | (refine wpAny_ite_false (decide_eq_false (by rw [c1]; exact Bool.false_ne_true)) ?_; wp_walk using wpAny_loadPart' hl)
      | (refine wpAny_ite_true (decide_eq_true (by rw [c2])) ?_; wp_walk using wpAny_loadPart' hl))
    exact ⟨_, rfl, h⟩

/-- t * k -/
def rRepA (K : PySem.W.Frag) : R2 := fun x y H Q => ∃ l k xs, x = .ref l ∧ y = .int k ∧ SqT K H l xs ∧ -(2 ^ 62) < k ∧ k < 2 ^ 62 ∧ xs.length * k.toNat ≤ 16000000 ∧ ((xs = [] ∨ k = 1) → Q (.ref l) H) ∧
  ∀ p, H p = none → Q (.ref p) (upd H p (.tup (List.replicate k.toNat xs).flatten))
section
variable {X : Cx}
theorem op_repA : OpR X (binaryOp .Mult) (rRepA X.K) := by
  intro pins s σ H x y v u Q I rx ry h
  obtain ⟨l, k, xs, rfl, rfl, hT, h1, h2, hz, q0, q⟩ := h
  cases rx
  obtain ⟨t, rfl⟩ := ry
  obtain ⟨its, r, ⟨⟨cls, dd, data, sl⟩, ho, hc, n, hd⟩, hs⟩ := I.tuple hT
  simp only at hc hd
  subst hc hd
  have hle : its.length = xs.length := r.length.symm
  have c0 : (decide (k < -(2 ^ 63)) || decide (k ≥ 2 ^ 63)) = false := by
    rw [decide_eq_false (by omega), decide_eq_false (by omega)] <;> rfl
  have go : ∀ (Q' : Value → Shared → Prop), wpAny (model X.prog X.w) X.A (call (.builtin "tuple.__mul__") [.ref l, .int k t]) Q' X.xe s → wpAny (model X.prog X.w) X.A (binaryOp .Mult (.ref l) (.int k t)) Q' X.xe s := fun Q' hq =>
    wpAny_binaryOp_repeat_ref (T := "tuple") (U := "int") (by decide) ⟨_, ho, rfl⟩ (fun s' => typeIs_int s' k t) noFill_tuple_mul F.fills_int_mul F.slot_int_rmul repeat_tuple F.slot_int_index.lookup
      (call_meets F.slot_int_rmul (typeIs_int s k t) F.entry_int_rmul (F.args_int_rmul_2 _ _) (int_rmul_tuple k t l its.toArray n dd sl) ⟨ho, rfl, ⟨_, ho, rfl⟩, hq⟩)
  refine go _ ?_
  by_cases c1 : (its.toArray.isEmpty || k == 1) = true
  · refine call_meets F.slot_tuple_mul ⟨_, ho, rfl⟩ F.entry_tuple_mul (F.args_tuple_mul_2 _ _) (tuple_mulSame l its.toArray n dd sl k t c0 c1) ⟨ho, ?_⟩
    refine ⟨.ref l, H, I, rfl, q0 ?_⟩
    rcases Bool.or_eq_true_iff.mp c1 with e | e
    · left
      have : its = [] := by simpa using e
      rw [this] at hle
      exact List.eq_nil_of_length_eq_zero hle.symm
    · right; exact eq_of_beq e
  · have c1' : (its.toArray.isEmpty || k == 1) = false := by simpa using c1
    have nb : ∀ b o, s.heap.get? b = some o → (s.heap.push { cls := Value.type "tuple", data := Data.seq #[] }).get? b = some o := fun b o e => Heap.get?_push_of_some _ e
    by_cases c2 : (decide (k ≤ 0) || its.toArray.isEmpty) = true
    · refine call_meets F.slot_tuple_mul ⟨_, ho, rfl⟩ F.entry_tuple_mul (F.args_tuple_mul_2 _ _) (tuple_mulNil l its.toArray n dd sl k t c0 c1' c2) ⟨ho, ?_⟩
      have he : (List.replicate k.toNat xs).flatten = [] := by
        rcases Bool.or_eq_true_iff.mp c2 with e | e
        · have : k.toNat = 0 := by have := of_decide_eq_true e; omega
          rw [this]; rfl
        · exfalso; rw [e] at c1'; simp at c1'
      have q' := q _ (I.hok.fresh (Nat.le_refl _))
      rw [he] at q'
      refine ⟨.ref s.heap.objs.size, _, I.laid (t' := s.toks) (o := .tup []) (fun b ob q => Heap.get?_push_of_some _ q) (Nat.le_refl _) ?_, rfl, q'⟩
      exact ⟨Nat.zero_le _, [], .nil, IsTup.new _ _⟩
    · have c2' : (decide (k ≤ 0) || its.toArray.isEmpty) = false := by simpa using c2
      have hk0 : 0 < k := by
        have := (Bool.or_eq_false_iff.mp c2').1
        have := of_decide_eq_false this
        omega
      have hm : ((its.toArray.size : Nat) : Int) * k ≤ 16000000 := by
        rw [List.size_toArray, hle]
        have e : ((k.toNat : Nat) : Int) = k := by omega
        have a1 : ((xs.length * k.toNat : Nat) : Int) ≤ 16000000 := Int.ofNat_le.mpr hz
        rw [Int.natCast_mul, e] at a1
        exact a1
      have flen : (List.replicate k.toNat its).flatten.length ≤ sizeLine := by
        rw [PyProof.Rows.lm_len_rep_flat, hle, sizeLine_eq, Nat.mul_comm]
        omega
      have c4 : Builtin.Tuple.tupleTooMany (((its.toArray.size : Nat) : Int) * k) = false := by
        unfold Builtin.Tuple.tupleTooMany
        rw [sizeLine_eq]
        exact decide_eq_false (by omega)
      refine call_meets F.slot_tuple_mul ⟨_, ho, rfl⟩ F.entry_tuple_mul (F.args_tuple_mul_2 _ _) (tuple_mulW l its.toArray n dd sl k t c0 c1' c2' (by omega) c4 (by rw [size_rep, List.size_toArray]; exact flen)) ⟨ho, ?_⟩
      rw [size_rep]
      refine ⟨.ref s.heap.objs.size, _, I.laid (t' := s.toks) (o := .tup (List.replicate k.toNat xs).flatten) (fun b ob q => Heap.get?_push_of_some _ q) (Nat.le_refl _) ?_, rfl, q _ (I.hok.fresh (Nat.le_refl _))⟩
      exact ⟨by rw [PyProof.Rows.lm_len_rep_flat, sizeLine_eq, Nat.mul_comm]; omega, _, r.rep k.toNat, IsTup.new _ _⟩

/-! ### x in t, t.index(x): a tuple of data -/
theorem op_inDT (hu : X.A.units + 65 < cLine) : OpR X (compareOp .In) (fun x y H Q => ∃ d ds, Dp X.K H x d ∧ Dp X.K H y (.tuple ds) ∧ SeqAt.shaped d = true ∧ SeqAt.shaped (.tuple ds) = true ∧ Q (.bl (ds.any fun z => PyData.eqv z d)) H) := by
  intro pins s σ H x y v u Q I rx ry h
  obtain ⟨d, ds, hd, he, sd, se, q⟩ := h
  obtain ⟨as, r1⟩ := Dp.reads I d x v hd rx
  obtain ⟨bs, r2⟩ := Dp.reads I (.tuple ds) y u he ry
  exact SeqAt.in_tuple_reads r2 r1 (SeqAt.canLay_of_shaped se) (SeqAt.canLay_of_shaped sd) (room_in_shaped sd hu) ⟨.bl _, H, I, rfl, q⟩
theorem op_notInDT (hu : X.A.units + 65 < cLine) : OpR X (compareOp .NotIn) (fun x y H Q => ∃ d ds, Dp X.K H x d ∧ Dp X.K H y (.tuple ds) ∧ SeqAt.shaped d = true ∧ SeqAt.shaped (.tuple ds) = true ∧ Q (.bl (!ds.any fun z => PyData.eqv z d)) H) := by
  intro pins s σ H x y v u Q I rx ry h
  obtain ⟨d, ds, hd, he, sd, se, q⟩ := h
  obtain ⟨as, r1⟩ := Dp.reads I d x v hd rx
  obtain ⟨bs, r2⟩ := Dp.reads I (.tuple ds) y u he ry
  exact SeqAt.notIn_tuple_reads r2 r1 (SeqAt.canLay_of_shaped se) (SeqAt.canLay_of_shaped sd) (room_in_shaped sd hu) ⟨.bl _, H, I, rfl, q⟩
theorem mt_tindexD (hu : X.A.units + 65 < cLine) : MtR X "tuple.index" (fun x xs H Q => ∃ (a : Addr) (y : V) (d : PyData) (ds : List PyData) (j : Nat), x = V.ref a ∧ xs = [y] ∧ Dp X.K H (V.ref a) (.tuple ds) ∧ Dp X.K H y d ∧
    SeqAt.shaped (.tuple ds) = true ∧ SeqAt.shaped d = true ∧ ds.findIdx? (fun z => PyData.eqv z d) = some j ∧ Q (.int (j : Nat)) H) := by
  intro pins s σ H x xs v us Q I rx rxs h
  obtain ⟨a, y, d, ds, j, rfl, rfl, hl, hy, sl, sd, hj, q⟩ := h
  cases rx
  cases rxs with
  | cons ry rt =>
    rename_i uy ut
    cases rt
    obtain ⟨bs, r1⟩ := Dp.reads I d y uy hy ry
    obtain ⟨as, r2⟩ := Dp.reads I (.tuple ds) _ _ hl rfl
    have hxs : PyData.canLayAll0 ds = true := SeqAt.canLay_of_shaped sl
    have hroom : X.A.units + 1 + min (PyData.depthAll ds) d.depth < cLine := room_in_shaped sd hu
    cases r2 with
    | @tuple a1 o1 its n ds1 as1 h1 h2 h3 h4 =>
      have hmap : its.toList.map (SeqAt.readOf s.heap) = ds := SeqAt.readsAll_map ds its.toList _ hxs h4
      have eqs := SeqAt.items_eqAt (vs := its) h4 r1 hxs (SeqAt.canLay_of_shaped sd) hroom
      have hj2 : (ds.map fun z => PyData.eqv z d).idxOf true = j ∧ true ∈ ds.map fun z => PyData.eqv z d := by
        obtain ⟨hjl, hjt, hjn⟩ := List.findIdx?_eq_some_iff_getElem.mp hj
        have hm : true ∈ ds.map fun z => PyData.eqv z d := List.mem_map.mpr ⟨ds[j], List.getElem_mem hjl, hjt⟩
        refine ⟨?_, hm⟩
        have e : (ds.map fun z => PyData.eqv z d).idxOf true = ds.findIdx fun z => PyData.eqv z d := by
          unfold List.idxOf
          rw [List.findIdx_map]
          congr 1
          funext z
          show ((PyData.eqv z d) == true) = PyData.eqv z d
          simp
        rw [e]
        exact (List.findIdx?_eq_some_iff_findIdx_eq.mp hj).2
      refine SeqAt.call_tuple_index (vs := its.toList) (ks := ds.map fun z => PyData.eqv z d) (k := true) ⟨o1, h1, h2, n, by simpa using h3⟩ ⟨by rw [← hmap]; simp, fun i hi1 hi2 => ?_⟩ hj2.2 ?_
      · have e1 := eqs its.toList[i] (by simp)
        have e2 : (ds.map fun z => PyData.eqv z d)[i] = PyData.eqv (SeqAt.readOf s.heap its.toList[i]) d := by
          simp only [List.getElem_map, ← hmap]
        rw [e2]
        simpa using e1
      · rw [hj2.1]
        exact ⟨.int (j : Nat), H, I.tok _, ⟨_, rfl⟩, q⟩
end
end MS

set_option Elab.async false
set_option linter.all false
set_option maxRecDepth 100000
set_option maxHeartbeats 4000000
/-! MS1: MI's data over the abstract heap. -/
namespace MS
open PySem PySem.Spec PyProof.Rows L2 MI

abbrev sD (s : List Nat) : Str := ⟨s.toArray⟩
theorem sD_inj {s t : List Nat} (h : sD s = sD t) : s = t := by
  have h1 : s.toArray = t.toArray := congrArg Str.cps h
  simpa using h1
theorem sD_eq {s t : List Nat} : sD s = sD t ↔ s = t := ⟨sD_inj, fun h => by rw [h]⟩

/-- a list that is read alone -/
def FrL (K : PySem.W.Frag) (H : Hp) (a : Addr) (vs : List V) : Prop :=
  (∃ o, H a = some (.frz o (.lst vs))) ∨
    ∃ (o : Obj) (its : Array Value) (n : Nat), K.lookup a = some o ∧ o.cls = .type "list" ∧ o.dict = none ∧ o.data = .seq its n ∧ its.size ≤ sizeLine ∧ Vals vs its.toList
theorem FrL.seq {K : PySem.W.Frag} {H : Hp} {a : Addr} {vs : List V} (h : FrL K H a vs) : SqL K H a vs := by
  rcases h with ⟨o, h⟩ | h
  · exact .inl (.inr ⟨o, h⟩)
  · exact .inr h

/-- a tuple whose object is known to have no dict -/
def XT (H : Hp) (a : Addr) (vs : List V) : Prop := ∃ o : Obj, H a = some (.frz o (.tup vs)) ∧ o.cls = .type "tuple" ∧ o.dict = none
theorem XT.seq {K : PySem.W.Frag} {H : Hp} {a : Addr} {vs : List V} (h : XT H a vs) : SqT K H a vs := by
  obtain ⟨o, h, _⟩ := h
  exact .inl (.inr ⟨o, h⟩)

mutual
inductive Rv (K : PySem.W.Frag) (H : Hp) (ρ : List Addr) : V → D → Prop
  | non : Rv K H ρ .non .non
  | bl (b : Bool) : Rv K H ρ (.bl b) (.bl b)
  | int (i : Int) : Rv K H ρ (.int i) (.int i)
  | str (s : List Nat) : Rv K H ρ (.str (sD s)) (.str s)
  | tup {a : Addr} {vs : List V} {ds : List D} : SqT K H a vs → RvL K H ρ vs ds → Rv K H ρ (.ref a) (.tup ds)
  | frz {a : Addr} {vs : List V} {ds : List D} : FrL K H a vs → RvL K H ρ vs ds → Rv K H ρ (.ref a) (.frz ds)
  | xtup {a : Addr} {vs : List V} {ds : List D} : XT H a vs → RvL K H ρ vs ds → Rv K H ρ (.ref a) (.xtup ds)
  | loc {a : Addr} {n : Nat} : ρ[n]? = some a → Rv K H ρ (.ref a) (.loc n)
inductive RvL (K : PySem.W.Frag) (H : Hp) (ρ : List Addr) : List V → List D → Prop
  | nil : RvL K H ρ [] []
  | cons {v : V} {vs : List V} {d : D} {ds : List D} : Rv K H ρ v d → RvL K H ρ vs ds → RvL K H ρ (v :: vs) (d :: ds)
end
inductive RvF (K : PySem.W.Frag) (H : Hp) (ρ : List Addr) : List (Str × V) → List (List Nat × D) → Prop
  | nil : RvF K H ρ [] []
  | cons {f : List Nat} {v : V} {vs : List (Str × V)} {d : D} {ds : List (List Nat × D)} : Rv K H ρ v d → RvF K H ρ vs ds → RvF K H ρ ((sD f, v) :: vs) ((f, d) :: ds)
inductive RvE (K : PySem.W.Frag) (H : Hp) (ρ : List Addr) : L2.St → MI.Env → Prop
  | nil : RvE K H ρ [] []
  | hole {σ : L2.St} {env : MI.Env} {o : Option V} : RvE K H ρ σ env → RvE K H ρ (o :: σ) (none :: env)
  | val {v : V} {σ : L2.St} {d : D} {env : MI.Env} : Rv K H ρ v d → RvE K H ρ σ env → RvE K H ρ (some v :: σ) (some d :: env)

/-- what stands at a mutable object's address -/
inductive Ro (K : PySem.W.Frag) (cl : Nat → Addr) (H : Hp) (ρ : List Addr) : Addr → Ob → Prop
  | lst {a : Addr} {vs : List V} {ds : List D} : H a = some (.lst vs) → RvL K H ρ vs ds → Ro K cl H ρ a (.lst ds)
  | ins {a dx : Addr} {c : Nat} {vfs : List (Str × V)} {fs : List (List Nat × D)} : H a = some (.ins (cl c) dx vfs) → RvF K H ρ vfs fs → Cls K (cl c) → (∀ p ∈ fs, NoAttr K (cl c) (sD p.1)) → Ro K cl H ρ a (.ins c fs)

structure At (K : PySem.W.Frag) (cl : Nat → Addr) (ρ : List Addr) (H : Hp) (st : Stt) : Prop where
  len : ρ.length = st.length
  nd : ρ.Nodup
  obj : ∀ (n : Nat) a o, ρ[n]? = some a → st[n]? = some o → Ro K cl H ρ a o
/-- behind some steps: more objects, all that is not ours kept -/
structure Grow (ρ : List Addr) (H : Hp) (ρ' : List Addr) (H' : Hp) : Prop where
  ext : ∃ e, ρ' = ρ ++ e
  new : ∀ a ∈ ρ', a ∈ ρ ∨ H a = none
  frame : ∀ a o, H a = some o → a ∉ ρ → H' a = some o

section
variable {K : PySem.W.Frag} {cl : Nat → Addr} {ρ ρ' ρ1 ρ2 : List Addr} {H H' H1 H2 : Hp} {st st' : Stt} {a p : Addr}
theorem Grow.refl : Grow ρ H ρ H := ⟨⟨[], by simp⟩, fun _ h => .inl h, fun _ _ h _ => h⟩
theorem Grow.trans (g : Grow ρ H ρ1 H1) (h : Grow ρ1 H1 ρ2 H2) : Grow ρ H ρ2 H2 := by
  obtain ⟨e, he⟩ := g.ext
  obtain ⟨f, hf⟩ := h.ext
  have nin : ∀ a o, H a = some o → a ∉ ρ → a ∉ ρ1 := fun a o ha hn hm => by
    rcases g.new a hm with q | q
    · exact hn q
    · rw [q] at ha; cases ha
  refine ⟨⟨e ++ f, by rw [hf, he, List.append_assoc]⟩, fun a ha => ?_, fun a o ha hn => h.frame a o (g.frame a o ha hn) (nin a o ha hn)⟩
  rcases h.new a ha with q | q
  · exact g.new a q
  · by_cases hr : a ∈ ρ
    · exact .inl hr
    · cases e : H a with
      | none => exact .inr rfl
      | some o =>
        have := g.frame a o e hr
        rw [q] at this; cases this
theorem At.mem (A : At K cl ρ H st) (h : a ∈ ρ) : ∃ (n : Nat) (o : Ob), ρ[n]? = some a ∧ st[n]? = some o ∧ Ro K cl H ρ a o := by
  obtain ⟨n, hn, e⟩ := List.getElem_of_mem h
  have e1 : ρ[n]? = some a := by rw [List.getElem?_eq_getElem hn, e]
  have hn' : n < st.length := by rw [← A.len]; exact hn
  have e2 : st[n]? = some st[n] := List.getElem?_eq_getElem hn'
  exact ⟨n, _, e1, e2, A.obj n a _ e1 e2⟩
theorem Ro.mut {o : Ob} (h : Ro K cl H ρ a o) : (∃ vs, H a = some (.lst vs)) ∨ ∃ c dx vfs, H a = some (.ins (cl c) dx vfs) := by
  cases h with
  | lst h _ => exact .inl ⟨_, h⟩
  | ins h _ _ _ => exact .inr ⟨_, _, _, h⟩
theorem At.notTup (A : At K cl ρ H st) (h : a ∈ ρ) {vs : List V} : H a ≠ some (.tup vs) := fun e => by
  obtain ⟨_, _, _, _, r⟩ := A.mem h
  rcases r.mut with ⟨_, q⟩ | ⟨_, _, _, q⟩ <;> (rw [q] at e; cases e)
theorem At.notFrz (A : At K cl ρ H st) (h : a ∈ ρ) {ob : Obj} {u : HO} : H a ≠ some (.frz ob u) := fun e => by
  obtain ⟨_, _, _, _, r⟩ := A.mem h
  rcases r.mut with ⟨_, q⟩ | ⟨_, _, _, q⟩ <;> (rw [q] at e; cases e)
theorem At.there (A : At K cl ρ H st) (h : a ∈ ρ) : H a ≠ none := fun e => by
  obtain ⟨_, _, _, _, r⟩ := A.mem h
  rcases r.mut with ⟨_, q⟩ | ⟨_, _, _, q⟩ <;> (rw [q] at e; cases e)
/-- tuples and what is locked are kept -/
structure Keep (K : PySem.W.Frag) (H H' : Hp) : Prop where
  t : ∀ b vs, SqT K H b vs → SqT K H' b vs
  f : ∀ b vs, FrL K H b vs → FrL K H' b vs
  x : ∀ b vs, XT H b vs → XT H' b vs
theorem At.keep (A : At K cl ρ H st) (g : Grow ρ H ρ' H') : Keep K H H' where
  t := fun b vs h => by
    rcases h with (h | ⟨o, h⟩) | h
    · exact .inl (.inl (g.frame _ _ h fun m => A.notTup m h))
    · exact .inl (.inr ⟨o, g.frame _ _ h fun m => A.notFrz m h⟩)
    · exact .inr h
  f := fun b vs h => by
    rcases h with ⟨o, h⟩ | h
    · exact .inl ⟨o, g.frame _ _ h fun m => A.notFrz m h⟩
    · exact .inr h
  x := fun b vs ⟨o, h, q⟩ => ⟨o, g.frame _ _ h fun m => A.notFrz m h, q⟩
theorem getElem?_app {α : Type} {l e : List α} {n : Nat} {x : α} (h : l[n]? = some x) : (l ++ e)[n]? = some x := by
  obtain ⟨hl, he⟩ := List.getElem?_eq_some_iff.mp h
  rw [List.getElem?_append_left hl]; exact h
mutual
theorem Rv.keep (k : Keep K H H') (e : List Addr) : ∀ {v : V} {d : D}, Rv K H ρ v d → Rv K H' (ρ ++ e) v d
  | _, _, .non => .non
  | _, _, .bl b => .bl b
  | _, _, .int i => .int i
  | _, _, .str s => .str s
  | _, _, .tup h r => .tup (k.t _ _ h) (RvL.keep k e r)
  | _, _, .frz h r => .frz (k.f _ _ h) (RvL.keep k e r)
  | _, _, .xtup h r => .xtup (k.x _ _ h) (RvL.keep k e r)
  | _, _, .loc h => .loc (getElem?_app h)
theorem RvL.keep (k : Keep K H H') (e : List Addr) : ∀ {vs : List V} {ds : List D}, RvL K H ρ vs ds → RvL K H' (ρ ++ e) vs ds
  | _, _, .nil => .nil
  | _, _, .cons h r => .cons (Rv.keep k e h) (RvL.keep k e r)
end
theorem RvF.keep (k : Keep K H H') (e : List Addr) : ∀ {vs : List (Str × V)} {ds : List (List Nat × D)}, RvF K H ρ vs ds → RvF K H' (ρ ++ e) vs ds
  | _, _, .nil => .nil
  | _, _, .cons h r => .cons (h.keep k e) (RvF.keep k e r)
theorem RvE.keep (k : Keep K H H') (e : List Addr) : ∀ {σ : L2.St} {env : MI.Env}, RvE K H ρ σ env → RvE K H' (ρ ++ e) σ env
  | _, _, .nil => .nil
  | _, _, .hole r => .hole (RvE.keep k e r)
  | _, _, .val h r => .val (h.keep k e) (RvE.keep k e r)
theorem Rv.grow {v : V} {d : D} (A : At K cl ρ H st) (g : Grow ρ H ρ' H') (h : Rv K H ρ v d) : Rv K H' ρ' v d := by
  obtain ⟨e, rfl⟩ := g.ext; exact h.keep (A.keep g) e
theorem RvL.grow {v : List V} {d : List D} (A : At K cl ρ H st) (g : Grow ρ H ρ' H') (h : RvL K H ρ v d) : RvL K H' ρ' v d := by
  obtain ⟨e, rfl⟩ := g.ext; exact h.keep (A.keep g) e
theorem RvF.grow {v : List (Str × V)} {d : List (List Nat × D)} (A : At K cl ρ H st) (g : Grow ρ H ρ' H') (h : RvF K H ρ v d) : RvF K H' ρ' v d := by
  obtain ⟨e, rfl⟩ := g.ext; exact h.keep (A.keep g) e
theorem RvE.grow {v : L2.St} {d : MI.Env} (A : At K cl ρ H st) (g : Grow ρ H ρ' H') (h : RvE K H ρ v d) : RvE K H' ρ' v d := by
  obtain ⟨e, rfl⟩ := g.ext; exact h.keep (A.keep g) e

/-! ### lists that go together -/
theorem RvL.length : ∀ {vs : List V} {ds : List D}, RvL K H ρ vs ds → vs.length = ds.length
  | _, _, .nil => rfl
  | _, _, .cons _ r => by simp [RvL.length r]
theorem RvL.get : ∀ {vs : List V} {ds : List D} {i : Nat} {d : D}, RvL K H ρ vs ds → ds[i]? = some d → ∃ v, vs[i]? = some v ∧ Rv K H ρ v d
  | _, _, _, _, .nil, h => by simp at h
  | _, _, 0, _, .cons h _, q => by simp at q; subst q; exact ⟨_, rfl, h⟩
  | _, _, i + 1, _, .cons _ r, q => by
    obtain ⟨v, h1, h2⟩ := RvL.get (i := i) r (by simpa using q)
    exact ⟨v, by simpa using h1, h2⟩
theorem RvL.append : ∀ {vs ws : List V} {ds es : List D}, RvL K H ρ vs ds → RvL K H ρ ws es → RvL K H ρ (vs ++ ws) (ds ++ es)
  | _, _, _, _, .nil, s => s
  | _, _, _, _, .cons h r, s => .cons h (RvL.append r s)
theorem RvL.take (n : Nat) : ∀ {vs : List V} {ds : List D}, RvL K H ρ vs ds → RvL K H ρ (vs.take n) (ds.take n) := by
  induction n with
  | zero => intro vs ds _; simp; exact .nil
  | succ n ih =>
    intro vs ds h
    cases h with
    | nil => simp; exact .nil
    | cons h r => simp; exact .cons h (ih r)
theorem RvL.drop (n : Nat) : ∀ {vs : List V} {ds : List D}, RvL K H ρ vs ds → RvL K H ρ (vs.drop n) (ds.drop n) := by
  induction n with
  | zero => intro vs ds h; simpa using h
  | succ n ih =>
    intro vs ds h
    cases h with
    | nil => simp; exact .nil
    | cons h r => simp; exact ih r
theorem RvL.set {v : V} {d : D} (h : Rv K H ρ v d) : ∀ (i : Nat) {vs : List V} {ds : List D}, RvL K H ρ vs ds → RvL K H ρ (vs.set i v) (ds.set i d)
  | _, _, _, .nil => .nil
  | 0, _, _, .cons _ r => .cons h r
  | i + 1, _, _, .cons q r => .cons q (RvL.set h i r)
theorem RvE.length : ∀ {σ : L2.St} {env : MI.Env}, RvE K H ρ σ env → σ.length = env.length
  | _, _, .nil => rfl
  | _, _, .hole r => by simp [RvE.length r]
  | _, _, .val _ r => by simp [RvE.length r]
theorem RvE.get : ∀ {σ : L2.St} {env : MI.Env} {i : Nat} {d : D}, RvE K H ρ σ env → env[i]? = some (some d) → ∃ v, σ[i]? = some (some v) ∧ Rv K H ρ v d
  | _, _, _, _, .nil, h => by simp at h
  | _, _, 0, _, .hole _, q => by simp at q
  | _, _, 0, _, .val h _, q => by simp at q; subst q; exact ⟨_, rfl, h⟩
  | _, _, i + 1, _, .hole r, q => by
    obtain ⟨v, h1, h2⟩ := RvE.get (i := i) r (by simpa using q)
    exact ⟨v, by simpa using h1, h2⟩
  | _, _, i + 1, _, .val _ r, q => by
    obtain ⟨v, h1, h2⟩ := RvE.get (i := i) r (by simpa using q)
    exact ⟨v, by simpa using h1, h2⟩
theorem RvE.set {v : V} {d : D} (h : Rv K H ρ v d) : ∀ (i : Nat) {σ : L2.St} {env : MI.Env}, RvE K H ρ σ env → RvE K H ρ (σ.set i (some v)) (env.set i (some d))
  | _, _, _, .nil => .nil
  | 0, _, _, .hole r => .val h r
  | 0, _, _, .val _ r => .val h r
  | i + 1, _, _, .hole r => .hole (RvE.set h i r)
  | i + 1, _, _, .val q r => .val q (RvE.set h i r)
theorem RvE.unset : ∀ (i : Nat) {σ : L2.St} {env : MI.Env}, RvE K H ρ σ env → RvE K H ρ (σ.set i none) (env.set i none)
  | _, _, _, .nil => .nil
  | 0, _, _, .hole r => .hole r
  | 0, _, _, .val _ r => .hole r
  | i + 1, _, _, .hole r => .hole (RvE.unset i r)
  | i + 1, _, _, .val q r => .val q (RvE.unset i r)
theorem RvE.wipe : ∀ (own : List Nat) {σ : L2.St} {env : MI.Env}, RvE K H ρ σ env → RvE K H ρ (L2.wipe σ own) (wipeE env own)
  | [], _, _, h => h
  | v :: vs, _, _, h => RvE.unset v (RvE.wipe vs h)
theorem RvF.look {f : List Nat} {vs : List (Str × V)} {ds : List (List Nat × D)} (h : RvF K H ρ vs ds) : (MI.getD ds f = none ∧ vs.lookup (sD f) = none) ∨ ∃ d v, MI.getD ds f = some d ∧ vs.lookup (sD f) = some v ∧ Rv K H ρ v d := by
  induction h with
  | nil => exact .inl ⟨rfl, rfl⟩
  | @cons g v vs d ds h r ih =>
    by_cases e : g = f
    · subst e
      exact .inr ⟨d, v, by simp [MI.getD], by simp [List.lookup], h⟩
    · have ne : ¬ sD f = sD g := fun q => e (sD_inj q).symm
      have e1 : MI.getD ((g, d) :: ds) f = MI.getD ds f := by unfold MI.getD; rw [List.find?_cons_of_neg (by simpa using e)]
      have e2 : List.lookup (sD f) ((sD g, v) :: vs) = List.lookup (sD f) vs := by
        have q : (sD f == sD g) = false := beq_eq_false_iff_ne.mpr ne
        show (match (sD f == sD g) with | true => some v | false => List.lookup (sD f) vs) = List.lookup (sD f) vs
        rw [q]
      rw [e1, e2]; exact ih
theorem RvF.put {f : List Nat} {v : V} {d : D} (h : Rv K H ρ v d) : ∀ {vs : List (Str × V)} {ds : List (List Nat × D)}, RvF K H ρ vs ds → RvF K H ρ (L2.putF (sD f) v vs) (putD ds f d)
  | _, _, .nil => .cons h .nil
  | _, _, .cons (f := g) (v := w) (d := e) q r => by
    unfold L2.putF putD
    by_cases e : g = f
    · subst e; simp; exact .cons h r
    · have ne : ¬ sD g = sD f := fun q => e (sD_inj q)
      simp only [e, ne, if_false]; exact .cons q (RvF.put h r)
theorem RvF.length : ∀ {vs : List (Str × V)} {ds : List (List Nat × D)}, RvF K H ρ vs ds → vs.length = ds.length
  | _, _, .nil => rfl
  | _, _, .cons _ r => by simp [RvF.length r]
theorem Ro.keep (k : Keep K H H') (e : List Addr) {o : Ob} (h : Ro K cl H ρ a o) (q : H' a = H a) : Ro K cl H' (ρ ++ e) a o := by
  cases h with
  | lst h r => exact .lst (q.trans h) (r.keep k e)
  | ins h r c n => exact .ins (q.trans h) (r.keep k e) c n

/-! ### steps -/
/-- a new object that is no object of ours (a tuple, an iterator) -/
theorem At.side (A : At K cl ρ H st) {o : HO} (n : H p = none) : At K cl ρ (upd H p o) st ∧ Grow ρ H ρ (upd H p o) := by
  have g : Grow ρ H ρ (upd H p o) := ⟨⟨[], by simp⟩, fun _ h => .inl h, fun a u h _ => by rw [upd_ne (ne_of_none h n)]; exact h⟩
  refine ⟨⟨A.len, A.nd, fun i a u h1 h2 => ?_⟩, g⟩
  have hne : a ≠ p := fun e => A.there (List.mem_of_getElem? h1) (by rw [e]; exact n)
  have := (A.obj i a u h1 h2).keep (A.keep g) [] (upd_ne hne)
  simpa using this
/-- a new object of ours -/
theorem At.push (A : At K cl ρ H st) {o : HO} {ob : Ob} (n : H p = none) (r : Ro K cl (upd H p o) (ρ ++ [p]) p ob) : At K cl (ρ ++ [p]) (upd H p o) (st ++ [ob]) ∧ Grow ρ H (ρ ++ [p]) (upd H p o) := by
  have np : p ∉ ρ := fun h => A.there h n
  have g : Grow ρ H (ρ ++ [p]) (upd H p o) := ⟨⟨[p], rfl⟩, fun a h => by
    rcases List.mem_append.mp h with h | h
    · exact .inl h
    · have : a = p := by simpa using h
      subst this; exact .inr n, fun a u h _ => by rw [upd_ne (ne_of_none h n)]; exact h⟩
  refine ⟨⟨by simp [A.len], ?_, fun i a u h1 h2 => ?_⟩, g⟩
  · rw [List.nodup_append]
    refine ⟨A.nd, by simp, fun a ha b hb => ?_⟩
    have : b = p := by simpa using hb
    subst this; exact fun e => np (e ▸ ha)
  · by_cases hi : i < ρ.length
    · rw [List.getElem?_append_left hi] at h1
      rw [List.getElem?_append_left (by rw [← A.len]; exact hi)] at h2
      have hne : a ≠ p := fun e => A.there (List.mem_of_getElem? h1) (by rw [e]; exact n)
      exact (A.obj i a u h1 h2).keep (A.keep g) [p] (upd_ne hne)
    · have hi' : i = ρ.length := by
        have := (List.getElem?_eq_some_iff.mp h1).1
        simp at this; omega
      subst hi'
      simp at h1
      rw [A.len] at h2; simp at h2
      subst h1 h2; exact r
/-- an object of ours is changed -/
theorem At.put (A : At K cl ρ H st) {n : Nat} {o : HO} {ob : Ob} (h : ρ[n]? = some a) (r : Keep K H (upd H a o) → Ro K cl (upd H a o) ρ a ob) : At K cl ρ (upd H a o) (st.set n ob) ∧ Grow ρ H ρ (upd H a o) := by
  have ha : a ∈ ρ := List.mem_of_getElem? h
  have g : Grow ρ H ρ (upd H a o) := ⟨⟨[], by simp⟩, fun _ h => .inl h, fun b u q hn => by rw [upd_ne fun e => hn (by rw [e]; exact ha)]; exact q⟩
  refine ⟨⟨by simp [A.len], A.nd, fun i b u h1 h2 => ?_⟩, g⟩
  by_cases hi : i = n
  · subst hi
    rw [h] at h1; cases h1
    have hl : i < st.length := by rw [← A.len]; exact (List.getElem?_eq_some_iff.mp h).1
    rw [List.getElem?_set_self hl] at h2; cases h2
    exact r (A.keep g)
  · rw [List.getElem?_set_ne (Ne.symm hi)] at h2
    have hne : b ≠ a := fun e => by
      subst e
      obtain ⟨l1, e1⟩ := List.getElem?_eq_some_iff.mp h
      obtain ⟨l2, e2⟩ := List.getElem?_eq_some_iff.mp h1
      exact hi ((List.getElem_inj A.nd).mp (e2.trans e1.symm))
    have := (A.obj i b u h1 h2).keep (A.keep g) [] (upd_ne hne)
    simpa using this
theorem At.get (A : At K cl ρ H st) {n : Nat} {o : Ob} (h : ρ[n]? = some a) (q : st[n]? = some o) : Ro K cl H ρ a o := A.obj n a o h q
end
end MS

set_option Elab.async false
set_option linter.all false
set_option maxRecDepth 100000
set_option maxHeartbeats 4000000
/-! MSR2: t[a:b:2] of a tuple. -/
namespace MS
open PySem PySem.Spec PyProof.Rows L2

theorem everyOther_range {α : Type} : ∀ l : List α, MI.everyOther l = (List.range ((l.length + 1) / 2)).filterMap fun (m : Nat) => l[2 * m]?
  | [] => by simp [MI.everyOther]
  | [x] => by simp [MI.everyOther, List.range_succ_eq_map]
  | x :: y :: r => by
    have ih := everyOther_range r
    have e : ((x :: y :: r).length + 1) / 2 = (r.length + 1) / 2 + 1 := by simp only [List.length_cons]; omega
    rw [e, List.range_succ_eq_map, List.filterMap_cons, List.filterMap_map]
    show x :: MI.everyOther r = x :: _
    rw [ih]
    congr 1
theorem adjust2 (lo hi : Option Int) (n : Nat) : Builtin.Slice.sliceAdjust lo hi 2 (n : Int) = (((HT.sIx n 0 lo : Nat) : Int), ((HT.sIx n n hi : Nat) : Int)) := by
  have h1 : ¬ ((2 : Int) < 0) := by omega
  unfold Builtin.Slice.sliceAdjust
  simp only [h1, if_false]
  refine Prod.ext ?_ ?_
  · cases lo with
    | none => rfl
    | some v => exact HT.clip_eq v n 0
  · cases hi with
    | none => rfl
    | some v => exact HT.clip_eq v n n
theorem places2 (i j : Nat) : Builtin.Slice.slicePlaces (i : Int) (j : Int) 2 = (j - i + 1) / 2 := by
  unfold Builtin.Slice.slicePlaces
  have h1 : (2 : Int) > 0 := by omega
  simp only [h1, if_true]
  split <;> omega
section
variable {prog : Program} {w : World} {A : Around} {E : Value → Shared → Prop} {s : Shared}
theorem sliceApplied2 {sl : Addr} {vl vu vt : Value} {lo hi : Option Int} {n : Nat} {Q : Int × Int × Nat → Shared → Prop} (hs : s.heap.IsSliceOf sl vl vu vt) (pl : IsPart vl lo) (pu : IsPart vu hi) (pt : IsPart vt (some 2))
    (h : Q (((HT.sIx n 0 lo : Nat) : Int), 2, (HT.sIx n n hi - HT.sIx n 0 lo + 1) / 2) s) : wpAny (model prog w) A (Builtin.Slice.sliceApplied (.ref sl) (pure (n : Int))) Q E s := by
  obtain ⟨os, hos, hcs, hds⟩ := id hs
  unfold Builtin.Slice.sliceApplied Builtin.Slice.sliceFields
  refine wpAny_bind (wpAny_bind (wpAny_field hos hds (x := vl) rfl (wpAny_bind (wpAny_field hos hds (x := vu) rfl (wpAny_bind (wpAny_field hos hds (x := vt) rfl (wpAny_pure ?_)))))))
  refine wpAny_bind (HT.slicePart_ pt ?_)
  show wpAny _ _ (if ((2 : Int) == 0) = true then _ else _) _ _ s
  rw [if_neg (by decide)]
  refine wpAny_bind (HT.slicePart_ pl (wpAny_bind (HT.slicePart_ pu (wpAny_bind (wpAny_pure ?_)))))
  show wpAny _ _ (match Builtin.Slice.sliceAdjust lo hi 2 (n : Int) with | (lo, hi) => pure (lo, (2 : Int), Builtin.Slice.slicePlaces lo hi 2)) _ _ s
  rw [adjust2 lo hi n]
  show wpAny _ _ (pure (((HT.sIx n 0 lo : Nat) : Int), (2 : Int), Builtin.Slice.slicePlaces ((HT.sIx n 0 lo : Nat) : Int) ((HT.sIx n n hi : Nat) : Int) 2)) _ _ s
  rw [places2]
  exact wpAny_pure h
theorem pick2 (xs : Array Value) (i j : Nat) (hj : j ≤ xs.size) : ((List.range ((j - i + 1) / 2)).filterMap fun (m : Nat) => xs[((i : Int) + (m : Int) * 2).toNat]?).toArray = (MI.everyOther ((xs.toList.drop i).take (j - i))).toArray := by
  congr 1
  rw [everyOther_range]
  have hl : ((xs.toList.drop i).take (j - i)).length = j - i := by rw [List.length_take, List.length_drop, Array.length_toList]; omega
  rw [hl]
  have gen : ∀ (l : List Nat), (∀ m ∈ l, m < (j - i + 1) / 2) → l.filterMap (fun (m : Nat) => xs[((i : Int) + (m : Int) * 2).toNat]?) = l.filterMap fun (m : Nat) => ((xs.toList.drop i).take (j - i))[2 * m]? := by
    intro l
    induction l with
    | nil => intro _; rfl
    | cons m r ih =>
      intro h
      have e : xs[((i : Int) + (m : Int) * 2).toNat]? = ((xs.toList.drop i).take (j - i))[2 * m]? := by
        have hm := h m List.mem_cons_self
        have q : ((i : Int) + (m : Int) * 2).toNat = i + 2 * m := by omega
        rw [q, List.getElem?_take_of_lt (by omega), List.getElem?_drop, Array.getElem?_toList]
      rw [List.filterMap_cons, List.filterMap_cons, e, ih fun m' h' => h m' (List.mem_cons_of_mem _ h')]
  exact gen _ fun m hm => List.mem_range.mp hm
theorem everyOther_length {α : Type} : ∀ l : List α, (MI.everyOther l).length ≤ l.length
  | [] => Nat.le_refl _
  | [_] => Nat.le_refl _
  | _ :: _ :: r => by
    have := everyOther_length r
    show (MI.everyOther r).length + 1 ≤ r.length + 1 + 1
    omega
theorem getItem_tuple2 {t sl : Addr} {items : Array Value} {vl vu vt : Value} {lo hi : Option Int} {Q : Value → Shared → Prop} (ht : IsTup s.heap t items) (hs : s.heap.IsSliceOf sl vl vu vt) (pl : IsPart vl lo) (pu : IsPart vu hi) (pt : IsPart vt (some 2))
    (h : Q (.ref s.heap.objs.size) { s with heap := s.heap.push { cls := .type "tuple", data := .seq (MI.everyOther ((items.toList.drop (HT.sIx items.size 0 lo)).take (HT.sIx items.size items.size hi - HT.sIx items.size 0 lo))).toArray } })
    (hsz : items.size ≤ sizeLine) : wpAny (model prog w) A (getItem (.ref t) (.ref sl)) Q E s := by
  have hj : HT.sIx items.size items.size hi ≤ items.size := HT.sIx_le _ _ (Nat.le_refl _) hi
  have htake : sizeOk (.seq (MI.everyOther ((items.toList.drop (HT.sIx items.size 0 lo)).take (HT.sIx items.size items.size hi - HT.sIx items.size 0 lo))).toArray) := by
    show (MI.everyOther ((items.toList.drop (HT.sIx items.size 0 lo)).take (HT.sIx items.size items.size hi - HT.sIx items.size 0 lo))).toArray.size ≤ sizeLine
    rw [List.size_toArray]
    refine Nat.le_trans (everyOther_length _) ?_
    rw [List.length_take, List.length_drop, Array.length_toList]
    omega
  obtain ⟨os, hos, hcs, hds⟩ := id hs
  have hTs : s.TypeIs (.ref sl) "slice" := ⟨os, hos, hcs⟩
  unfold getItem
  try with_reducible refine wpAny_holding ?_
  first | refine wpAny_bind (wpAny_pure ?_) | skip
  refine wpAny_bind (wpAny_sequenceKey ht.typeIs (by decide) ?_)
  refine wpAny_bind (wpAny_callSpecial?_slot (name := Str.ofString "__getitem__") ht.typeIs PyProof.Rows.slot_tuple_getitem
    (wpAny_call_entry PyProof.Rows.slot_tuple_getitem ht.typeIs entry_tuple_getitem ?_ (args_tuple_getitem _ _)))
  show wpAny _ _ (Builtin.Tuple.tupleItemsOf (.ref t) >>= _) _ _ s
  refine wpAny_bind (tupleItemsOf_ ht ?_)
  refine wpAny_bind (wpAny_typeOf hTs ?_)
  rw [if_pos (by decide)]
  refine wpAny_bind (sliceApplied2 hs pl pu pt ?_)
  have hno : ¬ ((((HT.sIx items.size 0 lo : Nat) : Int) == 0 && (2 : Int) == 1 && ((HT.sIx items.size items.size hi - HT.sIx items.size 0 lo + 1) / 2) == items.size) = true) := by
    intro q
    rw [Bool.and_eq_true, Bool.and_eq_true] at q
    have q1 : ((2 : Int) == 1) = true := q.1.2
    exact absurd q1 (by decide)
  show wpAny _ _ (if (((HT.sIx items.size 0 lo : Nat) : Int) == 0 && (2 : Int) == 1 && ((HT.sIx items.size items.size hi - HT.sIx items.size 0 lo + 1) / 2) == items.size) = true then _ else _) _ _ s
  rw [if_neg hno, pick2 _ _ _ hj]
  first
    | exact wpAny_bind (m := Builtin.Tuple.tupleExact _) (wpAny_newObj_type (wpAny_pure ⟨_, rfl, wpAny_pure h⟩) htake)
    | exact wpAny_bind (m := Builtin.Tuple.tupleExact _) (wpAny_newObj_type (wpAny_bind (wpAny_pure (wpAny_pure ⟨_, rfl, wpAny_pure h⟩))) htake)
    | exact wpAny_bind (wpAny_bind (m := Builtin.Tuple.tupleExact _) (wpAny_newObj_type (wpAny_pure (wpAny_pure ⟨_, rfl, wpAny_pure h⟩)) htake))
    | exact wpAny_bind (wpAny_bind (m := Builtin.Tuple.tupleExact _) (wpAny_newObj_type (wpAny_pure ⟨_, rfl, wpAny_pure h⟩) htake))
end
theorem Vals.everyOther : ∀ {xs : List V} {us : List Value}, Vals xs us → Vals (MI.everyOther xs) (MI.everyOther us)
  | _, _, .nil => .nil
  | _, _, .cons r .nil => .cons r .nil
  | _, _, .cons r (.cons _ t) => .cons r (Vals.everyOther t)
section
variable {X : Cx} {e : Expr} {te : TE} {lo hi : Option Expr} {tl th : TO} {p2 p3 pos : Pos}
def rSl2 (K : PySem.W.Frag) : V → Option Int → Option Int → Hp → VK → Prop := fun x lo hi H Q => ∃ a xs, x = .ref a ∧ SqT K H a xs ∧ ∀ p, H p = none → Q (.ref p) (upd H p (.tup (MI.everyOther (cutV xs lo hi))))
theorem pe_slice2 {j : Nat} (he : PE X e te) (hl : PO X lo tl) (hu : PO X hi th) : PE X (.Subscript e (.Slice lo hi (some (.Constant (.int 2) j p3)) p2) pos) (tSl (rSl2 X.K) te tl th) := by
  refine ⟨fun pins s σ H Q I h => ?_⟩
  refine Subscript_ (thn (he.run pins s σ H _ I h) fun v s1 ⟨x, H1, I1, r1, q1⟩ => ?_)
  refine wpAny_Slice (thn (hl.run pins s1 σ H1 _ I1 q1) fun vl s2 ⟨l, H2, I2, pl, q2⟩ => thn (hu.run pins s2 σ H2 _ I2 q2) fun vu s3 ⟨u, H3, I3, pu, q3⟩ => ?_)
  rw [evalPart_some]
  refine wpAny_Constant_int ?_
  have I4 : Inv X pins σ H3 { s3 with heap := s3.heap.push { cls := .type "slice", data := .fields #[vl, vu, .int 2 s3.toks] }, toks := s3.toks + 1 } := I3.kept (t' := s3.toks + 1) fun b ob q => Heap.get?_push_of_some _ q
  obtain ⟨a, xs, rfl, hx, q⟩ := q3
  cases r1
  obtain ⟨its, r, ht, hz⟩ := I4.tuple hx
  show wpAny (model X.prog X.w) X.A (subscriptTail e (.Slice lo hi (some (.Constant (.int 2) j p3)) p2) (.ref a) (.ref s3.heap.objs.size)) (EP X pins σ Q) X.xe { s3 with heap := s3.heap.push { cls := .type "slice", data := .fields #[vl, vu, .int 2 s3.toks] }, toks := s3.toks + 1 }
  have hsz : its.toArray.size = xs.length := by rw [List.size_toArray]; exact r.length.symm
  refine tail_any (ops := [.ref a, .ref s3.heap.objs.size]) ht.typeIs PyProof.Rows.slot_tuple_getitem.lookup (getItem_tuple2 (vt := .int 2 s3.toks) ht (Heap.IsSliceOf.new ..) pl pu (.int 2 _) ?_ (by rw [hsz]; exact hz)) (by with_unfolding_all rfl)
  have e1 : Vals (MI.everyOther (cutV xs l u)) (MI.everyOther ((its.drop (HT.sIx its.toArray.size 0 l)).take (HT.sIx its.toArray.size its.toArray.size u - HT.sIx its.toArray.size 0 l))) := by
    rw [hsz]
    unfold cutV
    exact Vals.everyOther ((r.drop _).take _)
  refine ⟨.ref _, _, I4.laid (t' := s3.toks + 1) (o := .tup (MI.everyOther (cutV xs l u))) (fun b ob q => Heap.get?_push_of_some _ q) (Nat.le_refl _) ?_, rfl, q _ (I4.hok.fresh (Nat.le_refl _))⟩
  exact ⟨Nat.le_trans (everyOther_length _) (Nat.le_trans (cutV_length xs l u) hz), _, e1, IsTup.new _ _⟩
end
end MS

set_option Elab.async false
set_option linter.all false
set_option maxRecDepth 100000
set_option maxHeartbeats 4000000
/-! MSR3: sorted, max, min of a tuple of ints; tuple(list) whose object is known. -/
namespace MS
open PySem PySem.Spec PyProof.Rows L2
section
variable {prog : Program} {w : World} {A : Around} {E : Value → Shared → Prop} {s : Shared}
theorem collect_tuple {l : Addr} {vs : List Value} {Q : List Value → Shared → Prop} (hl : IsTup s.heap l vs.toArray)
    (h : Q vs { s with heap := (s.heap.push (seqObj "list" #[] 0)).update s.heap.objs.size (Obj.mapSeq (· ++ vs.toArray)) }) (hsz : vs.length ≤ sizeLine) :
    wpAny (model prog w) A (collect (.ref l)) Q E s := by
  obtain ⟨o, ho, hc, n, hd⟩ := id hl
  unfold collect
  refine wpAny_bind (wpAny_runValue (codeAny_builtin entry_proto_collect' ?_))
  show wpAny _ _ (do again (.builtin "list.__iadd__" ⟨[← newList [], .ref l], []⟩)) _ _ s
  refine wpAny_bind (wpAny_newList (wpAny_pure ⟨Code.quiet_builtin _ (by decide +kernel), codeAny_builtin entry_list_iadd' ?_⟩))
  show wpAny _ _ (Builtin.List.listExtendWith (.ref s.heap.objs.size) (.ref l) (.ref s.heap.objs.size)) _ _ { s with heap := s.heap.push (seqObj "list" #[] 0) }
  unfold Builtin.List.listExtendWith
  have ho' : (s.heap.push (seqObj "list" #[] 0)).get? l = some o := Heap.get?_push_of_some _ ho
  refine wpAny_bind (wpAny_typeOf (T := "tuple") ⟨o, ho', hc⟩ ?_)
  have ht : (Value.type "tuple" == Value.type "tuple") = true := by rfl
  rw [if_pos (by rw [ht]; simp)]
  refine wpAny_bind (listItems_at ho' hd ?_)
  refine wpAny_bind (listItems_at (xs := #[]) (n := 0) (Heap.get?_push_size _ rfl) rfl ?_)
  rw [if_neg (by simp)]
  refine wpAny_bind (listUpdate_at (xs := #[]) (n := 0) (Heap.get?_push_size _ rfl) rfl ?_ (Nat.zero_le _) (by show (#[] ++ vs.toArray).size ≤ sizeLine + 1; simp only [Array.size_append, List.size_toArray, List.length_nil]; omega))
  refine wpAny_pure ?_
  show wpAny (model prog w) A (do
      let o ← load s.heap.objs.size
      match o.data with
      | .seq xs _ => pure xs.toList
      | _ => unsupported "internal:collect") Q E { s with heap := (s.heap.push (seqObj "list" #[] 0)).update s.heap.objs.size (Obj.mapSeq (· ++ vs.toArray)) }
  refine wpAny_bind (wpAny_load (get?_update_seq (Heap.get?_push_size _ rfl) _) ?_)
  show wpAny _ _ (pure ((#[] : Array Value) ++ vs.toArray).toList) Q E _
  rw [show ((#[] : Array Value) ++ vs.toArray).toList = vs by simp]
  exact wpAny_pure h
theorem sorted_ordT {l : Addr} {vs : List Value} {ltv : Value → Value → Bool} {Q : Value → Shared → Prop} (O : SrtO.Swo ltv) (hl : IsTup s.heap l vs.toArray) (hz : vs.length ≤ sizeLine)
    (hS : 2 ≤ vs.length → ∀ (h₁ : Heap) (a : Addr), h₁.get? a = some (seqObj "list" vs.toArray 0) → (∀ b o, s.heap.get? b = some o → b ≠ a ∧ h₁.get? b = some o) → SrtO.SortableO prog w A.in1.in1 { s with heap := h₁ } a vs ltv)
    (h : ∀ out : List Value, SrtO.Srtd ltv out → SrtO.Stb ltv out vs → Q (.ref (s.heap.objs.size + 1)) { s with heap := sortedAll s.heap vs out.toArray }) :
    wpAny (model prog w) A (call (.builtin "sorted") [.ref l]) Q E s := by
  refine Calls.call_function_entry kind_sorted plain_sorted entry_sorted (args_sorted1 _) ?_
  unfold Builtin.«sorted»
  refine wpAny_bind (m := checkCount "sorted" 1 1 _) (wpAny_pure ?_)
  refine wpAny_bind (collect_tuple hl ?_ hz)
  refine wpAny_bind (wpAny_newList ?_ hz)
  have hsz : ((s.heap.push (seqObj "list" #[] 0)).update s.heap.objs.size (Obj.mapSeq (· ++ vs.toArray))).objs.size = s.heap.objs.size + 1 := by
    rw [Heap.size_update, size_push']
  have hoL : (((s.heap.push (seqObj "list" #[] 0)).update s.heap.objs.size (Obj.mapSeq (· ++ vs.toArray))).push (seqObj "list" vs.toArray 0)).get? (s.heap.objs.size + 1) = some (seqObj "list" vs.toArray 0) := by
    rw [← hsz]; exact Heap.get?_push_size _ rfl
  have keep : ∀ b o, s.heap.get? b = some o → b ≠ s.heap.objs.size + 1 ∧ (((s.heap.push (seqObj "list" #[] 0)).update s.heap.objs.size (Obj.mapSeq (· ++ vs.toArray))).push (seqObj "list" vs.toArray 0)).get? b = some o := fun b o q => by
    have hlt : b < s.heap.objs.size := Heap.lt_size q
    refine ⟨Nat.ne_of_lt (Nat.lt_succ_of_lt hlt), Heap.get?_push_of_some _ ?_⟩
    rw [Heap.get?_update_ne _ _ _ _ (Nat.ne_of_lt hlt)]
    exact Heap.get?_push_of_some _ q
  show wpAny _ _ _ _ _ { s with heap := ((s.heap.push (seqObj "list" #[] 0)).update s.heap.objs.size (Obj.mapSeq (· ++ vs.toArray))).push (seqObj "list" vs.toArray 0) }
  rw [hsz]
  refine wpAny_bind (wpAny_holding (wpAny_call_entry slot_list_sort ⟨_, hoL, rfl⟩ entry_list_sort (SrtO.list_sort_ord O hoL hz (fun h2 => hS h2 _ _ hoL keep) fun out hs hb => ⟨_, rfl, ?_⟩) (args_list_sort _)))
  exact wpAny_pure ⟨_, rfl, h out hs hb⟩
theorem iter_intTuple {l : Addr} {xs : Array (Int × Tok)} {Q : Value → Shared → Prop} (hl : s.heap.IsTuple l (intItems xs))
    (h : ∀ s₂ : Shared, s₂ = { s with heap := s.heap.push { cls := .type "tuple_iterator", data := .fields #[.ref l, .int 0 0] } } →
      (s₂.heap.IsTupleIter s.heap.objs.size l 0 ∧ s₂.heap.IsTuple l (intItems xs)) → (∀ b ∈ [s.heap.objs.size, l], b < s₂.heap.objs.size) → l ≠ s.heap.objs.size → Q (.ref s.heap.objs.size) s₂) :
    wpAny (model prog w) A (pyIter (.ref l)) Q E s := by
  have hlt : l < s.heap.objs.size := by obtain ⟨_, e, _⟩ := hl; exact Heap.lt_size e
  have hl2 : (s.heap.push { cls := .type "tuple_iterator", data := .fields #[.ref l, .int 0 0] }).IsTuple l (intItems xs) := by
    obtain ⟨o, e, r⟩ := hl
    exact ⟨o, Heap.get?_push_of_some _ e, r⟩
  refine wpAny_pyIter_tuple hl (h _ rfl ⟨⟨_, Heap.get?_push_size _ rfl, rfl, rfl⟩, hl2⟩ (fun b hb => ?_) (Nat.ne_of_lt hlt))
  show b < (s.heap.push _).objs.size
  rw [Heap.size_push]
  rcases List.mem_cons.mp hb with rfl | hb
  · exact Nat.lt_succ_self _
  · rcases List.mem_cons.mp hb with rfl | hb
    · exact Nat.lt_succ_of_lt hlt
    · cases hb
theorem old_keptT {l : Addr} {h' : Heap} (hk : ∀ b o, b ∉ [s.heap.objs.size] → (s.heap.push { cls := .type "tuple_iterator", data := .fields #[.ref l, .int 0 0] }).get? b = some o → h'.get? b = some o) :
    ∀ b o, s.heap.get? b = some o → h'.get? b = some o := fun b o e => by
  refine hk b o (fun hm => ?_) (Heap.get?_push_of_some _ e)
  rcases List.mem_cons.mp hm with e1 | hm
  · exact absurd (e1 ▸ Heap.lt_size e) (Nat.lt_irrefl _)
  · cases hm
theorem max_intTuple {l : Addr} {xs : Array (Int × Tok)} {Q : Value → Shared → Prop} (hh : A.handled = none) (hl : s.heap.IsTuple l (intItems xs)) (hne : 0 < xs.size)
    (h : ∀ v h' tk, (intItems xs)[argBest (fun i j => decide (numAt xs i > numAt xs j)) (xs.size - 1)]? = some v → (∀ b o, s.heap.get? b = some o → h'.get? b = some o) → Q v { s with heap := h', toks := tk }) :
    wpAny (model prog w) A (call (.builtin "max") [.ref l]) Q E s := by
  refine call_max_walk (iter_intTuple hl fun s₂ e st hfp hlI => ?_)
  subst e
  refine ⟨_, _, _, _, _, _, _, rfl, Walks.tuple (A := A.in1) hh _ l hlI (intItems xs), st, hfp, by simpa [intItems] using hne, CmpOf.ints_gt (numAt xs) (fun _ _ => intItems_at), fun v h' tk hP hk => ?_⟩
  exact h v h' tk (by simpa [intItems] using hP) (old_keptT hk)
theorem min_intTuple {l : Addr} {xs : Array (Int × Tok)} {Q : Value → Shared → Prop} (hh : A.handled = none) (hl : s.heap.IsTuple l (intItems xs)) (hne : 0 < xs.size)
    (h : ∀ v h' tk, (intItems xs)[argBest (fun i j => decide (numAt xs i < numAt xs j)) (xs.size - 1)]? = some v → (∀ b o, s.heap.get? b = some o → h'.get? b = some o) → Q v { s with heap := h', toks := tk }) :
    wpAny (model prog w) A (call (.builtin "min") [.ref l]) Q E s := by
  refine call_min_walk (iter_intTuple hl fun s₂ e st hfp hlI => ?_)
  subst e
  refine ⟨_, _, _, _, _, _, _, rfl, Walks.tuple (A := A.in1) hh _ l hlI (intItems xs), st, hfp, by simpa [intItems] using hne, CmpOf.ints_lt (numAt xs) (fun _ _ => intItems_at), fun v h' tk hP hk => ?_⟩
  exact h v h' tk (by simpa [intItems] using hP) (old_keptT hk)
theorem max_rawT {l : Addr} {its : List Value} {ns : List Int} {Q : Value → Shared → Prop} (hh : A.handled = none) (hl : s.heap.IsTuple l its.toArray) (hi : IntsAre its ns) (hne : 0 < ns.length)
    (h : ∀ h' tk M t', (∀ b o, s.heap.get? b = some o → h'.get? b = some o) → M ∈ ns → (∀ a, a ∈ ns → a ≤ M) → Q (.int M t') { s with heap := h', toks := tk }) : wpAny (model prog w) A (call (.builtin "max") [.ref l]) Q E s := by
  obtain ⟨xs, e⟩ := hi.allInts.items
  have hn : numsOf (intItems xs).toList = ns := by rw [← e]; exact hi.numsOf
  rw [nums_intItems] at hn
  subst hn
  rw [e] at hl
  have hsz : 0 < xs.size := by simpa using hne
  refine max_intTuple hh hl hsz fun v h' tk hv hk => ?_
  obtain ⟨t, rfl⟩ := intItems_at hv
  obtain ⟨h1, h2⟩ := argBest_gt (numAt xs) (xs.size - 1)
  refine h h' tk _ t hk ?_ fun a ha => ?_
  · rw [numAt_eq]; exact PySem.getD_mem (by rw [List.length_map, Array.length_toList]; omega)
  · obtain ⟨j, hj, rfl⟩ := mem_getD ha
    rw [List.length_map, Array.length_toList] at hj
    rw [← numAt_eq]; exact h2 j (by omega)
theorem min_rawT {l : Addr} {its : List Value} {ns : List Int} {Q : Value → Shared → Prop} (hh : A.handled = none) (hl : s.heap.IsTuple l its.toArray) (hi : IntsAre its ns) (hne : 0 < ns.length)
    (h : ∀ h' tk M t', (∀ b o, s.heap.get? b = some o → h'.get? b = some o) → M ∈ ns → (∀ a, a ∈ ns → M ≤ a) → Q (.int M t') { s with heap := h', toks := tk }) : wpAny (model prog w) A (call (.builtin "min") [.ref l]) Q E s := by
  obtain ⟨xs, e⟩ := hi.allInts.items
  have hn : numsOf (intItems xs).toList = ns := by rw [← e]; exact hi.numsOf
  rw [nums_intItems] at hn
  subst hn
  rw [e] at hl
  have hsz : 0 < xs.size := by simpa using hne
  refine min_intTuple hh hl hsz fun v h' tk hv hk => ?_
  obtain ⟨t, rfl⟩ := intItems_at hv
  obtain ⟨h1, h2⟩ := argBest_lt (numAt xs) (xs.size - 1)
  refine h h' tk _ t hk ?_ fun a ha => ?_
  · rw [numAt_eq]; exact PySem.getD_mem (by rw [List.length_map, Array.length_toList]; omega)
  · obtain ⟨j, hj, rfl⟩ := mem_getD ha
    rw [List.length_map, Array.length_toList] at hj
    rw [← numAt_eq]; exact h2 j (by omega)
end
section
variable {X : Cx}
theorem cr_sortedIT : CallR X (.builtin "sorted") (fun vs H Q => ∃ (a : Addr) (ns : List Int), vs = [V.ref a] ∧ SqT X.K H a (ns.map V.int) ∧ ∀ (ns' : List Int) (p : Addr), ns'.Perm ns → ns'.Pairwise (· ≤ ·) → H p = none → Q (.ref p) (upd H p (.lst (ns'.map V.int)))) := by
  intro pins s σ H vs us Q I r h
  obtain ⟨a, ns, rfl, hs, q⟩ := h
  obtain ⟨its, rv, hl, hz⟩ := I.tuple hs
  rw [Vals.ref1 r]
  have hi := rv.ints
  refine sorted_ordT SrtO.swo_int hl (by rw [← rv.length]; exact hz) (fun h2 h₁ a' _ _ => SrtO.ints_sortable hi h2) fun out h1 h2 => ?_
  obtain ⟨k1, k2, k3⟩ := SrtO.ints_out hi h1 h2
  obtain ⟨ep, he'⟩ := PyProof.Rows.sortedAll_at s.heap its out.toArray
  have hlen : ((out.map SrtO.iv).map V.int).length ≤ sizeLine := by
    rw [List.length_map, k2.length_eq]
    rw [List.length_map] at hz
    exact hz
  exact ⟨.ref _, upd H (s.heap.objs.size + 1) (.lst ((out.map SrtO.iv).map V.int)), I.laid (t' := s.toks) (fun _ _ => PyProof.Rows.sortedAll_old) (Nat.le_succ _) ⟨hlen, out, ep, vals_of_ints k1, he'⟩, rfl, q _ _ k2 k3 (I.hok.fresh (Nat.le_succ _))⟩
theorem cr_maxT (hc : X.calm = true) : CallR X (.builtin "max") (fun vs H Q => ∃ (a : Addr) (ns : List Int), vs = [V.ref a] ∧ SqT X.K H a (ns.map V.int) ∧ 0 < ns.length ∧ ∀ m, m ∈ ns → (∀ y, y ∈ ns → y ≤ m) → Q (.int m) H) := by
  intro pins s σ H vs us Q I r h
  obtain ⟨a, ns, rfl, hs, hne, q⟩ := h
  obtain ⟨its, rv, hl, _⟩ := I.tuple hs
  rw [Vals.ref1 r]
  exact max_rawT (I.ok.hd hc) hl rv.ints hne fun h' tk m t' hk h1 h2 => ⟨.int _, H, I.kept hk, ⟨_, rfl⟩, q m h1 h2⟩
theorem cr_minT (hc : X.calm = true) : CallR X (.builtin "min") (fun vs H Q => ∃ (a : Addr) (ns : List Int), vs = [V.ref a] ∧ SqT X.K H a (ns.map V.int) ∧ 0 < ns.length ∧ ∀ m, m ∈ ns → (∀ y, y ∈ ns → m ≤ y) → Q (.int m) H) := by
  intro pins s σ H vs us Q I r h
  obtain ⟨a, ns, rfl, hs, hne, q⟩ := h
  obtain ⟨its, rv, hl, _⟩ := I.tuple hs
  rw [Vals.ref1 r]
  exact min_rawT (I.ok.hd hc) hl rv.ints hne fun h' tk m t' hk h1 h2 => ⟨.int _, H, I.kept hk, ⟨_, rfl⟩, q m h1 h2⟩
/-- tuple(list): the new object is known -/
theorem call_tupleX : CallR X (.type "tuple") (fun xs H Q => ∃ p ys, xs = [.ref p] ∧ SqL X.K H p ys ∧ ∀ l o, H l = none → o.cls = .type "tuple" → o.dict = none → Q (.ref l) (upd H l (.frz o (.tup ys)))) := by
  intro pins s σ H xs us Q I r h
  obtain ⟨p, ys, rfl, hq, q⟩ := h
  obtain ⟨u, rfl, rx⟩ := vals1 r
  cases rx
  obtain ⟨its, r', pl, hz⟩ := I.list hq
  have hlen := r'.length
  refine call_tuple_list pl.isList (fun h' kp => ?_) (by simp only [List.size_toArray] <;> omega)
  have I1 : Inv X pins σ H { s with heap := h' } := I.kept (t' := s.toks) kp
  have hobj : (h'.push { cls := .type "tuple", data := .seq its.toArray }).get? h'.objs.size = some { cls := .type "tuple", data := .seq its.toArray } := Heap.get?_push_size _ rfl
  have I2 : Inv X pins σ (upd H h'.objs.size (.frz { cls := .type "tuple", data := .seq its.toArray } (.tup ys))) { s with heap := h'.push { cls := .type "tuple", data := .seq its.toArray } } :=
    I1.laid (t' := s.toks) (fun b o e => Heap.get?_push_of_some _ e) (Nat.le_refl _) (show ObjOk X.prog X.w _ _ _ (.frz _ (.tup ys)) from ⟨hobj, hz, its, r', IsTup.new _ _⟩)
  exact ⟨.ref h'.objs.size, _, I2, rfl, q _ _ (I1.hok.fresh (Nat.le_refl _)) rfl rfl⟩
end
end MS

set_option Elab.async false
set_option linter.all false
set_option maxRecDepth 100000
set_option maxHeartbeats 4000000
/-! MS2: expressions. -/
namespace MS
open PySem PySem.Spec PyProof.Rows L2 MI

/-- what is wanted where an exception (its class's number, its fields) leaves -/
abbrev EX := Nat → List (List Nat × D) → L2.St → List Addr → Hp → Stt → Prop
section
variable (K : PySem.W.Frag) (cl : Nat → Addr) (E : EX)
/-- m, run from st, ends, and what comes of it is enough for Q -/
def Rest {α β : Type} (rel : Hp → List Addr → β → α → Prop) (σ : L2.St) (Q : β → Hp → Prop) (m : MI.R α) (ρ : List Addr) (H : Hp) (st : Stt) : Prop :=
  (∃ d st', m st = some (.ok d, st') ∧ ∀ ρ' H' v, Grow ρ H ρ' H' → At K cl ρ' H' st' → rel H' ρ' v d → Q v H') ∨
  (∃ c fs st', m st = some (.exc c fs, st') ∧ ∀ ρ' H', Grow ρ H ρ' H' → At K cl ρ' H' st' → E c fs σ ρ' H' st')
def TM {α β : Type} (rel : Hp → List Addr → β → α → Prop) (g : MI.Env → MI.R α) : L2.St → Hp → (β → Hp → Prop) → Prop := fun σ H Q =>
  ∃ ρ env st, At K cl ρ H st ∧ RvE K H ρ σ env ∧ Rest K cl E rel σ Q (g env) ρ H st
end
section
variable {K : PySem.W.Frag} {cl : Nat → Addr} {E : EX} {α β γ δ : Type} {rel : Hp → List Addr → β → α → Prop} {rel' : Hp → List Addr → δ → γ → Prop} {σ : L2.St} {H H1 : Hp} {ρ ρ1 : List Addr} {st : Stt} {env : MI.Env}
theorem Rest.imp {Q Q' : β → Hp → Prop} {m : MI.R α} (h : Rest K cl E rel σ Q m ρ H st) (i : ∀ v H, Q v H → Q' v H) : Rest K cl E rel σ Q' m ρ H st := by
  rcases h with ⟨d, st', e, h⟩ | h
  · exact .inl ⟨d, st', e, fun ρ' H' v g A r => i _ _ (h ρ' H' v g A r)⟩
  · exact .inr h
theorem Rest.base {Q : β → Hp → Prop} {m : MI.R α} (h : Rest K cl E rel σ Q m ρ H st) (g : Grow ρ H ρ1 H1) : Rest K cl E rel σ Q m ρ1 H1 st := by
  rcases h with ⟨d, st', e, h⟩ | ⟨c, fs, st', e, h⟩
  · exact .inl ⟨d, st', e, fun ρ' H' v g' A r => h ρ' H' v (g.trans g') A r⟩
  · exact .inr ⟨c, fs, st', e, fun ρ' H' g' A => h ρ' H' (g.trans g') A⟩
theorem TM.imp {Q Q' : β → Hp → Prop} {g : MI.Env → MI.R α} (h : TM K cl E rel g σ H Q) (i : ∀ v H, Q v H → Q' v H) : TM K cl E rel g σ H Q' := by
  obtain ⟨ρ, env, st, A, e, h⟩ := h
  exact ⟨ρ, env, st, A, e, h.imp i⟩
/-- one step, then the rest -/
theorem Rest.step {Q : δ → Hp → Prop} {g : MI.Env → MI.R α} {f : α → MI.R γ} (rel : Hp → List Addr → β → α → Prop) (A : At K cl ρ H st) (e : RvE K H ρ σ env) (h : Rest K cl E rel' σ Q (bnd (g env) f) ρ H st) :
    TM K cl E rel g σ H (fun v1 H1 => ∃ ρ1 st1 d1, Grow ρ H ρ1 H1 ∧ At K cl ρ1 H1 st1 ∧ rel H1 ρ1 v1 d1 ∧ Rest K cl E rel' σ Q (f d1) ρ1 H1 st1) := by
  refine ⟨ρ, env, st, A, e, ?_⟩
  have run : ∀ r, bnd (g env) f st = some r → (∃ d st1, g env st = some (.ok d, st1) ∧ f d st1 = some r) ∨ ∃ c fs st1, g env st = some (.exc c fs, st1) ∧ r = (.exc c fs, st1) := fun r hr => by
    unfold bnd at hr
    cases q : g env st with
    | none => rw [q] at hr; cases hr
    | some p =>
      obtain ⟨rs, st1⟩ := p
      rw [q] at hr
      cases rs with
      | ok d => exact .inl ⟨d, st1, rfl, hr⟩
      | exc c fs => exact .inr ⟨c, fs, st1, rfl, (Option.some.inj hr).symm⟩
  rcases h with ⟨d, st', hr, h⟩ | ⟨c, fs, st', hr, h⟩
  · rcases run _ hr with ⟨d1, st1, q1, q2⟩ | ⟨c, fs, st1, q1, q2⟩
    · exact .inl ⟨d1, st1, q1, fun ρ1 H1 v1 g1 A1 r1 => ⟨ρ1, st1, d1, g1, A1, r1, .inl ⟨d, st', q2, fun ρ' H' v g' A' r => h ρ' H' v (g1.trans g') A' r⟩⟩⟩
    · cases q2
  · rcases run _ hr with ⟨d1, st1, q1, q2⟩ | ⟨c, fs, st1, q1, q2⟩
    · exact .inl ⟨d1, st1, q1, fun ρ1 H1 v1 g1 A1 r1 => ⟨ρ1, st1, d1, g1, A1, r1, .inr ⟨c, fs, st', q2, fun ρ' H' g' A' => h ρ' H' (g1.trans g') A'⟩⟩⟩
    · cases q2
      exact .inr ⟨_, _, _, q1, h⟩
/-- done: a value -/
theorem Rest.ok {Q : β → Hp → Prop} {m : MI.R α} {d : α} {st' : Stt} {v : β} (h : Rest K cl E rel σ Q m ρ H st) (q : m st = some (.ok d, st')) (g : Grow ρ H ρ1 H1) (A : At K cl ρ1 H1 st') (r : rel H1 ρ1 v d) : Q v H1 := by
  rcases h with ⟨d', st2, e, h⟩ | ⟨c, fs, st2, e, h⟩
  · rw [q] at e
    cases e
    exact h _ _ _ g A r
  · rw [q] at e; cases e
theorem Rest.none {Q : β → Hp → Prop} {m : MI.R α} {P : Prop} (h : Rest K cl E rel σ Q m ρ H st) (q : m st = Option.none) : P := by
  rcases h with ⟨d', st2, e, h⟩ | ⟨c, fs, st2, e, h⟩ <;> (rw [q] at e; cases e)
theorem Rest.eq {Q : β → Hp → Prop} {m m' : MI.R α} (h : Rest K cl E rel σ Q m ρ H st) (q : m st = m' st) : Rest K cl E rel σ Q m' ρ H st := by
  rcases h with ⟨d', st2, e, h⟩ | ⟨c, fs, st2, e, h⟩
  · exact .inl ⟨d', st2, q.symm.trans e, h⟩
  · exact .inr ⟨c, fs, st2, q.symm.trans e, h⟩
end

theorem peI {X : Cx} {e : Expr} {t t' : TE} (h : PE X e t) (i : ∀ σ H Q, t' σ H Q → t σ H Q) : PE X e t' := ⟨fun pins s σ H Q I q => h.run pins s σ H Q I (i σ H Q q)⟩
theorem ptI {X : Cx} {e : Expr} {t t' : TT} (h : PT X e t) (i : ∀ σ H Q, t' σ H Q → t σ H Q) : PT X e t' := ⟨fun pins s σ H Q I q => h.run pins s σ H Q I (i σ H Q q)⟩
theorem pwI {X : Cx} {e : Expr} {t t' : TT} (h : PW X e t) (i : ∀ σ H Q, t' σ H Q → t σ H Q) : PW X e t' := ⟨fun w pins s σ H Q I q => h.run w pins s σ H Q I (i σ H Q q)⟩
theorem paI {X : Cx} {e : List Expr} {t t' : TA} (h : PA X e t) (i : ∀ σ H Q, t' σ H Q → t σ H Q) : PA X e t' := ⟨fun p pins s σ H Q I q => h.run p pins s σ H Q I (i σ H Q q)⟩

/-- the relations of a value, a test, a list, an optional int -/
abbrev rV (K : PySem.W.Frag) : Hp → List Addr → V → D → Prop := fun H ρ => Rv K H ρ
abbrev rB : Hp → List Addr → Bool → Bool → Prop := fun _ _ a b => a = b
abbrev rL (K : PySem.W.Frag) : Hp → List Addr → List V → List D → Prop := fun H ρ => RvL K H ρ
abbrev rO : Hp → List Addr → Option Int → Option Int → Prop := fun _ _ a b => a = b

section
variable (X : Cx) (cl : Nat → Addr) (E : EX) (c : MI.Ctx)
abbrev ME (e : Expr) (g : SE) : Prop := PE X e (TM X.K cl E (rV X.K) (g c))
abbrev MT (e : Expr) (g : MI.ST) : Prop := PT X e (TM X.K cl E rB (g c))
abbrev MW (e : Expr) (g : MI.ST) : Prop := PW X e (TM X.K cl E rB (g c))
abbrev MA (es : List Expr) (g : SL) : Prop := PA X es (TM X.K cl E (rL X.K) (g c))
end
/-- a two-place operation -/
def OpS (K : PySem.W.Frag) (cl : Nat → Addr) (E : EX) (f : D → D → MI.R D) (r : R2) : Prop := ∀ {σ : L2.St} {Q : VK} {ρ : List Addr} {H : Hp} {st : Stt} {v1 v2 : V} {d1 d2 : D}, At K cl ρ H st → Rv K H ρ v1 d1 → Rv K H ρ v2 d2 →
  Rest K cl E (rV K) σ Q (f d1 d2) ρ H st → r v1 v2 H Q
def UnS (K : PySem.W.Frag) (cl : Nat → Addr) (E : EX) (f : D → MI.R D) (r : V → Hp → VK → Prop) : Prop := ∀ {σ : L2.St} {Q : VK} {ρ : List Addr} {H : Hp} {st : Stt} {v1 : V} {d1 : D}, At K cl ρ H st → Rv K H ρ v1 d1 →
  Rest K cl E (rV K) σ Q (f d1) ρ H st → r v1 H Q

section
variable {X : Cx} {cl : Nat → Addr} {E : EX} {c : MI.Ctx} {a b e : Expr} {ga gb : SE} {pos : Pos}
theorem tm_op {f : D → D → MI.R D} {r : R2} (hs : OpS X.K cl E f r) {σ : L2.St} {H : Hp} {Q : VK} (h : TM X.K cl E (rV X.K) (eBin f ga gb c) σ H Q) :
    tOp r (TM X.K cl E (rV X.K) (ga c)) (TM X.K cl E (rV X.K) (gb c)) σ H Q := by
  obtain ⟨ρ, env, st, A, e, h⟩ := h
  refine (Rest.step (g := ga c) (rV X.K) A e h).imp fun v1 H1 ⟨ρ1, st1, d1, g1, A1, r1, h1⟩ => ?_
  refine (Rest.step (g := gb c) (rV X.K) A1 (e.grow A g1) h1).imp fun v2 H2 ⟨ρ2, st2, d2, g2, A2, r2, h2⟩ => ?_
  exact hs A2 (r1.grow A1 g2) r2 h2
theorem me_bin {op : Operator} {f : D → D → MI.R D} {r : R2} (ho : OpR X (binaryOp op) r) (hs : OpS X.K cl E f r) (ha : ME X cl E c a ga) (hb : ME X cl E c b gb) : ME X cl E c (.BinOp a op b pos) (eBin f ga gb) :=
  peI (pe_op ho ha hb) fun _ _ _ h => tm_op hs h
theorem me_cmp {op : CmpOp} {f : D → D → MI.R D} {r : R2} (ho : OpR X (compareOp op) r) (hs : OpS X.K cl E f r) (ha : ME X cl E c a ga) (hb : ME X cl E c b gb) (hm : behindInMarks op b = false) : ME X cl E c (.Compare a [op] [b] pos) (eBin f ga gb) :=
  peI (pe_cmpR ho ha hb hm) fun _ _ _ h => tm_op hs h
theorem tm_un {f : D → MI.R D} {r : V → Hp → VK → Prop} (hs : UnS X.K cl E f r) {σ : L2.St} {H : Hp} {Q : VK} (h : TM X.K cl E (rV X.K) (eUn f ga c) σ H Q) :
    TM X.K cl E (rV X.K) (ga c) σ H fun x H1 => r x H1 Q := by
  obtain ⟨ρ, env, st, A, e, h⟩ := h
  refine (Rest.step (g := ga c) (rV X.K) A e h).imp fun v1 H1 ⟨ρ1, st1, d1, g1, A1, r1, h1⟩ => ?_
  exact hs A1 r1 h1
theorem me_un {op : UnaryOp} {f : D → MI.R D} {r : V → Hp → VK → Prop} (ho : UnR X (unaryOp op) r) (hs : UnS X.K cl E f r) (ha : ME X cl E c a ga) : ME X cl E c (.UnaryOp op a pos) (eUn f ga) :=
  peI (pe_un ho ha) fun _ _ _ h => tm_un hs h

/-! ### names, constants -/
theorem me_var (i : Nat) {x : Str} (hN : X.N[i]? = some x := by rfl) (hv : Vis X.env.scope x := by first | exact Or.inl rfl | exact Or.inr (Or.inl rfl) | exact Or.inr (Or.inr rfl)) (hd : (x == ("__debug__" : Str)) = false := by decide)
    (hcd : (x == ("__classdict__" : Str)) = false := by decide) : ME X cl E c (.Name x pos) (eVar i) :=
  peI (pe_var hN hv hd hcd) fun σ H Q h => by
    obtain ⟨ρ, env, st, A, e, h⟩ := h
    cases q : env[i]? with
    | none => exact h.none (by simp [eVar, q])
    | some o =>
      cases o with
      | none => exact h.none (by simp [eVar, q])
      | some d =>
        obtain ⟨v, hv, r⟩ := e.get q
        exact ⟨v, hv, h.ok (st' := st) (d := d) (by simp [eVar, q]) .refl A r⟩
theorem tm_c {d : D} {v : V} {σ : L2.St} {H : Hp} {Q : VK} (hr : ∀ H ρ, Rv X.K H ρ v d) (h : TM X.K cl E (rV X.K) (eC d c) σ H Q) : Q v H := by
  obtain ⟨ρ, env, st, A, e, h⟩ := h
  exact h.ok (st' := st) (d := d) rfl .refl A (hr _ _)
theorem me_int {i : Int} {j : Nat} : ME X cl E c (.Constant (.int i) j pos) (eC (.int i)) := peI pe_int fun _ _ _ h => tm_c (fun _ _ => .int i) h
theorem me_bl {b : Bool} {j : Nat} : ME X cl E c (.Constant (.bool b) j pos) (eC (.bl b)) := peI pe_bl fun _ _ _ h => tm_c (fun _ _ => .bl b) h
theorem me_non {j : Nat} : ME X cl E c (.Constant .none j pos) (eC .non) := peI pe_non fun _ _ _ h => tm_c (fun _ _ => .non) h
theorem me_str {x : Str} {j : Nat} (s : List Nat) (hx : x = sD s := by decide +kernel) : ME X cl E c (.Constant (.str x) j pos) (eC (.str s)) := by
  subst hx
  exact peI pe_str fun _ _ _ h => tm_c (fun _ _ => .str s) h
/-- a constant of the module -/
theorem me_glob {x : Str} {d : D} {v : V} {u : Value} (hg : Gl X x) (hm : X.mg x = some u) (r : RelV v u) (hr : ∀ H ρ, Rv X.K H ρ v d) (hd : (x == ("__debug__" : Str)) = false := by decide) : ME X cl E c (.Name x pos) (eC d) :=
  peI (pe_glob hg hm r hd) fun _ _ _ h => tm_c hr h

/-! ### argument lists, displays -/
theorem ma_nil : MA X cl E c [] lNil := paI pa_nil fun σ H Q h => by
  obtain ⟨ρ, env, st, A, e, h⟩ := h
  exact h.ok (st' := st) (d := []) rfl .refl A .nil
theorem ma_cons {es : List Expr} {gl : SL} (ha : ME X cl E c e ga) (hr : MA X cl E c es gl) (hs : starEach (e :: es) X.env = (false, eval e X.env) :: starEach es X.env := by rfl) : MA X cl E c (e :: es) (lCons ga gl) :=
  paI (pa_cons ha hr hs) fun σ H Q h => by
    obtain ⟨ρ, env, st, A, e, h⟩ := h
    refine (Rest.step (g := ga c) (rV X.K) A e h).imp fun v1 H1 ⟨ρ1, st1, d1, g1, A1, r1, h1⟩ => ?_
    refine (Rest.step (g := gl c) (rL X.K) A1 (e.grow A g1) h1).imp fun v2 H2 ⟨ρ2, st2, d2, g2, A2, r2, h2⟩ => ?_
    exact h2.ok (st' := st2) (d := d1 :: d2) rfl .refl A2 (.cons (r1.grow A1 g2) r2)
theorem lim_size {n : Nat} (h : n < lim) : n ≤ sizeLine := by rw [sizeLine_eq]; exact Nat.le_of_lt h
/-- a new tuple of known items -/
theorem rest_tup {K : PySem.W.Frag} {σ : L2.St} {Q : VK} {m : MI.R D} {ρ : List Addr} {H : Hp} {st : Stt} {vs : List V} {ds : List D} (A : At K cl ρ H st) (r : RvL K H ρ vs ds) (h : Rest K cl E (rV K) σ Q m ρ H st)
    (e : m st = some (.ok (.tup ds), st)) (p : Addr) (n : H p = none) : Q (.ref p) (upd H p (.tup vs)) := by
  obtain ⟨A', g⟩ := A.side (o := .tup vs) n
  exact h.ok e g A' (.tup (SqT.of upd_same) (r.grow A g))
theorem rest_lst {K : PySem.W.Frag} {σ : L2.St} {Q : VK} {m : MI.R D} {ρ : List Addr} {H : Hp} {st : Stt} {vs : List V} {ds : List D} (A : At K cl ρ H st) (r : RvL K H ρ vs ds) (h : Rest K cl E (rV K) σ Q m ρ H st)
    (e : m st = some (.ok (.loc st.length), st ++ [.lst ds])) (p : Addr) (n : H p = none) : Q (.ref p) (upd H p (.lst vs)) := by
  obtain ⟨_, g0⟩ := A.side (o := .lst vs) n
  have k : Keep K H (upd H p (.lst vs)) := A.keep g0
  obtain ⟨A', g⟩ := A.push (o := .lst vs) (ob := .lst ds) n (.lst upd_same (r.keep k [p]))
  exact h.ok e g A' (.loc (by rw [← A.len]; simp))
theorem me_tup {es : List Expr} {gl : SL} {x1} (h : MA X cl E c es gl) : ME X cl E c (.Tuple es x1 pos) (eTup gl) :=
  peI (pe_tup h) fun σ H Q h => by
    obtain ⟨ρ, env, st, A, e, h⟩ := h
    refine (Rest.step (g := gl c) (rL X.K) A e h).imp fun vs H1 ⟨ρ1, st1, ds, g1, A1, r1, h1⟩ => ?_
    by_cases hl : ds.length < lim
    · rw [if_pos hl] at h1
      exact ⟨by rw [r1.length]; exact lim_size hl, rest_tup A1 r1 h1 rfl⟩
    · rw [if_neg hl] at h1; exact h1.none rfl
theorem me_lst {es : List Expr} {gl : SL} (h : MA X cl E c es gl) : ME X cl E c (.List es pos) (eLst gl) :=
  peI (pe_lst h) fun σ H Q h => by
    obtain ⟨ρ, env, st, A, e, h⟩ := h
    refine (Rest.step (g := gl c) (rL X.K) A e h).imp fun vs H1 ⟨ρ1, st1, ds, g1, A1, r1, h1⟩ => ?_
    by_cases hl : ds.length < lim
    · rw [if_pos hl] at h1
      exact ⟨by rw [r1.length]; exact lim_size hl, rest_lst A1 r1 h1 rfl⟩
    · rw [if_neg hl] at h1; exact h1.none rfl

/-! ### lists that nobody changes -/
/-- Q, or Q once the new list is locked -/
def fz (Q : VK) : VK := fun v H1 => Q v H1 ∨ ∃ a vs, v = .ref a ∧ H1 a = some (.lst vs) ∧ ∀ od, Q v (upd H1 a (.frz od (.lst vs)))
theorem ep_fz {pins : List (Addr × Obj)} {σ : L2.St} {Q : VK} {u : Value} {s : Shared} (h : EP X pins σ (fz Q) u s) : EP X pins σ Q u s := by
  obtain ⟨v, H1, I, r, q | ⟨a, vs, rfl, hl, q⟩⟩ := h
  · exact ⟨v, H1, I, r, q⟩
  · obtain ⟨od, I'⟩ := I.lock hl trivial
    exact ⟨_, _, I', r, q od⟩
theorem pe_fz {t : TE} (h : PE X e t) : PE X e (fun σ H Q => t σ H (fz Q)) := ⟨fun pins s σ H Q I q => thn (h.run pins s σ H _ I q) fun u s1 z => ep_fz z⟩
def CallR.fz {f : Value} {r : List V → Hp → VK → Prop} (h : CallR X f r) : CallR X f (fun xs H Q => r xs H (MS.fz Q)) := fun pins s σ H xs us Q I rs q => thn (h pins s σ H xs us _ I rs q) fun u s1 z => ep_fz z
theorem rest_frz {K : PySem.W.Frag} {σ : L2.St} {Q : VK} {m : MI.R D} {ρ : List Addr} {H : Hp} {st : Stt} {vs : List V} {ds : List D} (A : At K cl ρ H st) (r : RvL K H ρ vs ds) (h : Rest K cl E (rV K) σ Q m ρ H st)
    (e : m st = some (.ok (.frz ds), st)) (p : Addr) (n : H p = none) : fz Q (.ref p) (upd H p (.lst vs)) := by
  refine .inr ⟨p, vs, rfl, upd_same, fun od => ?_⟩
  rw [L2.upd_upd]
  obtain ⟨A', g⟩ := A.side (o := .frz od (.lst vs)) n
  exact h.ok e g A' (.frz (.inl ⟨od, upd_same⟩) (r.grow A g))
theorem me_lstF {es : List Expr} {gl : SL} (h : MA X cl E c es gl) : ME X cl E c (.List es pos) (eLstF gl) :=
  peI (pe_fz (pe_lst h)) fun σ H Q h => by
    obtain ⟨ρ, env, st, A, e, h⟩ := h
    refine (Rest.step (g := gl c) (rL X.K) A e h).imp fun vs H1 ⟨ρ1, st1, ds, g1, A1, r1, h1⟩ => ?_
    by_cases hl : ds.length < lim
    · rw [if_pos hl] at h1
      exact ⟨by rw [r1.length]; exact lim_size hl, rest_frz A1 r1 h1 rfl⟩
    · rw [if_neg hl] at h1; exact h1.none rfl

/-! ### tests -/
theorem tm_b {σ : L2.St} {H : Hp} {Q : Bool → Hp → Prop} {t : TE} (ht : t = TM X.K cl E (rV X.K) (ga c)) (h : TM X.K cl E rB (cB ga c) σ H Q) : t σ H fun x H1 => ∃ k, x = .bl k ∧ Q k H1 := by
  subst ht
  obtain ⟨ρ, env, st, A, e, h⟩ := h
  refine (Rest.step (g := ga c) (rV X.K) A e h).imp fun v1 H1 ⟨ρ1, st1, d1, g1, A1, r1, h1⟩ => ?_
  cases r1 with
  | bl k => exact ⟨k, rfl, h1.ok (st' := st1) (d := k) rfl .refl A1 rfl⟩
  | _ => exact h1.none rfl
theorem mt_cmp {op : CmpOp} {f : D → D → MI.R D} {r : R2} (ho : OpR X (compareOp op) r) (hs : OpS X.K cl E f r) (ha : ME X cl E c a ga) (hb : ME X cl E c b gb) (hm : behindInMarks op b = false) : MT X cl E c (.Compare a [op] [b] pos) (cB (eBin f ga gb)) :=
  ptI (pt_cmpR ho ha hb hm) fun σ H Q h => tm_op hs (Q := fun x H' => ∃ k, x = .bl k ∧ Q k H') (tm_b (ga := eBin f ga gb) rfl h)
theorem mt_val (h : ME X cl E c e ga) (he : ∀ whole, isTrue e X.env whole = (do let v ← whole; standAt e.pos; holding [v] (truthy v)) := by intro _; rfl) : MT X cl E c e (cB ga) :=
  ptI (pt_val h he) fun σ H Q h => tm_b rfl h
theorem mt_not {t : MI.ST} (h : MT X cl E c e t) : MT X cl E c (.UnaryOp .Not e pos) (cNot t) :=
  ptI (pt_not h) fun σ H Q h => by
    obtain ⟨ρ, env, st, A, e, h⟩ := h
    refine (Rest.step (g := t c) rB A e h).imp fun v1 H1 ⟨ρ1, st1, d1, g1, A1, r1, h1⟩ => ?_
    have r1' : v1 = d1 := r1
    subst r1'
    exact h1.ok (st' := st1) (d := !v1) rfl .refl A1 rfl
variable {rest : List Expr} {ta tb : MI.ST}
theorem mw_and1 (h : MT X cl E c a ta) : MW X cl E c (.BoolOp .And [a] pos) ta := pw_and1 h
theorem mw_or1 (h : MT X cl E c a ta) : MW X cl E c (.BoolOp .Or [a] pos) ta := pw_or1 h
theorem mw_and (ha : MT X cl E c a ta) (hb : MW X cl E c (.BoolOp .And (b :: rest) pos) tb) : MW X cl E c (.BoolOp .And (a :: b :: rest) pos) (cAnd ta tb) :=
  pwI (pw_and ha hb) fun σ H Q h => by
    obtain ⟨ρ, env, st, A, e, h⟩ := h
    refine (Rest.step (g := ta c) rB A e h).imp fun v1 H1 ⟨ρ1, st1, d1, g1, A1, r1, h1⟩ => ?_
    have r1' : v1 = d1 := r1
    subst r1'
    cases v1 with
    | true => exact iteT ⟨ρ1, env, st1, A1, e.grow A g1, h1⟩
    | false => exact iteF (h1.ok (st' := st1) (d := false) rfl .refl A1 rfl)
theorem mw_or (ha : MT X cl E c a ta) (hb : MW X cl E c (.BoolOp .Or (b :: rest) pos) tb) : MW X cl E c (.BoolOp .Or (a :: b :: rest) pos) (cOr ta tb) :=
  pwI (pw_or ha hb) fun σ H Q h => by
    obtain ⟨ρ, env, st, A, e, h⟩ := h
    refine (Rest.step (g := ta c) rB A e h).imp fun v1 H1 ⟨ρ1, st1, d1, g1, A1, r1, h1⟩ => ?_
    have r1' : v1 = d1 := r1
    subst r1'
    cases v1 with
    | true => exact iteT (h1.ok (st' := st1) (d := true) rfl .refl A1 rfl)
    | false => exact iteF ⟨ρ1, env, st1, A1, e.grow A g1, h1⟩
theorem mt_bool (h : MW X cl E c e ta) : MT X cl E c e ta := PW.pt h
theorem me_if {t : MI.ST} (ht : MT X cl E c e t) (ha : ME X cl E c a ga) (hb : ME X cl E c b gb) : ME X cl E c (.IfExp e a b pos) (eIf t ga gb) :=
  peI (pe_ifExp ht ha hb) fun σ H Q h => by
    obtain ⟨ρ, env, st, A, e, h⟩ := h
    refine (Rest.step (g := t c) rB A e h).imp fun v1 H1 ⟨ρ1, st1, d1, g1, A1, r1, h1⟩ => ?_
    have r1' : v1 = d1 := r1
    subst r1'
    cases v1 with
    | true => exact iteT ⟨ρ1, env, st1, A1, e.grow A g1, h1⟩
    | false => exact iteF ⟨ρ1, env, st1, A1, e.grow A g1, h1⟩
end
end MS

set_option Elab.async false
set_option linter.all false
set_option maxRecDepth 100000
set_option maxHeartbeats 4000000
/-! MS3: operators. -/
namespace MS
open PySem PySem.Spec PyProof.Rows L2 MI

/-! ### data as the library has it -/
mutual
def toPy : D → PyData
  | .non => .none
  | .bl b => .bool b
  | .int i => .int i
  | .str s => .str (sD s)
  | .tup l => .tuple (toPys l)
  | .loc _ => .none
  | .frz l => .list (toPys l)
  | .xtup l => .tuple (toPys l)
def toPys : List D → List PyData
  | [] => []
  | x :: xs => toPy x :: toPys xs
end
theorem toPys_map : ∀ l : List D, toPys l = l.map toPy
  | [] => rfl
  | x :: xs => by simp [toPys, toPys_map xs]
section
variable {K : PySem.W.Frag} {cl : Nat → Addr} {E : EX} {σ : L2.St} {ρ : List Addr} {H : Hp} {st : Stt}
mutual
theorem dp_of : ∀ (n : Nat) (d : D) (v : V), D.ok n d = true → Rv K H ρ v d → Dp K H v (toPy d)
  | _, .non, _, _, r => by cases r; exact .non
  | _, .bl b, _, _, r => by cases r; exact .bl b
  | _, .int i, _, _, r => by cases r; exact .int i
  | _, .str s, _, _, r => by cases r; exact .str _
  | 0, .tup _, _, h, _ => by simp [D.ok] at h
  | n + 1, .tup l, _, h, r => by
    cases r with
    | tup hs rl =>
      have h' : D.okL n l = true := by
        have h2 : (decide (l.length < lim) && D.okL n l) = true := by rw [D.ok] at h; exact h
        exact (Bool.and_eq_true_iff.mp h2).2
      exact .tup hs (dpL_of n l _ h' rl)
  | 0, .xtup _, _, h, _ => by simp [D.ok] at h
  | n + 1, .xtup l, _, h, r => by
    cases r with
    | xtup hs rl =>
      have h' : D.okL n l = true := by
        have h2 : (decide (l.length < lim) && D.okL n l) = true := by rw [D.ok] at h; exact h
        exact (Bool.and_eq_true_iff.mp h2).2
      exact .tup hs.seq (dpL_of n l _ h' rl)
  | _, .loc _, _, h, _ => by simp [D.ok] at h
  | 0, .frz _, _, h, _ => by simp [D.ok] at h
  | n + 1, .frz l, _, h, r => by
    cases r with
    | frz hs rl =>
      have h' : D.okL n l = true := by
        have h2 : (decide (l.length < lim) && D.okL n l) = true := by rw [D.ok] at h; exact h
        exact (Bool.and_eq_true_iff.mp h2).2
      exact .lst hs.seq (dpL_of n l _ h' rl)
theorem dpL_of : ∀ (n : Nat) (l : List D) (vs : List V), D.okL n l = true → RvL K H ρ vs l → DpAll K H vs (toPys l)
  | _, [], _, _, r => by cases r; exact .nil
  | n, x :: xs, _, h, r => by
    cases r with
    | cons r1 r2 =>
      have h2 : D.ok n x = true ∧ D.okL n xs = true := by rw [D.okL] at h; exact Bool.and_eq_true_iff.mp h
      exact .cons (dp_of n x _ h2.1 r1) (dpL_of n xs _ h2.2 r2)
end
end
mutual
theorem lay_of : ∀ (n : Nat) (d : D), D.ok n d = true → (toPy d).canLay0 = true ∧ (toPy d).depth ≤ n
  | _, .non, _ => by simp [toPy, PyData.canLay0, PyData.depth]
  | _, .bl b, _ => by simp [toPy, PyData.canLay0, PyData.depth]
  | _, .int i, _ => by simp [toPy, PyData.canLay0, PyData.depth]
  | _, .str s, h => by
    have h' : s.all (· < 1114112) = true := by simpa [D.ok] using h
    refine ⟨?_, by simp [toPy, PyData.depth]⟩
    simp only [toPy, PyData.canLay0, PyData.strOk]
    simpa using h'
  | 0, .tup _, h => by simp [D.ok] at h
  | n + 1, .tup l, h => by
    have h' : D.okL n l = true := by
      have h2 : (decide (l.length < lim) && D.okL n l) = true := by rw [D.ok] at h; exact h
      exact (Bool.and_eq_true_iff.mp h2).2
    obtain ⟨a, b⟩ := layL_of n l h'
    exact ⟨by simpa [toPy, PyData.canLay0] using a, by simp only [toPy, PyData.depth]; omega⟩
  | 0, .xtup _, h => by simp [D.ok] at h
  | n + 1, .xtup l, h => by
    have h' : D.okL n l = true := by
      have h2 : (decide (l.length < lim) && D.okL n l) = true := by rw [D.ok] at h; exact h
      exact (Bool.and_eq_true_iff.mp h2).2
    obtain ⟨a, b⟩ := layL_of n l h'
    exact ⟨by simpa [toPy, PyData.canLay0] using a, by simp only [toPy, PyData.depth]; omega⟩
  | _, .loc _, h => by simp [D.ok] at h
  | 0, .frz _, h => by simp [D.ok] at h
  | n + 1, .frz l, h => by
    have h' : D.okL n l = true := by
      have h2 : (decide (l.length < lim) && D.okL n l) = true := by rw [D.ok] at h; exact h
      exact (Bool.and_eq_true_iff.mp h2).2
    obtain ⟨a, b⟩ := layL_of n l h'
    exact ⟨by simpa [toPy, PyData.canLay0] using a, by simp only [toPy, PyData.depth]; omega⟩
theorem layL_of : ∀ (n : Nat) (l : List D), D.okL n l = true → PyData.canLayAll0 (toPys l) = true ∧ PyData.depthAll (toPys l) ≤ n
  | _, [], _ => by simp [toPys, PyData.canLayAll0, PyData.depthAll]
  | n, x :: xs, h => by
    have h2 : D.ok n x = true ∧ D.okL n xs = true := by rw [D.okL] at h; exact Bool.and_eq_true_iff.mp h
    obtain ⟨a, b⟩ := lay_of n x h2.1
    obtain ⟨a', b'⟩ := layL_of n xs h2.2
    exact ⟨by simp [toPys, PyData.canLayAll0, a, a'], by simp only [toPys, PyData.depthAll]; omega⟩
end
theorem shaped_of {n : Nat} {d : D} (h : D.ok n d = true) (hn : n ≤ 60) : SeqAt.shaped (toPy d) = true := by
  obtain ⟨a, b⟩ := lay_of n d h
  exact Bool.and_eq_true_iff.mpr ⟨a, decide_eq_true (by omega)⟩
theorem shapedT_of {n : Nat} {l : List D} (h : D.okL n l = true) (hn : n ≤ 60) : SeqAt.shaped (.tuple (toPys l)) = true := by
  obtain ⟨a, b⟩ := layL_of n l h
  exact Bool.and_eq_true_iff.mpr ⟨by simpa [PyData.canLay0] using a, decide_eq_true (by simp only [PyData.depth]; omega)⟩
theorem shapedL_of {n : Nat} {l : List D} (h : D.okL n l = true) (hn : n ≤ 60) : SeqAt.shaped (.list (toPys l)) = true := by
  obtain ⟨a, b⟩ := layL_of n l h
  exact Bool.and_eq_true_iff.mpr ⟨by simpa [PyData.canLay0] using a, decide_eq_true (by simp only [PyData.depth]; omega)⟩
theorem sD_beq (s t : List Nat) : (sD s == sD t) = (s == t) := by
  by_cases e : s = t
  · subst e; simp
  · rw [beq_eq_false_iff_ne.mpr (fun q => e (sD_inj q)), beq_eq_false_iff_ne.mpr e]
mutual
theorem eqv_of : ∀ (n m : Nat) (x y : D), D.ok n x = true → D.ok m y = true → PyData.eqv (toPy x) (toPy y) = D.eqv x y
  | n, m, .tup l, .tup k, hx, hy => by
    cases n with
    | zero => simp [D.ok] at hx
    | succ n =>
      cases m with
      | zero => simp [D.ok] at hy
      | succ m =>
        have h1 : (decide (l.length < lim) && D.okL n l) = true := by rw [D.ok] at hx; exact hx
        have h2 : (decide (k.length < lim) && D.okL m k) = true := by rw [D.ok] at hy; exact hy
        have := eqvL_of n m l k (Bool.and_eq_true_iff.mp h1).2 (Bool.and_eq_true_iff.mp h2).2
        simp only [toPy, PyData.eqv, D.eqv, this]
  | n, m, .tup l, .xtup k, hx, hy => by
    cases n with
    | zero => simp [D.ok] at hx
    | succ n =>
      cases m with
      | zero => simp [D.ok] at hy
      | succ m =>
        have h1 : (decide (l.length < lim) && D.okL n l) = true := by rw [D.ok] at hx; exact hx
        have h2 : (decide (k.length < lim) && D.okL m k) = true := by rw [D.ok] at hy; exact hy
        have := eqvL_of n m l k (Bool.and_eq_true_iff.mp h1).2 (Bool.and_eq_true_iff.mp h2).2
        simp only [toPy, PyData.eqv, D.eqv, this]
  | n, m, .xtup l, .tup k, hx, hy => by
    cases n with
    | zero => simp [D.ok] at hx
    | succ n =>
      cases m with
      | zero => simp [D.ok] at hy
      | succ m =>
        have h1 : (decide (l.length < lim) && D.okL n l) = true := by rw [D.ok] at hx; exact hx
        have h2 : (decide (k.length < lim) && D.okL m k) = true := by rw [D.ok] at hy; exact hy
        have := eqvL_of n m l k (Bool.and_eq_true_iff.mp h1).2 (Bool.and_eq_true_iff.mp h2).2
        simp only [toPy, PyData.eqv, D.eqv, this]
  | n, m, .xtup l, .xtup k, hx, hy => by
    cases n with
    | zero => simp [D.ok] at hx
    | succ n =>
      cases m with
      | zero => simp [D.ok] at hy
      | succ m =>
        have h1 : (decide (l.length < lim) && D.okL n l) = true := by rw [D.ok] at hx; exact hx
        have h2 : (decide (k.length < lim) && D.okL m k) = true := by rw [D.ok] at hy; exact hy
        have := eqvL_of n m l k (Bool.and_eq_true_iff.mp h1).2 (Bool.and_eq_true_iff.mp h2).2
        simp only [toPy, PyData.eqv, D.eqv, this]
  | n, m, .frz l, .frz k, hx, hy => by
    cases n with
    | zero => simp [D.ok] at hx
    | succ n =>
      cases m with
      | zero => simp [D.ok] at hy
      | succ m =>
        have h1 : (decide (l.length < lim) && D.okL n l) = true := by rw [D.ok] at hx; exact hx
        have h2 : (decide (k.length < lim) && D.okL m k) = true := by rw [D.ok] at hy; exact hy
        have := eqvL_of n m l k (Bool.and_eq_true_iff.mp h1).2 (Bool.and_eq_true_iff.mp h2).2
        simp only [toPy, PyData.eqv, D.eqv, this]
  | _, _, .str s, .str t, _, _ => by simp only [toPy, PyData.eqv, D.eqv]; exact sD_beq s t
  | _, _, .loc _, _, h, _ => by simp [D.ok] at h
  | _, _, _, .loc _, _, h => by simp [D.ok] at h
  | _, _, .frz _, .non, _, _ => rfl
  | _, _, .non, .frz _, _, _ => rfl
  | _, _, .frz _, .bl _, _, _ => rfl
  | _, _, .bl _, .frz _, _, _ => rfl
  | _, _, .frz _, .int _, _, _ => rfl
  | _, _, .int _, .frz _, _, _ => rfl
  | _, _, .frz _, .str _, _, _ => rfl
  | _, _, .str _, .frz _, _, _ => rfl
  | _, _, .frz _, .tup _, _, _ => rfl
  | _, _, .tup _, .frz _, _, _ => rfl
  | _, _, .frz _, .xtup _, _, _ => rfl
  | _, _, .xtup _, .frz _, _, _ => rfl
  | _, _, .bl a, .int j, _, _ => by simp only [toPy, PyData.eqv, D.eqv, MI.b2i]
  | _, _, .int a, .bl j, _, _ => by simp only [toPy, PyData.eqv, D.eqv, MI.b2i]
  | _, _, .non, .non, _, _ => rfl
  | _, _, .non, .bl _, _, _ => rfl
  | _, _, .non, .int _, _, _ => rfl
  | _, _, .non, .str _, _, _ => rfl
  | _, _, .non, .tup _, _, _ => rfl
  | _, _, .non, .xtup _, _, _ => rfl
  | _, _, .bl _, .non, _, _ => rfl
  | _, _, .bl _, .bl _, _, _ => rfl
  | _, _, .bl _, .str _, _, _ => rfl
  | _, _, .bl _, .tup _, _, _ => rfl
  | _, _, .bl _, .xtup _, _, _ => rfl
  | _, _, .int _, .non, _, _ => rfl
  | _, _, .int _, .int _, _, _ => rfl
  | _, _, .int _, .str _, _, _ => rfl
  | _, _, .int _, .tup _, _, _ => rfl
  | _, _, .int _, .xtup _, _, _ => rfl
  | _, _, .str _, .non, _, _ => rfl
  | _, _, .str _, .bl _, _, _ => rfl
  | _, _, .str _, .int _, _, _ => rfl
  | _, _, .str _, .tup _, _, _ => rfl
  | _, _, .str _, .xtup _, _, _ => rfl
  | _, _, .tup _, .non, _, _ => rfl
  | _, _, .tup _, .bl _, _, _ => rfl
  | _, _, .tup _, .int _, _, _ => rfl
  | _, _, .tup _, .str _, _, _ => rfl
  | _, _, .xtup _, .non, _, _ => rfl
  | _, _, .xtup _, .bl _, _, _ => rfl
  | _, _, .xtup _, .int _, _, _ => rfl
  | _, _, .xtup _, .str _, _, _ => rfl
theorem eqvL_of : ∀ (n m : Nat) (x y : List D), D.okL n x = true → D.okL m y = true → PyData.eqvAll (toPys x) (toPys y) = D.eqvL x y
  | _, _, [], [], _, _ => rfl
  | _, _, [], _ :: _, _, _ => rfl
  | _, _, _ :: _, [], _, _ => rfl
  | n, m, x :: xs, y :: ys, hx, hy => by
    have h1 : D.ok n x = true ∧ D.okL n xs = true := by rw [D.okL] at hx; exact Bool.and_eq_true_iff.mp hx
    have h2 : D.ok m y = true ∧ D.okL m ys = true := by rw [D.okL] at hy; exact Bool.and_eq_true_iff.mp hy
    simp only [toPys, PyData.eqvAll, D.eqvL, eqv_of n m x y h1.1 h2.1, eqvL_of n m xs ys h1.2 h2.2]
end
theorem okL_mem : ∀ {n : Nat} {l : List D}, D.okL n l = true → ∀ x ∈ l, D.ok n x = true
  | _, [], _, x, h => by cases h
  | n, y :: ys, h, x, hx => by
    have h2 : D.ok n y = true ∧ D.okL n ys = true := by rw [D.okL] at h; exact Bool.and_eq_true_iff.mp h
    rcases List.mem_cons.mp hx with rfl | hx
    · exact h2.1
    · exact okL_mem h2.2 x hx
theorem any_of {n : Nat} {l : List D} {x : D} (h : D.okL n l = true) (hx : D.ok n x = true) : ((toPys l).any fun z => PyData.eqv z (toPy x)) = l.any fun z => D.eqv z x := by
  rw [toPys_map, List.any_map]
  induction l with
  | nil => rfl
  | cons y ys ih =>
    have h2 : D.ok n y = true ∧ D.okL n ys = true := by rw [D.okL] at h; exact Bool.and_eq_true_iff.mp h
    simp only [List.any_cons, Function.comp, eqv_of n n y x h2.1 hx]
    rw [← ih h2.2]
theorem find_of {n : Nat} {l : List D} {x : D} (h : D.okL n l = true) (hx : D.ok n x = true) : ((toPys l).findIdx? fun z => PyData.eqv z (toPy x)) = l.findIdx? fun z => D.eqv z x := by
  rw [toPys_map, List.findIdx?_map]
  induction l with
  | nil => rfl
  | cons y ys ih =>
    have h2 : D.ok n y = true ∧ D.okL n ys = true := by rw [D.okL] at h; exact Bool.and_eq_true_iff.mp h
    have := ih h2.2
    simp only [List.findIdx?_cons, Function.comp, eqv_of n n y x h2.1 hx] at this ⊢
    rw [this]

section
variable {K : PySem.W.Frag} {cl : Nat → Addr} {E : EX}
/-! ### + -/
def rAddA (K : PySem.W.Frag) : R2 := fun x y H Q => ((rI0 fun i j => .int (i + j)) x y H Q ∨ (∃ i j, x = .str i ∧ y = .str j ∧ i.length + j.length ≤ sizeLine ∧ Q (.str (i ++ j)) H)) ∨ (rCatA K x y H Q ∨ rCat x y H Q)
theorem op_addA {X : Cx} : OpR X (binaryOp .Add) (rAddA X.K) := OpR.or (OpR.or op_add op_add_str) (OpR.or op_catA op_cat)
theorem sD_len (s : List Nat) : (sD s).length = s.length := by simp [Str.length]
theorem sD_app (s t : List Nat) : sD s ++ sD t = sD (s ++ t) := by
  show (⟨s.toArray ++ t.toArray⟩ : Str) = ⟨(s ++ t).toArray⟩
  simp
theorem RvL.nil_iff {H : Hp} {ρ : List Addr} {vs : List V} {ds : List D} (r : RvL K H ρ vs ds) : vs = [] ↔ ds = [] := by
  have e := r.length
  constructor
  · intro q; subst q; exact List.eq_nil_of_length_eq_zero e.symm
  · intro q; subst q; exact List.eq_nil_of_length_eq_zero e
theorem s_add : OpS K cl E opAdd (rAddA K) := by
  intro σ Q ρ H st v1 v2 d1 d2 A r1 r2 h
  cases r1 with
  | int i =>
    cases r2 with
    | int j => exact .inl (.inl ⟨i, j, rfl, rfl, h.ok (st' := st) rfl .refl A (.int _)⟩)
    | _ => exact h.none rfl
  | str s =>
    cases r2 with
    | str t =>
      by_cases hl : s.length + t.length < lim
      · refine .inl (.inr ⟨_, _, rfl, rfl, by rw [sD_len, sD_len]; exact lim_size hl, ?_⟩)
        rw [sD_app]
        exact h.ok (st' := st) (d := .str (s ++ t)) (by simp [opAdd, hl]) .refl A (.str _)
      · exact h.none (by simp [opAdd, hl])
    | _ => exact h.none rfl
  | @tup a vs l hs r =>
    cases r2 with
    | @tup b ws m hs' r' =>
      by_cases hl : l.length + m.length < lim
      · have e : opAdd (.tup l) (.tup m) st = some (.ok (.tup (l ++ m)), st) := by simp [opAdd, hl]
        refine .inr (.inl ⟨a, b, vs, ws, rfl, rfl, hs, hs', by rw [r.length, r'.length]; exact lim_size hl, fun z => ?_, fun _ z => ?_, fun _ _ p n => ?_⟩)
        · have zl : l = [] := r.nil_iff.mp z
          refine h.ok e .refl A ?_
          rw [zl]; exact .tup hs' r'
        · have zl : m = [] := r'.nil_iff.mp z
          refine h.ok e .refl A ?_
          rw [zl, List.append_nil]; exact .tup hs r
        · exact rest_tup A (r.append r') h e p n
      · exact h.none (by simp [opAdd, hl])
    | _ => exact h.none rfl
  | @loc a n ha =>
    cases r2 with
    | @loc b m hb =>
      cases e1 : st[n]? with
      | none => exact h.none (by simp [opAdd, e1])
      | some o =>
        cases e2 : st[m]? with
        | none => exact h.none (by simp [opAdd, e1, e2])
        | some o' =>
          have q1 := A.get ha e1
          have q2 := A.get hb e2
          cases q1 with
          | @lst vs l h1 s1 =>
            cases q2 with
            | @lst ws m' h2 s2 =>
              by_cases hl : l.length + m'.length < lim
              · refine .inr (.inr ⟨a, b, vs, ws, rfl, rfl, h1, h2, by rw [s1.length, s2.length]; exact lim_size hl, fun p n => ?_⟩)
                exact rest_lst A (s1.append s2) h (by simp [opAdd, e1, e2, hl, MI.new]) p n
              · exact h.none (by simp [opAdd, e1, e2, hl])
            | _ => exact h.none (by simp [opAdd, e1, e2])
          | _ => exact h.none (by simp [opAdd, e1])
    | _ => exact h.none rfl
  | _ => exact h.none rfl
theorem s_sub : OpS K cl E opSub (rI0 fun i j => .int (i - j)) := by
  intro σ Q ρ H st v1 v2 d1 d2 A r1 r2 h
  cases r1 with
  | int i =>
    cases r2 with
    | int j => exact ⟨i, j, rfl, rfl, h.ok (st' := st) rfl .refl A (.int _)⟩
    | _ => exact h.none rfl
  | _ => exact h.none rfl
theorem s_mod : OpS K cl E opMod (rI (fun _ j => 0 < j) fun i j => .int (i % j)) := by
  intro σ Q ρ H st v1 v2 d1 d2 A r1 r2 h
  cases r1 with
  | int i =>
    cases r2 with
    | int j =>
      by_cases hj : 0 < j
      · exact ⟨i, j, rfl, rfl, hj, h.ok (st' := st) (d := .int (i % j)) (by simp [opMod, hj]) .refl A (.int _)⟩
      · exact h.none (by simp [opMod, hj])
    | _ => exact h.none rfl
  | _ => exact h.none rfl
theorem s_div : OpS K cl E opDiv (rI CDiv fun i j => .int (i / j)) := by
  intro σ Q ρ H st v1 v2 d1 d2 A r1 r2 h
  cases r1 with
  | int i =>
    cases r2 with
    | int j =>
      by_cases hj : 0 < j ∧ j < 1073741824
      · exact ⟨i, j, rfl, rfl, hj, h.ok (st' := st) (d := .int (i / j)) (by simp [opDiv, hj]) .refl A (.int _)⟩
      · exact h.none (by simp only [opDiv, if_neg hj])
    | _ => exact h.none rfl
  | _ => exact h.none rfl
theorem s_pow : OpS K cl E opPow (rI CPow fun i j => .int (i ^ j.toNat)) := by
  intro σ Q ρ H st v1 v2 d1 d2 A r1 r2 h
  cases r1 with
  | int i =>
    cases r2 with
    | int j =>
      by_cases hj : 0 ≤ j ∧ j ≤ 100 ∧ -MI.big < i ∧ i < MI.big
      · refine ⟨i, j, rfl, rfl, ⟨hj.1, by omega, ?_⟩, h.ok (st' := st) (d := .int (i ^ j.toNat)) (by simp only [opPow, if_pos hj]) .refl A (.int _)⟩
        have := hj.2.2
        unfold MI.big at this
        omega
      · exact h.none (by simp only [opPow, if_neg hj])
    | _ => exact h.none rfl
  | _ => exact h.none rfl
/-! ### * -/
def rMulA (K : PySem.W.Frag) : R2 := fun x y H Q => (rI CMul fun i j => .int (i * j)) x y H Q ∨ (rRepA K x y H Q ∨ rRep x y H Q)
theorem op_mulA {X : Cx} : OpR X (binaryOp .Mult) (rMulA X.K) := OpR.or op_mul (OpR.or op_repA op_rep)
theorem RvL.rep {H : Hp} {ρ : List Addr} {vs : List V} {ds : List D} (r : RvL K H ρ vs ds) : ∀ n : Nat, RvL K H ρ (List.replicate n vs).flatten (List.replicate n ds).flatten
  | 0 => by simp; exact .nil
  | n + 1 => by
    rw [List.replicate_succ, List.replicate_succ, List.flatten_cons, List.flatten_cons]
    exact r.append (RvL.rep r n)
theorem s_mul : OpS K cl E opMul (rMulA K) := by
  intro σ Q ρ H st v1 v2 d1 d2 A r1 r2 h
  cases r1 with
  | int i =>
    cases r2 with
    | int j =>
      by_cases hj : (-MI.big < i ∧ i < MI.big) ∨ (-MI.big < j ∧ j < MI.big)
      · refine .inl ⟨i, j, rfl, rfl, ?_, h.ok (st' := st) (d := .int (i * j)) (by simp only [opMul, if_pos hj]) .refl A (.int _)⟩
        unfold MI.big at hj
        unfold CMul
        omega
      · exact h.none (by simp only [opMul, if_neg hj])
    | _ => exact h.none rfl
  | @tup a vs l hs r =>
    cases r2 with
    | int j =>
      by_cases hj : j < lim ∧ -lim < j ∧ l.length * j.toNat < 16000000
      · have e : opMul (.tup l) (.int j) st = some (.ok (.tup (List.replicate j.toNat l).flatten), st) := by simp only [opMul, if_pos hj]
        refine .inr (.inl ⟨a, j, vs, rfl, rfl, hs, by have hl : (lim : Nat) = 16777216 := rfl; omega, by have hl : (lim : Nat) = 16777216 := rfl; omega, by rw [r.length]; omega, fun z => ?_, fun p n => rest_tup A (r.rep _) h e p n⟩)
        refine h.ok e .refl A ?_
        have q : (List.replicate j.toNat l).flatten = l := by
          rcases z with z | z
          · have : l = [] := r.nil_iff.mp z
            rw [this]; simp
          · rw [z]; simp
        rw [q]; exact .tup hs r
      · exact h.none (by simp only [opMul, if_neg hj])
    | _ => exact h.none rfl
  | @loc a n ha =>
    cases r2 with
    | int j =>
      cases e1 : st[n]? with
      | none => exact h.none (by simp [opMul, e1])
      | some o =>
        have q1 := A.get ha e1
        cases q1 with
        | @lst vs l h1 s1 =>
          by_cases hj : j < lim ∧ -lim < j ∧ l.length * j.toNat < lim
          · refine .inr (.inr ⟨a, j, vs, rfl, rfl, h1, by have hl : (lim : Nat) = 16777216 := rfl; omega, by have hl : (lim : Nat) = 16777216 := rfl; omega, by rw [s1.length]; exact lim_size hj.2.2, fun p n => ?_⟩)
            exact rest_lst A (s1.rep _) h (by simp only [opMul, e1, if_pos hj, MI.new]) p n
          · exact h.none (by simp only [opMul, e1, if_neg hj])
        | _ => exact h.none (by simp [opMul, e1])
    | _ => exact h.none rfl
  | str s =>
    cases r2 with
    | int j => exact h.none rfl
    | _ => exact h.none rfl
  | _ => exact h.none rfl
/-! ### comparisons -/
theorem s_lt : OpS K cl E opLt (rI0 fun i j => .bl (decide (i < j))) := by
  intro σ Q ρ H st v1 v2 d1 d2 A r1 r2 h
  cases r1 with
  | int i =>
    cases r2 with
    | int j => exact ⟨i, j, rfl, rfl, h.ok (st' := st) rfl .refl A (.bl _)⟩
    | _ => exact h.none rfl
  | _ => exact h.none rfl
theorem s_le : OpS K cl E opLe (rI0 fun i j => .bl (decide (i ≤ j))) := by
  intro σ Q ρ H st v1 v2 d1 d2 A r1 r2 h
  cases r1 with
  | int i =>
    cases r2 with
    | int j => exact ⟨i, j, rfl, rfl, h.ok (st' := st) rfl .refl A (.bl _)⟩
    | _ => exact h.none rfl
  | _ => exact h.none rfl
theorem s_gt : OpS K cl E opGt (rI0 fun i j => .bl (decide (j < i))) := by
  intro σ Q ρ H st v1 v2 d1 d2 A r1 r2 h
  cases r1 with
  | int i =>
    cases r2 with
    | int j => exact ⟨i, j, rfl, rfl, h.ok (st' := st) rfl .refl A (.bl _)⟩
    | _ => exact h.none rfl
  | _ => exact h.none rfl
theorem s_ge : OpS K cl E opGe (rI0 fun i j => .bl (decide (j ≤ i))) := by
  intro σ Q ρ H st v1 v2 d1 d2 A r1 r2 h
  cases r1 with
  | int i =>
    cases r2 with
    | int j => exact ⟨i, j, rfl, rfl, h.ok (st' := st) rfl .refl A (.bl _)⟩
    | _ => exact h.none rfl
  | _ => exact h.none rfl
theorem bnd_inv {α β : Type} {x : MI.R α} {f : α → MI.R β} {st : Stt} {a : α} {st' : Stt} (h : x st = some (.ok a, st')) : bnd x f st = f a st' := by unfold bnd; rw [h]
theorem bnd_none {α β : Type} {x : MI.R α} {f : α → MI.R β} {st : Stt} (h : x st = Option.none) : bnd x f st = Option.none := by unfold bnd; rw [h]
/-- == and != : what eqD says, where it says something -/
theorem dat_ok {ρ : List Addr} {H : Hp} {st : Stt} {v : V} {d : D} (A : At K cl ρ H st) (r : Rv K H ρ v d) : dat d st = Option.none ∨ ∃ a, dat d st = some a ∧ (D.ok deep a = true → Dp K H v (toPy a)) := by
  cases r with
  | @loc a n ha =>
    cases e1 : st[n]? with
    | none => exact .inl (by simp [dat, e1])
    | some o =>
      have q1 := A.get ha e1
      cases q1 with
      | @lst vs l h1 s1 =>
        refine .inr ⟨.frz l, by simp [dat, e1], fun ho => ?_⟩
        have h2 : (decide (l.length < lim) && D.okL 39 l) = true := by rw [D.ok] at ho; exact ho
        exact .lst (SqL.of h1) (dpL_of _ _ _ (Bool.and_eq_true_iff.mp h2).2 s1)
      | _ => exact .inl (by simp [dat, e1])
  | non => exact .inr ⟨_, rfl, fun h => dp_of (ρ := ρ) _ _ _ h .non⟩
  | bl b => exact .inr ⟨_, rfl, fun h => dp_of (ρ := ρ) _ _ _ h (.bl b)⟩
  | int b => exact .inr ⟨_, rfl, fun h => dp_of (ρ := ρ) _ _ _ h (.int b)⟩
  | str b => exact .inr ⟨_, rfl, fun h => dp_of (ρ := ρ) _ _ _ h (.str b)⟩
  | tup hs r => exact .inr ⟨_, rfl, fun h => dp_of _ _ _ h (.tup hs r)⟩
  | frz hs r => exact .inr ⟨_, rfl, fun h => dp_of _ _ _ h (.frz hs r)⟩
  | xtup hs r => exact .inr ⟨_, rfl, fun h => dp_of _ _ _ h (.xtup hs r)⟩
theorem eqD_ok {ρ : List Addr} {H : Hp} {st : Stt} {v1 v2 : V} {d1 d2 : D} (A : At K cl ρ H st) (r1 : Rv K H ρ v1 d1) (r2 : Rv K H ρ v2 d2) :
    eqD d1 d2 st = Option.none ∨ ∃ b x y, eqD d1 d2 st = some (.ok b, st) ∧ Dp K H v1 x ∧ Dp K H v2 y ∧ SeqAt.shaped x = true ∧ SeqAt.shaped y = true ∧ PyData.eqv x y = b := by
  rcases dat_ok A r1 with e | ⟨a, e, da⟩
  · exact .inl (by simp [eqD, e])
  · rcases dat_ok A r2 with f | ⟨b, f, db⟩
    · exact .inl (by simp [eqD, e, f])
    · by_cases ho : (D.ok deep a && D.ok deep b) = true
      · obtain ⟨o1, o2⟩ := Bool.and_eq_true_iff.mp ho
        exact .inr ⟨D.eqv a b, toPy a, toPy b, by simp only [eqD, e, f, if_pos ho], da o1, db o2, shaped_of o1 (by decide), shaped_of o2 (by decide), eqv_of _ _ _ _ o1 o2⟩
      · exact .inl (by simp only [eqD, e, f, if_neg ho])
theorem s_eq : OpS K cl E opEq (rEqD K) := by
  intro σ Q ρ H st v1 v2 d1 d2 A r1 r2 h
  rcases eqD_ok A r1 r2 with e | ⟨b, x, y, e, dx, dy, sx, sy, q⟩
  · exact h.none (bnd_none e)
  · exact ⟨x, y, dx, dy, sx, sy, h.ok (st' := st) (d := .bl b) (by unfold opEq; rw [bnd_inv e]; rfl) .refl A (by rw [q]; exact .bl b)⟩
theorem s_ne : OpS K cl E opNe (rNeD K) := by
  intro σ Q ρ H st v1 v2 d1 d2 A r1 r2 h
  rcases eqD_ok A r1 r2 with e | ⟨b, x, y, e, dx, dy, sx, sy, q⟩
  · exact h.none (bnd_none e)
  · exact ⟨x, y, dx, dy, sx, sy, h.ok (st' := st) (d := .bl (!b)) (by unfold opNe; rw [bnd_inv e]; rfl) .refl A (by rw [q]; exact .bl (!b))⟩
end
end MS

set_option Elab.async false
set_option linter.all false
set_option maxRecDepth 100000
set_option maxHeartbeats 4000000
/-! MS4: in, is None, and, or, not as values, chains, subscripts, slices, fields, calls, methods. -/
namespace MS
open PySem PySem.Spec PyProof.Rows L2 MI

section
variable {K : PySem.W.Frag} {cl : Nat → Addr} {E : EX}
/-! ### in -/
def rInA (K : PySem.W.Frag) : R2 := fun x y H Q => ((∃ d ds, Dp K H x d ∧ Dp K H y (.tuple ds) ∧ SeqAt.shaped d = true ∧ SeqAt.shaped (.tuple ds) = true ∧ Q (.bl (ds.any fun z => PyData.eqv z d)) H) ∨ rInD K x y H Q) ∨
  (∃ (c : Nat) (z : Str), x = .str ⟨#[c]⟩ ∧ y = .str z ∧ Q (.bl (decide (c ∈ z.cps.toList))) H)
theorem op_inA {X : Cx} (hu : X.A.units + 65 < cLine) : OpR X (compareOp .In) (rInA X.K) := OpR.or (OpR.or (op_inDT hu) (op_inD hu)) op_in_sign
def rNotInA (K : PySem.W.Frag) : R2 := fun x y H Q => ((∃ d ds, Dp K H x d ∧ Dp K H y (.tuple ds) ∧ SeqAt.shaped d = true ∧ SeqAt.shaped (.tuple ds) = true ∧ Q (.bl (!ds.any fun z => PyData.eqv z d)) H) ∨ rNotInD K x y H Q) ∨
  (∃ (c : Nat) (z : Str), x = .str ⟨#[c]⟩ ∧ y = .str z ∧ Q (.bl (!decide (c ∈ z.cps.toList))) H)
theorem op_notInA {X : Cx} (hu : X.A.units + 65 < cLine) : OpR X (compareOp .NotIn) (rNotInA X.K) := OpR.or (OpR.or (op_notInDT hu) (op_notInD hu)) op_notIn_sign
/-- what isInT says, where it says something -/
theorem isIn_ok {ρ : List Addr} {H : Hp} {st : Stt} {v1 v2 : V} {d1 d2 : D} (A : At K cl ρ H st) (r1 : Rv K H ρ v1 d1) (r2 : Rv K H ρ v2 d2) :
    isInT d1 d2 st = Option.none ∨ ∃ b, isInT d1 d2 st = some (.ok b, st) ∧
      (((∃ d ds, Dp K H v1 d ∧ Dp K H v2 (.tuple ds) ∧ SeqAt.shaped d = true ∧ SeqAt.shaped (.tuple ds) = true ∧ (ds.any fun z => PyData.eqv z d) = b) ∨
        (∃ d ds, Dp K H v1 d ∧ Dp K H v2 (.list ds) ∧ SeqAt.shaped d = true ∧ SeqAt.shaped (.list ds) = true ∧ (ds.any fun z => PyData.eqv z d) = b)) ∨
      (∃ (c : Nat) (z : Str), v1 = .str ⟨#[c]⟩ ∧ v2 = .str z ∧ decide (c ∈ z.cps.toList) = b)) := by
  cases r2 with
  | @tup a vs l hs r =>
    by_cases ho : (D.ok deep d1 && D.okL deep l) = true
    · obtain ⟨o1, o2⟩ := Bool.and_eq_true_iff.mp ho
      refine .inr ⟨_, by simp only [isInT, if_pos ho], .inl (.inl ⟨toPy d1, toPys l, dp_of _ _ _ o1 r1, .tup hs (dpL_of _ _ _ o2 r), shaped_of o1 (by decide), shapedT_of o2 (by decide), any_of o2 o1⟩)⟩
    · exact .inl (by simp only [isInT, if_neg ho])
  | @xtup a vs l hs r =>
    by_cases ho : (D.ok deep d1 && D.okL deep l) = true
    · obtain ⟨o1, o2⟩ := Bool.and_eq_true_iff.mp ho
      refine .inr ⟨_, by simp only [isInT, if_pos ho], .inl (.inl ⟨toPy d1, toPys l, dp_of _ _ _ o1 r1, .tup hs.seq (dpL_of _ _ _ o2 r), shaped_of o1 (by decide), shapedT_of o2 (by decide), any_of o2 o1⟩)⟩
    · exact .inl (by simp only [isInT, if_neg ho])
  | @frz a vs l hs r =>
    by_cases ho : (D.ok deep d1 && D.okL deep l) = true
    · obtain ⟨o1, o2⟩ := Bool.and_eq_true_iff.mp ho
      refine .inr ⟨_, by simp only [isInT, if_pos ho], .inl (.inr ⟨toPy d1, toPys l, dp_of _ _ _ o1 r1, .lst hs.seq (dpL_of _ _ _ o2 r), shaped_of o1 (by decide), shapedL_of o2 (by decide), any_of o2 o1⟩)⟩
    · exact .inl (by simp only [isInT, if_neg ho])
  | @loc a n ha =>
    cases e1 : st[n]? with
    | none => exact .inl (by simp [isInT, e1])
    | some o =>
      have q1 := A.get ha e1
      cases q1 with
      | @lst vs l h1 s1 =>
        by_cases ho : (D.ok deep d1 && D.okL deep l) = true
        · obtain ⟨o1, o2⟩ := Bool.and_eq_true_iff.mp ho
          refine .inr ⟨_, by simp only [isInT, e1, if_pos ho], .inl (.inr ⟨toPy d1, toPys l, dp_of _ _ _ o1 r1, .lst (SqL.of h1) (dpL_of _ _ _ o2 s1), shaped_of o1 (by decide), shapedL_of o2 (by decide), any_of o2 o1⟩)⟩
        · exact .inl (by simp only [isInT, e1, if_neg ho])
      | _ => exact .inl (by simp [isInT, e1])
  | str t =>
    cases r1 with
    | str s =>
      cases s with
      | nil => exact .inl (by simp [isInT])
      | cons c r =>
        cases r with
        | nil => exact .inr ⟨_, by simp only [isInT]; rfl, .inr ⟨c, sD t, rfl, rfl, by simp [sD]⟩⟩
        | cons _ _ => exact .inl (by simp [isInT])
    | _ => exact .inl (by simp [isInT])
  | _ => exact .inl (by simp [isInT])
theorem s_in : OpS K cl E opIn (rInA K) := by
  intro σ Q ρ H st v1 v2 d1 d2 A r1 r2 h
  rcases isIn_ok A r1 r2 with e | ⟨b, e, q⟩
  · exact h.none (bnd_none e)
  · have fin : Q (.bl b) H := h.ok (st' := st) (d := .bl b) (by unfold opIn; rw [bnd_inv e]; rfl) .refl A (.bl b)
    rcases q with (⟨d, ds, a1, a2, a3, a4, q⟩ | ⟨d, ds, a1, a2, a3, a4, q⟩) | ⟨c, z, a1, a2, q⟩
    · exact .inl (.inl ⟨d, ds, a1, a2, a3, a4, by rw [q]; exact fin⟩)
    · exact .inl (.inr ⟨d, ds, a1, a2, a3, a4, by rw [q]; exact fin⟩)
    · exact .inr ⟨c, z, a1, a2, by rw [q]; exact fin⟩
theorem s_notIn : OpS K cl E opNotIn (rNotInA K) := by
  intro σ Q ρ H st v1 v2 d1 d2 A r1 r2 h
  rcases isIn_ok A r1 r2 with e | ⟨b, e, q⟩
  · exact h.none (bnd_none e)
  · have fin : Q (.bl (!b)) H := h.ok (st' := st) (d := .bl (!b)) (by unfold opNotIn; rw [bnd_inv e]; rfl) .refl A (.bl (!b))
    rcases q with (⟨d, ds, a1, a2, a3, a4, q⟩ | ⟨d, ds, a1, a2, a3, a4, q⟩) | ⟨c, z, a1, a2, q⟩
    · exact .inl (.inl ⟨d, ds, a1, a2, a3, a4, by rw [q]; exact fin⟩)
    · exact .inl (.inr ⟨d, ds, a1, a2, a3, a4, by rw [q]; exact fin⟩)
    · exact .inr ⟨c, z, a1, a2, by rw [q]; exact fin⟩
theorem Rv.non_iff {ρ : List Addr} {H : Hp} {v : V} {d : D} (r : Rv K H ρ v d) : decide (v = .non) = MI.isNone d := by
  cases r <;> rfl
theorem s_neg : UnS K cl E opNeg (rU fun i => .int (-i)) := by
  intro σ Q ρ H st v1 d1 A r1 h
  cases r1 with
  | int i => exact ⟨i, rfl, h.ok (st' := st) rfl .refl A (.int _)⟩
  | _ => exact h.none rfl
end

section
variable {X : Cx} {cl : Nat → Addr} {E : EX} {c : MI.Ctx} {a b d e : Expr} {ga gb gd : SE} {pos : Pos}
theorem me_isN {j : Nat} {p : Pos} (ha : ME X cl E c a ga) : ME X cl E c (.Compare a [.Is] [.Constant .none j p] pos) (eUn opIsN ga) :=
  peI (pe_cmpR op_isN ha pe_non (nomark _)) fun σ H Q h => by
    obtain ⟨ρ, env, st, A, e, h⟩ := h
    refine (Rest.step (g := ga c) (rV X.K) A e h).imp fun v1 H1 ⟨ρ1, st1, d1, g1, A1, r1, h1⟩ => ⟨rfl, ?_⟩
    rw [r1.non_iff]
    exact h1.ok (st' := st1) rfl .refl A1 (.bl _)
theorem me_notN {j : Nat} {p : Pos} (ha : ME X cl E c a ga) : ME X cl E c (.Compare a [.IsNot] [.Constant .none j p] pos) (eUn opNotN ga) :=
  peI (pe_cmpR op_notN ha pe_non (nomark _)) fun σ H Q h => by
    obtain ⟨ρ, env, st, A, e, h⟩ := h
    refine (Rest.step (g := ga c) (rV X.K) A e h).imp fun v1 H1 ⟨ρ1, st1, d1, g1, A1, r1, h1⟩ => ⟨rfl, ?_⟩
    rw [r1.non_iff]
    exact h1.ok (st' := st1) rfl .refl A1 (.bl _)
/-- the same as a test -/
theorem mt_isN {j : Nat} {p : Pos} (ha : ME X cl E c a ga) : MT X cl E c (.Compare a [.Is] [.Constant .none j p] pos) (cB (eUn opIsN ga)) :=
  ptI (pt_cmpR op_isN ha pe_non (nomark _)) fun σ H Q h => by
    obtain ⟨ρ, env, st, A, e, h⟩ := h
    have h' : Rest X.K cl E rB σ Q (bnd (ga c env) fun x => MI.ret (MI.isNone x)) ρ H st := h.eq (by
      simp only [cB, eUn, bnd, opIsN, MI.ret]
      cases q : ga c env st with
      | none => rfl
      | some p => obtain ⟨rs, s'⟩ := p; cases rs <;> rfl)
    refine (Rest.step (g := ga c) (rV X.K) A e h').imp fun v1 H1 ⟨ρ1, st1, d1, g1, A1, r1, h1⟩ => ⟨rfl, _, rfl, ?_⟩
    exact h1.ok (st' := st1) rfl .refl A1 (r1.non_iff)
theorem mt_notN {j : Nat} {p : Pos} (ha : ME X cl E c a ga) : MT X cl E c (.Compare a [.IsNot] [.Constant .none j p] pos) (cB (eUn opNotN ga)) :=
  ptI (pt_cmpR op_notN ha pe_non (nomark _)) fun σ H Q h => by
    obtain ⟨ρ, env, st, A, e, h⟩ := h
    have h' : Rest X.K cl E rB σ Q (bnd (ga c env) fun x => MI.ret (!MI.isNone x)) ρ H st := h.eq (by
      simp only [cB, eUn, bnd, opNotN, MI.ret]
      cases q : ga c env st with
      | none => rfl
      | some p => obtain ⟨rs, s'⟩ := p; cases rs <;> rfl)
    refine (Rest.step (g := ga c) (rV X.K) A e h').imp fun v1 H1 ⟨ρ1, st1, d1, g1, A1, r1, h1⟩ => ⟨rfl, _, rfl, ?_⟩
    exact h1.ok (st' := st1) rfl .refl A1 (by rw [r1.non_iff])

/-! ### and, or, not as values -/
variable {rest : List Expr}
theorem me_one {op : BoolOp} (h : ME X cl E c a ga) : ME X cl E c (.BoolOp op [a] pos) ga := pe_one h
theorem me_and (ha : ME X cl E c a ga) (hb : ME X cl E c (.BoolOp .And (b :: rest) pos) gb) : ME X cl E c (.BoolOp .And (a :: b :: rest) pos) (eAnd ga gb) :=
  peI (pe_and ha hb) fun σ H Q h => by
    obtain ⟨ρ, env, st, A, e, h⟩ := h
    refine (Rest.step (g := ga c) (rV X.K) A e h).imp fun v1 H1 ⟨ρ1, st1, d1, g1, A1, r1, h1⟩ => ?_
    cases r1 with
    | bl k =>
      refine ⟨k, rfl, ?_⟩
      cases k with
      | true => exact iteT ⟨ρ1, env, st1, A1, e.grow A g1, h1⟩
      | false => exact iteF (h1.ok (st' := st1) rfl .refl A1 (.bl _))
    | _ => exact h1.none rfl
theorem me_or (ha : ME X cl E c a ga) (hb : ME X cl E c (.BoolOp .Or (b :: rest) pos) gb) : ME X cl E c (.BoolOp .Or (a :: b :: rest) pos) (eOr ga gb) :=
  peI (pe_or ha hb) fun σ H Q h => by
    obtain ⟨ρ, env, st, A, e, h⟩ := h
    refine (Rest.step (g := ga c) (rV X.K) A e h).imp fun v1 H1 ⟨ρ1, st1, d1, g1, A1, r1, h1⟩ => ?_
    cases r1 with
    | bl k =>
      refine ⟨k, rfl, ?_⟩
      cases k with
      | true => exact iteT (h1.ok (st' := st1) rfl .refl A1 (.bl _))
      | false => exact iteF ⟨ρ1, env, st1, A1, e.grow A g1, h1⟩
    | _ => exact h1.none rfl
theorem me_not (ha : ME X cl E c a ga) : ME X cl E c (.UnaryOp .Not a pos) (eNot ga) :=
  peI (pe_not ha) fun σ H Q h => by
    obtain ⟨ρ, env, st, A, e, h⟩ := h
    refine (Rest.step (g := ga c) (rV X.K) A e h).imp fun v1 H1 ⟨ρ1, st1, d1, g1, A1, r1, h1⟩ => ?_
    cases r1 with
    | bl k => exact ⟨k, rfl, h1.ok (st' := st1) rfl .refl A1 (.bl _)⟩
    | _ => exact h1.none rfl

/-! ### a op b op' d -/
theorem tm_chain {f g : D → D → MI.R D} {r r' : R2} (hs : OpS X.K cl E f r) (hs' : OpS X.K cl E g r') {σ : L2.St} {H : Hp} {Q : VK} (h : TM X.K cl E (rV X.K) (eChain f g ga gb gd c) σ H Q) :
    tChain r r' (TM X.K cl E (rV X.K) (ga c)) (TM X.K cl E (rV X.K) (gb c)) (TM X.K cl E (rV X.K) (gd c)) σ H Q := by
  obtain ⟨ρ, env, st, A, e, h⟩ := h
  refine (Rest.step (g := ga c) (rV X.K) A e h).imp fun v1 H1 ⟨ρ1, st1, d1, g1, A1, r1, h1⟩ => ?_
  refine (Rest.step (g := gb c) (rV X.K) A1 (e.grow A g1) h1).imp fun v2 H2 ⟨ρ2, st2, d2, g2, A2, r2, h2⟩ => ?_
  have e2 := (e.grow A g1).grow A1 g2
  refine hs (σ := σ) (st := st2) A2 (r1.grow A1 g2) r2 ?_
  -- the rest behind the first comparison
  rcases h2 with ⟨d', st', q, k⟩ | ⟨cc, fs, st', q, k⟩
  · unfold bnd at q
    cases qf : f d1 d2 st2 with
    | none => rw [qf] at q; cases q
    | some p =>
      obtain ⟨rs, s3⟩ := p
      rw [qf] at q
      cases rs with
      | exc c2 fs2 => cases q
      | ok z =>
        refine .inl ⟨z, s3, qf, fun ρ3 H3 v3 g3 A3 r3 => ?_⟩
        cases r3 with
        | bl k' =>
          refine ⟨k', rfl, ?_⟩
          cases k' with
          | true =>
            refine iteT ?_
            refine (Rest.step (rel' := rV X.K) (Q := Q) (g := gd c) (rV X.K) (f := fun z => g d2 z) A3 (e2.grow A2 g3) (.inl ⟨d', st', q, fun ρ' H' v g' A' r => k ρ' H' v (g3.trans g') A' r⟩)).imp fun v4 H4 ⟨ρ4, st4, d4, g4, A4, r4, h4⟩ => ?_
            exact hs' A4 (r2.grow A2 (g3.trans g4)) r4 h4
          | false =>
            refine iteF ?_
            have q' : some ((Rs.ok (D.bl false), s3) : Rs D × Stt) = some (Rs.ok d', st') := q
            cases q'
            exact k _ _ _ g3 A3 (.bl _)
        | _ => cases q
  · unfold bnd at q
    cases qf : f d1 d2 st2 with
    | none => rw [qf] at q; cases q
    | some p =>
      obtain ⟨rs, s3⟩ := p
      rw [qf] at q
      cases rs with
      | exc c2 fs2 =>
        cases q
        exact .inr ⟨_, _, _, qf, k⟩
      | ok z =>
        refine .inl ⟨z, s3, qf, fun ρ3 H3 v3 g3 A3 r3 => ?_⟩
        cases r3 with
        | bl k' =>
          refine ⟨k', rfl, ?_⟩
          cases k' with
          | true =>
            refine iteT ?_
            refine (Rest.step (rel' := rV X.K) (Q := Q) (g := gd c) (rV X.K) (f := fun z => g d2 z) A3 (e2.grow A2 g3) (.inr ⟨cc, fs, st', q, fun ρ' H' g' A' => k ρ' H' (g3.trans g') A'⟩)).imp fun v4 H4 ⟨ρ4, st4, d4, g4, A4, r4, h4⟩ => ?_
            exact hs' A4 (r2.grow A2 (g3.trans g4)) r4 h4
          | false =>
            have q' : some ((Rs.ok (D.bl false), s3) : Rs D × Stt) = some (Rs.exc cc fs, st') := q
            cases q'
        | _ => cases q
theorem me_chain {op op' : CmpOp} {f g : D → D → MI.R D} {r r' : R2} (ho : OpR X (compareOp op) r) (ho' : OpR X (compareOp op') r') (hs : OpS X.K cl E f r) (hs' : OpS X.K cl E g r') (ha : ME X cl E c a ga) (hb : ME X cl E c b gb) (hd : ME X cl E c d gd)
    (hm : lastMarks [op, op'] [b, d] = false := by with_unfolding_all rfl) : ME X cl E c (.Compare a [op, op'] [b, d] pos) (eChain f g ga gb gd) :=
  peI (pe_chain ho ho' ha hb hd hm) fun σ H Q h => tm_chain hs hs' h
theorem mt_chain {op op' : CmpOp} {f g : D → D → MI.R D} {r r' : R2} (ho : OpR X (compareOp op) r) (ho' : OpR X (compareOp op') r') (hs : OpS X.K cl E f r) (hs' : OpS X.K cl E g r') (ha : ME X cl E c a ga) (hb : ME X cl E c b gb) (hd : ME X cl E c d gd)
    (hm : lastMarks [op, op'] [b, d] = false := by with_unfolding_all rfl) : MT X cl E c (.Compare a [op, op'] [b, d] pos) (cB (eChain f g ga gb gd)) :=
  ptI (pt_chain ho ho' ha hb hd hm) fun σ H Q h => tm_chain hs hs' (Q := fun x H' => ∃ k, x = .bl k ∧ Q k H') (tm_b (ga := eChain f g ga gb gd) rfl h)
end
end MS

set_option Elab.async false
set_option linter.all false
set_option maxRecDepth 100000
set_option maxHeartbeats 4000000
/-! MS5: subscripts, slices, fields, calls. -/
namespace MS
open PySem PySem.Spec PyProof.Rows L2 MI

section
variable {K : PySem.W.Frag} {cl : Nat → Addr} {E : EX}
/-! ### a[i] -/
theorem ixN_same (n : Nat) (i : Int) : MI.ixN n i = L2.ixN n i := rfl
theorem atI_of {ρ : List Addr} {H : Hp} {vs : List V} {ds : List D} (r : RvL K H ρ vs ds) {i : Int} {d : D} (h : ((MI.ixN ds.length i).bind fun k => ds[k]?) = some d) : ∃ v, atI vs i = some v ∧ Rv K H ρ v d := by
  rw [Option.bind_eq_some_iff] at h
  obtain ⟨k, h1, h2⟩ := h
  obtain ⟨v, q1, q2⟩ := r.get h2
  refine ⟨v, ?_, q2⟩
  unfold atI
  rw [r.length, ← ixN_same, h1]
  exact q1
def rIxA (K : PySem.W.Frag) : R2 := fun x y H Q => (rIxL K x y H Q ∨ rIxT K x y H Q) ∨ rIxS x y H Q
theorem ix_all {X : Cx} : IxR X (rIxA X.K) := IxR.or (IxR.or ix_list ix_tup) ix_str
theorem s_ix : OpS K cl E opIx (rIxA K) := by
  intro σ Q ρ H st v1 v2 d1 d2 A r1 r2 h
  cases r2 with
  | int i =>
    cases r1 with
    | @tup a vs l hs r =>
      cases q : (MI.ixN l.length i).bind fun k => l[k]? with
      | none => exact h.none (by simp [opIx, q])
      | some d =>
        obtain ⟨v, q1, q2⟩ := atI_of r q
        exact .inl (.inr ⟨a, vs, i, v, rfl, rfl, hs, q1, h.ok (st' := st) (d := d) (by simp [opIx, q]) .refl A q2⟩)
    | @xtup a vs l hs r =>
      cases q : (MI.ixN l.length i).bind fun k => l[k]? with
      | none => exact h.none (by simp [opIx, q])
      | some d =>
        obtain ⟨v, q1, q2⟩ := atI_of r q
        exact .inl (.inr ⟨a, vs, i, v, rfl, rfl, hs.seq, q1, h.ok (st' := st) (d := d) (by simp [opIx, q]) .refl A q2⟩)
    | @frz a vs l hs r =>
      cases q : (MI.ixN l.length i).bind fun k => l[k]? with
      | none => exact h.none (by simp [opIx, q])
      | some d =>
        obtain ⟨v, q1, q2⟩ := atI_of r q
        exact .inl (.inl ⟨a, vs, i, v, rfl, rfl, hs.seq, q1, h.ok (st' := st) (d := d) (by simp [opIx, q]) .refl A q2⟩)
    | @loc a n ha =>
      cases e1 : st[n]? with
      | none => exact h.none (by simp [opIx, e1])
      | some o =>
        have q1 := A.get ha e1
        cases q1 with
        | @lst vs l h1 r =>
          cases q : (MI.ixN l.length i).bind fun k => l[k]? with
          | none => exact h.none (by simp [opIx, e1, q])
          | some d =>
            obtain ⟨v, q1, q2⟩ := atI_of r q
            exact .inl (.inl ⟨a, vs, i, v, rfl, rfl, SqL.of h1, q1, h.ok (st' := st) (d := d) (by simp [opIx, e1, q]) .refl A q2⟩)
        | _ => exact h.none (by simp [opIx, e1])
    | str s =>
      cases q : (MI.ixN s.length i).bind fun k => s[k]? with
      | none => exact h.none (by simp [opIx, q])
      | some ch =>
        by_cases hl : s.length < lim
        · refine .inr ⟨sD s, i, ch, rfl, rfl, by rw [sD_len]; exact lim_size hl, ?_, h.ok (st' := st) (d := .str [ch]) (by simp [opIx, q, hl]) .refl A (.str _)⟩
          unfold atI
          have q' := q
          rw [ixN_same] at q'
          simpa using q'
        · exact h.none (by simp [opIx, q, hl])
    | _ => exact h.none rfl
  | _ => cases r1 <;> exact h.none rfl
end
section
variable {X : Cx} {cl : Nat → Addr} {E : EX} {c : MI.Ctx} {a b e : Expr} {ga gb : SE} {pos : Pos}
theorem me_ix (ha : ME X cl E c a ga) (hb : ME X cl E c b gb) (hs : PlainIx b) : ME X cl E c (.Subscript a b pos) (eBin opIx ga gb) := peI (pe_ix ix_all ha hb hs) fun _ _ _ h => tm_op s_ix h

/-! ### a[lo:hi] -/
abbrev MO (X : Cx) (cl : Nat → Addr) (E : EX) (c : MI.Ctx) (e : Option Expr) (g : SO) : Prop := PO X e (TM X.K cl E rO (g c))
theorem poI {e : Option Expr} {t t' : TO} (h : PO X e t) (i : ∀ σ H Q, t' σ H Q → t σ H Q) : PO X e t' := ⟨fun pins s σ H Q I q => h.run pins s σ H Q I (i σ H Q q)⟩
theorem mo_none : MO X cl E c none oNone := poI po_none fun σ H Q h => by
  obtain ⟨ρ, env, st, A, e, h⟩ := h
  exact h.ok (st' := st) rfl .refl A rfl
theorem mo_some (h : ME X cl E c e ga) : MO X cl E c (some e) (oSome ga) := poI (po_some h) fun σ H Q h => by
  obtain ⟨ρ, env, st, A, e, h⟩ := h
  refine (Rest.step (g := ga c) (rV X.K) A e h).imp fun v1 H1 ⟨ρ1, st1, d1, g1, A1, r1, h1⟩ => ?_
  cases r1 with
  | int i =>
    by_cases hi : -lim < i ∧ i < lim
    · exact ⟨i, rfl, h1.ok (st' := st1) (d := some i) (by show (if -(lim : Int) < i ∧ i < lim then MI.ret (some i) else MI.fail) st1 = _; rw [if_pos hi]; rfl) .refl A1 rfl⟩
    · exact h1.none (by show (if -(lim : Int) < i ∧ i < lim then MI.ret (some i) else MI.fail) st1 = none; rw [if_neg hi]; rfl)
  | _ => exact h1.none rfl
theorem cut_same {α : Type} (l : List α) (lo hi : Option Int) : cut l lo hi = (l.drop (HT.sIx l.length 0 lo)).take (HT.sIx l.length l.length hi - HT.sIx l.length 0 lo) := by
  have e : ∀ (d : Nat) (o : Option Int), (o.map (clampI l.length)).getD d = HT.sIx l.length d o := fun d o => by cases o <;> rfl
  unfold cut
  rw [e, e, List.drop_take]
def rSlAll (K : PySem.W.Frag) : V → Option Int → Option Int → Hp → VK → Prop := fun x lo hi H Q => (rSlA K x lo hi H Q ∨ rSlL K x lo hi H Q) ∨ rSlS x lo hi H Q
theorem sl_all : SlR X (rSlAll X.K) := SlR.or (SlR.or sl_tupA sl_list) sl_str
theorem cut_rv {K : PySem.W.Frag} {ρ : List Addr} {H : Hp} {vs : List V} {ds : List D} (r : RvL K H ρ vs ds) (lo hi : Option Int) : RvL K H ρ (cutV vs lo hi) (cut ds lo hi) := by
  rw [cut_same]
  unfold cutV
  rw [r.length]
  exact (r.drop _).take _
theorem s_slc {K : PySem.W.Frag} {σ : L2.St} {Q : VK} {ρ : List Addr} {H : Hp} {st : Stt} {v1 : V} {d1 : D} {lo hi : Option Int} (A : At K cl ρ H st) (r1 : Rv K H ρ v1 d1) (h : Rest K cl E (rV K) σ Q (opSlc d1 lo hi) ρ H st) : rSlAll K v1 lo hi H (fz Q) := by
  cases r1 with
  | @tup a vs l hs r =>
    have e : opSlc (.tup l) lo hi st = some (.ok (.tup (cut l lo hi)), st) := rfl
    refine .inl (.inl ⟨a, vs, rfl, hs, fun q => .inl ?_, fun _ p n => .inl (rest_tup A (cut_rv r lo hi) h e p n)⟩)
    refine h.ok e .refl A ?_
    have : cut l lo hi = l := by
      rw [cut_same, ← r.length, q.1, q.2]
      simp [r.length]
    rw [this]; exact .tup hs r
  | @frz a vs l hs r =>
    exact .inl (.inr ⟨a, vs, rfl, hs.seq, fun p n => rest_frz A (cut_rv r lo hi) h rfl p n⟩)
  | @loc a n ha =>
    cases e1 : st[n]? with
    | none => exact h.none (by simp [opSlc, e1])
    | some o =>
      have q1 := A.get ha e1
      cases q1 with
      | @lst vs l h1 r => exact .inl (.inr ⟨a, vs, rfl, SqL.of h1, fun p n => rest_frz A (cut_rv r lo hi) h (by simp [opSlc, e1]) p n⟩)
      | _ => exact h.none (by simp [opSlc, e1])
  | str s =>
    by_cases hl : s.length < lim
    · refine .inr ⟨sD s, rfl, by rw [sD_len]; exact lim_size hl, ?_⟩
      have e : cutS (sD s) lo hi = sD (cut s lo hi) := by
        unfold cutS
        rw [cut_same, sD_len]
      rw [e]
      exact .inl <| h.ok (st' := st) (d := .str (cut s lo hi)) (by simp [opSlc, hl]) .refl A (.str _)
    · exact h.none (by simp [opSlc, hl])
  | _ => exact h.none rfl
theorem me_slc {lo hi : Option Expr} {gl gh : SO} {p2 : Pos} (ha : ME X cl E c a ga) (hl : MO X cl E c lo gl) (hh : MO X cl E c hi gh) : ME X cl E c (.Subscript a (.Slice lo hi none p2) pos) (eSlc ga gl gh) :=
  peI (pe_fz (pe_slice sl_all ha hl hh)) fun σ H Q h => by
    obtain ⟨ρ, env, st, A, e, h⟩ := h
    refine (Rest.step (g := ga c) (rV X.K) A e h).imp fun v1 H1 ⟨ρ1, st1, d1, g1, A1, r1, h1⟩ => ?_
    refine (Rest.step (g := gl c) rO A1 (e.grow A g1) h1).imp fun v2 H2 ⟨ρ2, st2, d2, g2, A2, r2, h2⟩ => ?_
    refine (Rest.step (g := gh c) rO A2 ((e.grow A g1).grow A1 g2) h2).imp fun v3 H3 ⟨ρ3, st3, d3, g3, A3, r3, h3⟩ => ?_
    have e2 : v2 = d2 := r2
    have e3 : v3 = d3 := r3
    subst e2 e3
    exact s_slc A3 (r1.grow A1 (g2.trans g3)) h3
/-- a[lo:hi:2], lo and hi written -/
theorem me_slc2 {lo hi : Option Expr} {l h' : Option Int} {p2 p3 : Pos} {j : Nat} (ha : ME X cl E c a ga) (hl : MO X cl E c lo (fun _ _ => MI.ret l)) (hh : MO X cl E c hi (fun _ _ => MI.ret h')) : ME X cl E c (.Subscript a (.Slice lo hi (some (.Constant (.int 2) j p3)) p2) pos) (eSlc2 ga l h') :=
  peI (pe_slice2 ha hl hh) fun σ H Q h => by
    obtain ⟨ρ, env, st, A, e, h⟩ := h
    refine (Rest.step (g := ga c) (rV X.K) A e h).imp fun v1 H1 ⟨ρ1, st1, d1, g1, A1, r1, h1⟩ => ?_
    refine ⟨ρ1, env, st1, A1, e.grow A g1, .inl ⟨l, st1, rfl, fun ρ2 H2 v2 g2 A2 r2 => ?_⟩⟩
    refine ⟨ρ2, env, st1, A2, (e.grow A g1).grow A1 g2, .inl ⟨h', st1, rfl, fun ρ3 H3 v3 g3 A3 r3 => ?_⟩⟩
    have e2 : v2 = l := r2
    have e3 : v3 = h' := r3
    subst e2 e3
    have A' := g2.trans g3
    cases r1 with
    | @tup a' vs ds hs r =>
      have r' : Rv X.K H3 ρ3 (.ref a') (.tup ds) := (Rv.tup hs r).grow A1 A'
      cases r' with
      | tup hs' rr =>
        have ev : ∀ {vs : List V} {ds : List D} {H : Hp} {ρ : List Addr}, RvL X.K H ρ vs ds → RvL X.K H ρ (everyOther vs) (everyOther ds) := by
          intro vs ds H ρ r
          suffices ∀ (n : Nat) (vs : List V) (ds : List D), vs.length ≤ n → RvL X.K H ρ vs ds → RvL X.K H ρ (everyOther vs) (everyOther ds) from this _ _ _ (Nat.le_refl _) r
          intro n
          induction n with
          | zero => intro vs ds hn r; cases r with
            | nil => exact .nil
            | cons _ _ => simp at hn
          | succ n ih =>
            intro vs ds hn r
            cases r with
            | nil => exact .nil
            | cons r1 r2 => cases r2 with
              | nil => exact .cons r1 .nil
              | cons r3 r4 => exact .cons r1 (ih _ _ (by simp only [List.length_cons] at hn; omega) r4)
        exact ⟨a', _, rfl, hs', fun p n => rest_tup (m := fun _ => some (.ok (.tup (everyOther (cut ds v2 v3))), st1)) A3 (ev (cut_rv rr v2 v3)) ((h1.eq rfl).base A') rfl p n⟩
    | _ => exact h1.none rfl
theorem mo_lit {i : Int} {j : Nat} (p : Pos) : MO X cl E c (some (.Constant (.int i) j p)) (fun _ _ => MI.ret (some i)) := poI (po_some pe_int) fun σ H Q h => by
  obtain ⟨ρ, env, st, A, e, h⟩ := h
  exact ⟨i, rfl, h.ok (st' := st) rfl .refl A rfl⟩
theorem mo_neg {i : Int} {j : Nat} (p p' : Pos) : MO X cl E c (some (.UnaryOp .USub (.Constant (.int i) j p) p')) (fun _ _ => MI.ret (some (-i))) := poI (po_some (pe_un un_neg pe_int)) fun σ H Q h => by
  obtain ⟨ρ, env, st, A, e, h⟩ := h
  exact ⟨i, rfl, -i, rfl, h.ok (st' := st) rfl .refl A rfl⟩
theorem mo_omit : MO X cl E c none (fun _ _ => MI.ret none) := mo_none

/-! ### o.f -/
theorem me_fld {f : Str} (g : List Nat) (ha : ME X cl E c e ga) (hf : f = sD g := by decide +kernel) (hb : attributeBase e f X.env (eval e X.env) = eval e X.env := by rfl) : ME X cl E c (.Attribute e f pos) (eFld ga g) :=
  peI (pe_fld ha hb) fun σ H Q h => by
    subst hf
    obtain ⟨ρ, env, st, A, e, h⟩ := h
    refine (Rest.step (g := ga c) (rV X.K) A e h).imp fun v1 H1 ⟨ρ1, st1, d1, g1, A1, r1, h1⟩ => ?_
    cases r1 with
    | @loc a n ha =>
      cases e1 : st1[n]? with
      | none => exact h1.none (by simp [opFld, e1])
      | some o =>
        have q1 := A1.get ha e1
        cases q1 with
        | @ins dx k vfs fs h2 r hc hn =>
          rcases r.look (f := g) with ⟨q, _⟩ | ⟨d, v, q2, q3, q4⟩
          · exact h1.none (by simp [opFld, e1, q])
          · have hm : ∃ p ∈ fs, p.1 = g := by
              unfold MI.getD at q2
              obtain ⟨p, hp, _⟩ := Option.map_eq_some_iff.mp q2
              exact ⟨p, List.mem_of_find?_eq_some hp, by simpa using List.find?_some hp⟩
            obtain ⟨p, hp, hpg⟩ := hm
            have hno : NoAttr X.K (cl k) (sD g) := by rw [← hpg]; exact hn p hp
            exact ⟨a, cl k, dx, vfs, v, rfl, h2, hc, hno, q3, h1.ok (st' := st1) (d := d) (by simp [opFld, e1, q2]) .refl A1 q4⟩
        | _ => exact h1.none (by simp [opFld, e1])
    | _ => exact h1.none rfl
end

/-! ### exceptions: a wish of the layer's, as a wish of ours -/
def XD (K : PySem.W.Frag) (d : Option Addr) (H : Hp) (ρ : List Addr) (fs : List (List Nat × D)) : Prop := match d with
  | none => fs = []
  | some dx => ∃ vfs, H dx = some (.xd vfs) ∧ RvF K H ρ vfs fs
def EXW (K : PySem.W.Frag) (cl : Nat → Addr) (W : WX) : EX := fun k fs σ ρ H _ => ∀ d, XD K d H ρ fs → W (.ref (cl k)) d σ H
def EXK (K : PySem.W.Frag) (cl : Nat → Addr) (E : XK) : EX := fun k fs _ ρ H _ => ∀ d, XD K d H ρ fs → E (.ref (cl k)) d H

/-! ### what a def promises: it does what g does -/
def spOf (K : PySem.W.Frag) (cl : Nat → Addr) (n : Nat) (g : List D → MI.R D) : Sp := fun vs H Q E => vs.length = n ∧ ∃ ρ ds st, At K cl ρ H st ∧ RvL K H ρ vs ds ∧ Rest K cl (EXK K cl E) (rV K) [] Q (g ds) ρ H st
/-- the def at f does what g does -/
def FnT (P : Program) (w : World) (K : PySem.W.Frag) (mg : Str → Option Value) (base : Heap) (cl : Nat → Addr) (lv : Nat) (f : Addr) (g : List D → MI.R D) : Prop :=
  ∃ (fd : FuncData) (ps : List Str), FnOk P w K mg base (L2.CX P w) lv f fd ps (spOf K cl ps.length g) ∧ Binds K fd ps [] ∧ PySem.W.keepIn K (.ref f) = true ∧ ∀ ds st r, g ds st = some r → ds.length = ps.length
theorem FnT.sp {K : PySem.W.Frag} {cl : Nat → Addr} {n : Nat} {g : List D → MI.R D} {σ : L2.St} {Q : VK} {W : WX} {ρ : List Addr} {H : Hp} {st : Stt} {vs : List V} {ds : List D}
    (ar : ∀ ds st r, g ds st = some r → ds.length = n) (A : At K cl ρ H st) (r : RvL K H ρ vs ds) (h : Rest K cl (EXW K cl W) (rV K) σ Q (g ds) ρ H st) : spOf K cl n g vs H Q (WE W σ) := by
  refine ⟨?_, ρ, ds, st, A, r, ?_⟩
  · rw [r.length]
    rcases h with ⟨d, st', e, _⟩ | ⟨k, fs, st', e, _⟩
    · exact ar _ _ _ e
    · exact ar _ _ _ e
  · rcases h with h | ⟨k, fs, st', e, h⟩
    · exact .inl h
    · exact .inr ⟨k, fs, st', e, h⟩
/-- the surroundings of a def's body -/
structure Good (X : Cx) (W : WX) (cl : Nat → Addr) (c : MI.Ctx) (lv : Nat) : Prop where
  tk : Takes X W
  room : Room (lv + 1) X.A
  calm : X.calm = true
  nd : X.N.Nodup
  flds : ∀ k f, c.flds k f = true → NoAttr X.K (cl k) (sD f) ∧ Cls X.K (cl k)
  meth : ∀ k m f, c.meth k m = some f → ∃ fA, Meth X.K (cl k) (sD m) fA ∧ FnT X.prog X.w X.K X.mg X.base cl lv fA (c.call f)
theorem Good.hu {X : Cx} {W : WX} {cl : Nat → Addr} {c : MI.Ctx} {lv : Nat} (G : Good X W cl c lv) : X.A.units + 65 < cLine := by
  have := G.room.un
  omega
end MS

set_option Elab.async false
set_option linter.all false
set_option maxRecDepth 100000
set_option maxHeartbeats 4000000
/-! MS6: calls of defs, methods, classes. -/
namespace MS
open PySem PySem.Spec PyProof.Rows L2 MI

section
variable {X : Cx} {W : WX} {cl : Nat → Addr} {c : MI.Ctx} {lv : Nat} {x m : Str} {p pos apos : Pos} {e o : Expr} {es : List Expr} {gl : SL} {ga : SE}
/-- f is the def that the module's x names -/
def FnG (X : Cx) (cl : Nat → Addr) (c : MI.Ctx) (lv : Nat) (x : Str) (f : Nat) : Prop := ∃ fA, X.mg x = some (.ref fA) ∧ FnT X.prog X.w X.K X.mg X.base cl lv fA (c.call f)
theorem me_call {f : Nat} (G : Good X W cl c lv) (F : FnG X cl c lv x f) (hg : Gl X x) (ha : MA X cl (EXW X.K cl W) c (e :: es) gl) (hdb : (x == ("__debug__" : Str)) = false := by decide +kernel)
    (he : starEach (e :: es) X.env = (false, eval e X.env) :: starEach es X.env := by rfl) (hpl : (backTo pos (starEach es X.env)).any (·.1) = false := by rfl) :
    ME X cl (EXW X.K cl W) c (.Call (.Name x p) (e :: es) [] pos) (eCall f gl) := by
  obtain ⟨fA, hm, fd, ps, F, hb, hk, ar⟩ := F
  refine peI (pe_callS F (G.room.mono (Nat.le_succ _)) hg hm hk hb (fun σ => passAt G.tk σ) ha hdb he hpl) fun σ H Q h => ?_
  obtain ⟨ρ, env, st, A, e, h⟩ := h
  exact (Rest.step (g := gl c) (rL X.K) A e h).imp fun vs H1 ⟨ρ1, st1, ds, g1, A1, r1, h1⟩ => FnT.sp ar A1 r1 h1
theorem me_call0 {f : Nat} (G : Good X W cl c lv) (F : FnG X cl c lv x f) (hg : Gl X x) (hdb : (x == ("__debug__" : Str)) = false := by decide +kernel) :
    ME X cl (EXW X.K cl W) c (.Call (.Name x p) [] [] pos) (eCall f lNil) := by
  obtain ⟨fA, hm, fd, ps, F, hb, hk, ar⟩ := F
  refine ⟨fun pins s σ H Q I h => ?_⟩
  refine wpAny_Call_Name_kw (ld_glob I hg hm ?_ hdb)
  refine PySem.W.callWith_K0 I.kIn hk (run_fnS (us := []) (vs := []) (E := WE W) F (G.room.mono (Nat.le_succ _)) hb (passAt G.tk σ) I .nil ?_)
  obtain ⟨ρ, env, st, A, e, h⟩ := h
  exact FnT.sp ar A .nil (h.eq rfl)

/-- o.m(..), the class found at the call -/
def tMethD (X : Cx) (W : WX) (m : Str) (ta : TE) (t : TA) : TE := fun σ H Q => ta σ H fun x H1 => ∃ a C dx fs f fd ps sp k, x = .ref a ∧ H1 a = some (.ins C dx fs) ∧ Cls X.K C ∧ Meth X.K C m f ∧ fs.lookup m = none ∧
  FnOk X.prog X.w X.K X.mg X.base (L2.CX X.prog X.w) k f fd ps sp ∧ Room k X.A ∧ Binds X.K fd ps [] ∧ t σ H1 fun vs H2 => sp (x :: vs) H2 Q (WE W σ)
theorem pe_methD {pl : Sem Bool} {ta : TE} {t : TA} (tk : Takes X W) (he : PE X o ta) (ha : PA X (e :: es) t)
    (hst : starEach (e :: es) X.env = (false, eval e X.env) :: starEach es X.env := by rfl) (hpl : (backTo pos (starEach es X.env)).any (·.1) = false := by rfl)
    (ht : eval (.Call (.Attribute o m apos) (e :: es) [] pos) X.env = (do
      let ov ← eval o X.env
      standAt apos.atName
      let (f, first) ← holding [ov] (getMethod ov m pl)
      callWith pos f first (backTo pos (starEach (e :: es) X.env)) (backToKw pos (keywordEach [] X.env))) := by rfl) :
    PE X (.Call (.Attribute o m apos) (e :: es) [] pos) (tMethD X W m ta t) := by
  refine ⟨fun pins s σ H Q I h => ?_⟩
  refine PySem.W.methodCall_KW (pl := pl) (thn (he.run pins s σ H _ I h) fun u s1 ⟨x, H1, I1, rx, a, C, dx, fs, f, fd, ps, sp, k, ex, ea, c, hm, l, F, hr, hb, q⟩ => ?_) ht
  subst ex
  obtain rfl : u = Value.ref a := rx
  refine getmeth_ok I1 ea c hm l ?_
  refine PySem.W.callWith_K (first := [.ref a]) (h₀ := X.base) I.ok.mod.kin hm.kp (thn (ha.run pos pins s1 σ H1 _ I1 q) fun us s2 ⟨vs, H2, I2, r, q2⟩ => ⟨I2.kIn, ?_⟩) hst hpl
  exact run_fnS (us := .ref a :: us) (vs := .ref a :: vs) F hr hb (passAt tk σ) I2 (.cons rfl r) q2
theorem pe_methD0 {pl : Sem Bool} {ta : TE} (tk : Takes X W) (he : PE X o ta)
    (ht : eval (.Call (.Attribute o m apos) [] [] pos) X.env = (do
      let ov ← eval o X.env
      standAt apos.atName
      let (f, first) ← holding [ov] (getMethod ov m pl)
      callWith pos f first (backTo pos (starEach [] X.env)) (backToKw pos (keywordEach [] X.env))) := by rfl) :
    PE X (.Call (.Attribute o m apos) [] [] pos) (tMethD X W m ta tNil) := by
  refine ⟨fun pins s σ H Q I h => ?_⟩
  refine PySem.W.methodCall_KW (pl := pl) (thn (he.run pins s σ H _ I h) fun u s1 ⟨x, H1, I1, rx, a, C, dx, fs, f, fd, ps, sp, k, ex, ea, c, hm, l, F, hr, hb, q⟩ => ?_) ht
  subst ex
  obtain rfl : u = Value.ref a := rx
  refine getmeth_ok I1 ea c hm l ?_
  exact PySem.W.callWith_K0 (first := [.ref a]) I1.kIn hm.kp (run_fnS (us := [.ref a]) (vs := [.ref a]) F hr hb (passAt tk σ) I1 (.cons rfl .nil) q)
theorem tm_meth (G : Good X W cl c lv) (n : List Nat) {σ : L2.St} {H : Hp} {Q : VK} (h : TM X.K cl (EXW X.K cl W) (rV X.K) (eMeth ga n gl c) σ H Q) :
    tMethD X W (sD n) (TM X.K cl (EXW X.K cl W) (rV X.K) (ga c)) (TM X.K cl (EXW X.K cl W) (rL X.K) (gl c)) σ H Q := by
  obtain ⟨ρ, env, st, A, e, h⟩ := h
  refine (Rest.step (g := ga c) (rV X.K) A e h).imp fun v1 H1 ⟨ρ1, st1, d1, g1, A1, r1, h1⟩ => ?_
  have bad : opRes c n d1 st1 = none → ∀ {P : Prop}, P := fun q => h1.none (bnd_none q)
  cases r1 with
  | @loc a i ha =>
    cases e1 : st1[i]? with
    | none => exact bad (by simp [opRes, e1])
    | some ob =>
      have q1 := A1.get ha e1
      cases q1 with
      | @ins dx k vfs fs h2 r hc hn =>
        cases q : c.meth k n with
        | none => exact bad (by simp [opRes, e1, q])
        | some f =>
          rcases r.look (f := n) with ⟨q0, l0⟩ | ⟨d, v, q2, _⟩
          · obtain ⟨fA, hM, fd, ps, F, hb, hk, ar⟩ := G.meth k n f q
            refine ⟨a, cl k, dx, vfs, fA, fd, ps, _, lv, rfl, h2, hc, hM, l0, F, G.room.mono (Nat.le_succ _), hb, ?_⟩
            have e2 : opRes c n (.loc i) st1 = some (.ok f, st1) := by simp [opRes, e1, q, q0]
            have h1' : Rest X.K cl (EXW X.K cl W) (rV X.K) σ Q (bnd (gl c env) fun xs => c.call f (.loc i :: xs)) ρ1 H1 st1 := h1.eq (bnd_inv e2)
            refine (Rest.step (g := gl c) (rL X.K) A1 (e.grow A g1) h1').imp fun vs H2 ⟨ρ2, st2, ds, g2, A2, r2, h3⟩ => ?_
            exact FnT.sp ar A2 (.cons ((Rv.loc ha).grow A1 g2) r2) h3
          · exact bad (by simp [opRes, e1, q, q2])
      | _ => exact bad (by simp [opRes, e1])
  | _ => exact bad rfl
theorem me_meth {pl : Sem Bool} (G : Good X W cl c lv) (n : List Nat) (hn : m = sD n) (ho : ME X cl (EXW X.K cl W) c o ga) (ha : MA X cl (EXW X.K cl W) c (e :: es) gl)
    (hst : starEach (e :: es) X.env = (false, eval e X.env) :: starEach es X.env := by rfl) (hpl : (backTo pos (starEach es X.env)).any (·.1) = false := by rfl)
    (ht : eval (.Call (.Attribute o m apos) (e :: es) [] pos) X.env = (do
      let ov ← eval o X.env
      standAt apos.atName
      let (f, first) ← holding [ov] (getMethod ov m pl)
      callWith pos f first (backTo pos (starEach (e :: es) X.env)) (backToKw pos (keywordEach [] X.env))) := by rfl) :
    ME X cl (EXW X.K cl W) c (.Call (.Attribute o m apos) (e :: es) [] pos) (eMeth ga n gl) :=
  peI (pe_methD G.tk ho ha hst hpl ht) fun _ _ _ h => by subst hn; exact tm_meth G n h
theorem me_meth0 {pl : Sem Bool} (G : Good X W cl c lv) (n : List Nat) (hn : m = sD n) (ho : ME X cl (EXW X.K cl W) c o ga)
    (ht : eval (.Call (.Attribute o m apos) [] [] pos) X.env = (do
      let ov ← eval o X.env
      standAt apos.atName
      let (f, first) ← holding [ov] (getMethod ov m pl)
      callWith pos f first (backTo pos (starEach [] X.env)) (backToKw pos (keywordEach [] X.env))) := by rfl) :
    ME X cl (EXW X.K cl W) c (.Call (.Attribute o m apos) [] [] pos) (eMeth ga n lNil) :=
  peI (pe_methD0 G.tk ho ht) fun σ H Q h => by
    subst hn
    refine (tm_meth G n h).imp fun v1 H1 q => ?_
    obtain ⟨a, C, dx, fs, f, fd, ps, sp, k, q1, q2, q3, q4, q5, q6, q7, q8, ρ, env, st, A, e, q9⟩ := q
    exact ⟨a, C, dx, fs, f, fd, ps, sp, k, q1, q2, q3, q4, q5, q6, q7, q8, q9.ok (st' := st) rfl .refl A .nil⟩

/-! ### C(..) -/
theorem run_makeS {k : Nat} {C f : Addr} {fd : FuncData} {ps : List Str} {sp : Sp} {pins : List (Addr × Obj)} {σ : L2.St} {H : Hp} {s : Shared} {Q : VK} {us : List Value} {vs : List V} (tk : Takes X W) (M : Mk X.K C f) (F : FnOk X.prog X.w X.K X.mg X.base (L2.CX X.prog X.w) k f fd ps sp) (hr : Room (k + 1) X.A) (hb : Binds X.K fd ps [])
    (I : Inv X pins σ H s) (r : Vals vs us)
    (h : ∀ x dx, H x = none → H dx = none → dx ≠ x → sp (.ref x :: vs) (upd (upd H dx (.own x)) x (.ins C dx [])) (fun v H2 => v = .non ∧ Q (.ref x) H2) (WE W σ)) :
    wpAny (model X.prog X.w) X.A (call (.ref C) us) (EP X pins σ Q) X.xe s := by
  have hq := h (s.heap.objs.size + 1) s.heap.objs.size (I.hok.fresh (Nat.le_succ _)) (I.hok.fresh (Nat.le_refl _)) (Nat.ne_of_lt (Nat.lt_succ_self _))
  have I2 := Inv.made (C := C) I
  have r2 : Vals (V.ref (s.heap.objs.size + 1) :: vs) (Value.ref (s.heap.objs.size + 1) :: us) := .cons rfl r
  have hl : (Value.ref (s.heap.objs.size + 1) :: us).length = ps.length := by
    have e := r2.length
    rw [F.len _ _ _ _ hq] at e
    exact e.symm
  have b := hb _ (Value.ref (s.heap.objs.size + 1) :: us) I2.kIn (by rw [List.append_nil]; exact hl)
  rw [List.append_nil] at b
  refine wpAny_call (make_map (f := f) I.kIn M.makes M.init (beq_iff_eq.mp M.fn) (codeAny_mono (F.run _ X.stack _ _ ⟨Value.ref (s.heap.objs.size + 1) :: us, []⟩ (Value.ref (s.heap.objs.size + 1) :: us) _ _ (WE W σ) (hr.make C us [])
    (I2.env0.make C us []) b r2 hq) fun r s' hq' => ?_))
  cases r with
  | error e => exact passAt tk σ pins _ _ e s' I2 hq'
  | ok fl =>
    cases fl with
    | ret u =>
      obtain ⟨v, H', I3, rv, ev, q3⟩ := I2.after hq'
      subst ev
      exact ⟨rv, ⟨V.ref (s.heap.objs.size + 1), H', I3, rfl, q3⟩⟩
    | next => exact False.elim hq'
    | brk => exact False.elim hq'
    | cont => exact False.elim hq'
/-- the module's x is the class number k, whose __init__ is the def f -/
def ClG (X : Cx) (cl : Nat → Addr) (c : MI.Ctx) (lv : Nat) (x : Str) (k f : Nat) : Prop := X.mg x = some (.ref (cl k)) ∧ Cls X.K (cl k) ∧ ∃ fA, Mk X.K (cl k) fA ∧ FnT X.prog X.w X.K X.mg X.base cl lv fA (c.call f)
theorem me_make {k f : Nat} (G : Good X W cl c lv) (F : ClG X cl c lv x k f) (hg : Gl X x) (ha : MA X cl (EXW X.K cl W) c (e :: es) gl) (hdb : (x == ("__debug__" : Str)) = false := by decide +kernel)
    (he : starEach (e :: es) X.env = (false, eval e X.env) :: starEach es X.env := by rfl) (hpl : (backTo pos (starEach es X.env)).any (·.1) = false := by rfl) :
    ME X cl (EXW X.K cl W) c (.Call (.Name x p) (e :: es) [] pos) (eMake k f gl) := by
  obtain ⟨hm, hC, fA, M, fd, ps, F, hb, hk, ar⟩ := F
  refine ⟨fun pins s σ H Q I h => ?_⟩
  obtain ⟨ρ, env, st, A, e', h⟩ := h
  refine wpAny_Call_Name_kw (ld_glob I hg hm ?_ hdb)
  refine PySem.W.callWith_K (h₀ := X.base) I.ok.mod.kin M.kp (thn (ha.run pos pins s σ H _ I (Rest.step (g := gl c) (rL X.K) A e' h)) fun us s1 ⟨vs, H1, I1, r, q⟩ => ⟨I1.kIn, ?_⟩) he hpl
  obtain ⟨ρ1, st1, ds, g1, A1, r1, h1⟩ := q
  refine run_makeS G.tk M F G.room hb I1 r fun x dx nx ndx nex => ?_
  obtain ⟨A2, g2⟩ := A1.side (o := .own x) ndx
  have nx2 : upd H1 dx (.own x) x = none := by rw [upd_ne (fun q => nex q.symm)]; exact nx
  obtain ⟨A3, g3⟩ := A2.push (o := .ins (cl k) dx []) (ob := .ins k []) nx2 (.ins upd_same .nil hC (fun p hp => by cases hp))
  have g23 := g2.trans g3
  have r3 : RvL X.K (upd (upd H1 dx (.own x)) x (.ins (cl k) dx [])) (ρ1 ++ [x]) (.ref x :: vs) (.loc st1.length :: ds) := .cons (.loc (by rw [← A1.len]; simp)) (r1.grow A1 g23)
  have h2 : Rest X.K cl (EXW X.K cl W) (rV X.K) σ Q (bnd (c.call f (.loc st1.length :: ds)) (mkEnd (D.loc st1.length))) (ρ1 ++ [x]) (upd (upd H1 dx (.own x)) x (.ins (cl k) dx [])) (st1 ++ [.ins k []]) := by
    rcases h1 with ⟨d, st', q, kk⟩ | ⟨kc, fs, st', q, kk⟩
    · exact .inl ⟨d, st', q, fun ρ' H' v g' A' r' => kk ρ' H' v (g23.trans g') A' r'⟩
    · exact .inr ⟨kc, fs, st', q, fun ρ' H' g' A' => kk ρ' H' (g23.trans g') A'⟩
  -- the def's own promise, and what is wanted behind it
  have hlen : (.ref x :: vs : List V).length = ps.length := by
    rw [r3.length]
    rcases h2 with ⟨d, st', q, _⟩ | ⟨kc, fs, st', q, _⟩
    all_goals
      unfold bnd at q
      cases qq : c.call f (.loc st1.length :: ds) (st1 ++ [.ins k []]) with
      | none => rw [qq] at q; cases q
      | some rr => exact ar _ _ _ qq
  refine ⟨hlen, ρ1 ++ [x], _, st1 ++ [.ins k []], A3, r3, ?_⟩
  have step : ∀ rr, bnd (c.call f (.loc st1.length :: ds)) (mkEnd (D.loc st1.length)) (st1 ++ [.ins k []]) = some rr →
      (∃ s3, c.call f (.loc st1.length :: ds) (st1 ++ [.ins k []]) = some (.ok .non, s3) ∧ rr = (.ok (.loc st1.length), s3)) ∨ (∃ kc fs s3, c.call f (.loc st1.length :: ds) (st1 ++ [.ins k []]) = some (.exc kc fs, s3) ∧ rr = (.exc kc fs, s3)) := fun rr q => by
    unfold bnd at q
    cases qq : c.call f (.loc st1.length :: ds) (st1 ++ [.ins k []]) with
    | none => rw [qq] at q; cases q
    | some pr =>
      obtain ⟨rs, s3⟩ := pr
      rw [qq] at q
      cases rs with
      | exc kc fs => exact .inr ⟨kc, fs, s3, rfl, (Option.some.inj q).symm⟩
      | ok z =>
        cases z with
        | non => exact .inl ⟨s3, rfl, (Option.some.inj q).symm⟩
        | _ => cases q
  rcases h2 with ⟨d, st', q, kk⟩ | ⟨kc, fs, st', q, kk⟩
  · rcases step _ q with ⟨s3, q1, q2⟩ | ⟨kc, fs, s3, q1, q2⟩
    · cases q2
      refine .inl ⟨.non, st', q1, fun ρ' H' v g' A' r' => ?_⟩
      cases r'
      refine ⟨rfl, kk ρ' H' _ g' A' ?_⟩
      obtain ⟨ee, rfl⟩ := g'.ext
      exact .loc (by rw [← A1.len]; simp)
    · cases q2
  · rcases step _ q with ⟨s3, q1, q2⟩ | ⟨kc', fs', s3, q1, q2⟩
    · cases q2
    · cases q2
      exact .inr ⟨_, _, _, q1, kk⟩
end
end MS

set_option Elab.async false
set_option linter.all false
set_option maxRecDepth 100000
set_option maxHeartbeats 4000000
/-! MSR7: rules of our own: extend by a list that is only read. -/
namespace MS
open PySem PySem.Spec PyProof.Rows L2
theorem list_extendW (l : Addr) (items : Array Value) (n : Nat) (b : Addr) (items2 : Array Value) (n2 : Nat) (dd2 : Option Addr) (sl2 : Array (Option Value)) (hc0 : ¬(!items.isEmpty && Builtin.List.listTooLong (items.size + items2.size)) = true) (hc1 : items.size ≤ sizeLine) (hs2 : items.size + items2.size ≤ sizeLine + 1) :
    Meets (Builtin.«list.extend» ⟨[.ref l, .ref b], []⟩) (fun _ R s => s.heap.get? l = some { cls := .type "list", dict := none, data := .seq items n, slots := #[] } ∧ s.heap.get? b = some { cls := .type "list", dict := dd2, data := .seq items2 n2, slots := sl2 } ∧ R (.ok (.ret Value.none)) { s with heap := s.heap.update l (Obj.mapSeq fun x => x ++ items2), toks := s.toks }) :=
  .of_wp fun prog w A R s h => by
    obtain ⟨hp, g, d, tk, os⟩ := s; obtain ⟨hl, hb, h⟩ := h
    have f1 := AutoSeq1.idx_int; have f2 := AutoSeq1.sub_tuple_tuple; have f3 := AutoSeq1.sub_list_list; have f4 := AutoSeq1.sub_tuple_list; have f5 := AutoSeq1.sub_list_tuple
    have hz' : (items ++ items2).size ≤ sizeLine + 1 := by rw [Array.size_append]; exact hs2
    wp_walk using (wpAny_updateSeq hl rfl (hz := hc1) (_hz' := hz')), AutoSeq1.wpAny_loadPart' hl, AutoSeq1.wpAny_loadPart' hb
    exact ⟨_, rfl, h⟩
def rExtendS (K : PySem.W.Frag) : V → List V → Hp → VK → Prop := fun x vs H Q => ∃ l b xs zs, x = .ref l ∧ vs = [.ref b] ∧ H l = some (.lst xs) ∧ SqL K H b zs ∧ xs.length + zs.length ≤ sizeLine ∧ Q .non (upd H l (.lst (xs ++ zs)))
theorem mt_extendS {X : Cx} : MtM X "list.extend" (rExtendS X.K) := by
  intro pins s σ H x vs v us Q I rx rv h
  obtain ⟨l, b, xs, zs, rfl, rfl, hH, hB, hz, q⟩ := h
  cases rx
  obtain ⟨u, rfl, ru⟩ := rv.one
  cases ru
  obtain ⟨z, its, n, r, hl, e⟩ := I.lstM hH
  obtain ⟨its2, r2, pl, hl2'⟩ := I.list hB
  have hl2 := r2.length
  obtain ⟨⟨cls, dd2, data2, sl2⟩, n2, e2, hc, hd, hdt⟩ := id pl
  simp only at hc hd hdt
  subst hc hd hdt
  have hsz : its.toArray.size + its2.toArray.size ≤ sizeLine := by rw [List.size_toArray, List.size_toArray]; omega
  have hlong : ¬ (!its.toArray.isEmpty && Builtin.List.listTooLong (its.toArray.size + its2.toArray.size)) = true := by
    rw [notLongL hsz, Bool.and_false]
    exact Bool.false_ne_true
  refine call_meets F.slot_list_extend ⟨_, e, rfl⟩ F.entry_list_extend (F.args_list_extend_2 _ _)
    (list_extendW l its.toArray n b its2.toArray n2 _ sl2 hlong (by rw [List.size_toArray]; omega) (by omega)) ⟨e, e2, ?_⟩
  refine ⟨.non, _, I.lset (its' := its ++ its2) hH e (by simp) (r.append r2) ?_, rfl, q⟩
  rw [List.length_append]
  omega
end MS

set_option Elab.async false
set_option linter.all false
set_option maxRecDepth 100000
set_option maxHeartbeats 4000000
/-! MS7: built-in functions and methods. -/
namespace MS
open PySem PySem.Spec PyProof.Rows L2 MI

section
variable {X : Cx} {cl : Nat → Addr} {E : EX} {c : MI.Ctx} {x : Str} {p pos apos cpos : Pos} {e e' o : Expr} {es : List Expr} {ga gb : SE} {id T : String}
/-- a built-in of one, of two arguments -/
def Ca1 (K : PySem.W.Frag) (cl : Nat → Addr) (E : EX) (f : D → MI.R D) (r : List V → Hp → VK → Prop) : Prop := UnS K cl E f fun v H Q => r [v] H Q
def Ca2 (K : PySem.W.Frag) (cl : Nat → Addr) (E : EX) (f : D → D → MI.R D) (r : List V → Hp → VK → Prop) : Prop := OpS K cl E f fun v u H Q => r [v, u] H Q
theorem tm_args1 {r : List V → Hp → VK → Prop} {σ : L2.St} {H : Hp} {Q : VK} (h : TM X.K cl E (rV X.K) (ga c) σ H fun v H1 => r [v] H1 Q) : tCB r (tCons (TM X.K cl E (rV X.K) (ga c)) tNil) σ H Q := h
theorem me_b1 {f : D → MI.R D} {r : List V → Hp → VK → Prop} (hc : CallR X (.builtin id) r) (hs : Ca1 X.K cl E f r) (hg : Gl X x) (hm : X.mg x = none) (hv : bootBuiltins x = some (.builtin id)) (ha : ME X cl E c e ga) (hn : x ≠ "__name__" := by decide +kernel) (hdb : (x == ("__debug__" : Str)) = false := by decide +kernel)
    (he : starEach [e] X.env = (false, eval e X.env) :: starEach [] X.env := by rfl) : ME X cl E c (.Call (.Name x p) [e] [] pos) (eUn f ga) :=
  peI (pe_callB hc hg hm hv (pa_cons ha pa_nil he) hn hdb he (by rfl)) fun σ H Q h => tm_args1 (tm_un (f := f) (r := fun v H Q => r [v] H Q) hs h)
theorem me_t1 {f : D → MI.R D} {r : List V → Hp → VK → Prop} (hc : CallR X (.type T) r) (hs : Ca1 X.K cl E f r) (hg : Gl X x) (hm : X.mg x = none) (hv : bootBuiltins x = some (.type T)) (ha : ME X cl E c e ga) (hn : x ≠ "__name__" := by decide +kernel) (hdb : (x == ("__debug__" : Str)) = false := by decide +kernel)
    (he : starEach [e] X.env = (false, eval e X.env) :: starEach [] X.env := by rfl) : ME X cl E c (.Call (.Name x p) [e] [] pos) (eUn f ga) :=
  peI (pe_callTy hc hg hm hv (pa_cons ha pa_nil he) hn hdb he (by rfl)) fun σ H Q h => tm_args1 (tm_un (f := f) (r := fun v H Q => r [v] H Q) hs h)
theorem me_b2 {f : D → D → MI.R D} {r : List V → Hp → VK → Prop} (hc : CallR X (.builtin id) r) (hs : Ca2 X.K cl E f r) (hg : Gl X x) (hm : X.mg x = none) (hv : bootBuiltins x = some (.builtin id)) (ha : ME X cl E c e ga) (hb : ME X cl E c e' gb) (hn : x ≠ "__name__" := by decide +kernel) (hdb : (x == ("__debug__" : Str)) = false := by decide +kernel)
    (he : starEach [e, e'] X.env = (false, eval e X.env) :: starEach [e'] X.env := by rfl) (he' : starEach [e'] X.env = (false, eval e' X.env) :: starEach [] X.env := by rfl) (hpl : (backTo pos (starEach [e'] X.env)).any (·.1) = false := by rfl) : ME X cl E c (.Call (.Name x p) [e, e'] [] pos) (eBin f ga gb) :=
  peI (pe_callB hc hg hm hv (pa_cons ha (pa_cons hb pa_nil he') he) hn hdb he hpl) fun σ H Q h => tm_op (f := f) (r := fun v u H Q => r [v, u] H Q) hs h
end

section
variable {K : PySem.W.Frag} {cl : Nat → Addr} {E : EX}
/-! ### what each does -/
theorem s_len : Ca1 K cl E bLen (fun xs H Q => ∃ x n, xs = [x] ∧ LenV K x H n ∧ Q (.int n) H) := by
  intro σ Q ρ H st v1 d1 A r1 h
  cases r1 with
  | @tup a vs l hs r => exact ⟨_, l.length, rfl, .inr ⟨vs, hs, r.length.symm⟩, h.ok (st' := st) rfl .refl A (.int _)⟩
  | @xtup a vs l hs r => exact ⟨_, l.length, rfl, .inr ⟨vs, hs.seq, r.length.symm⟩, h.ok (st' := st) rfl .refl A (.int _)⟩
  | @frz a vs l hs r => exact ⟨_, l.length, rfl, .inl ⟨vs, hs.seq, r.length.symm⟩, h.ok (st' := st) rfl .refl A (.int _)⟩
  | @loc a n ha =>
    cases e1 : st[n]? with
    | none => exact h.none (by simp [bLen, e1])
    | some o =>
      have q1 := A.get ha e1
      cases q1 with
      | @lst vs l h1 r => exact ⟨_, l.length, rfl, .inl ⟨vs, SqL.of h1, r.length.symm⟩, h.ok (st' := st) (d := .int l.length) (by simp [bLen, e1]) .refl A (.int _)⟩
      | _ => exact h.none (by simp [bLen, e1])
  | str s =>
    by_cases hl : s.length < lim
    · exact ⟨_, s.length, rfl, ⟨by rw [sD_len]; exact lim_size hl, (sD_len s).symm⟩, h.ok (st' := st) (d := .int s.length) (by simp [bLen, hl]) .refl A (.int _)⟩
    · exact h.none (by simp [bLen, hl])
  | _ => exact h.none rfl
theorem s_int : Ca1 K cl E bInt (fun xs H Q => (∃ i, xs = [.int i] ∧ Q (.int i) H) ∨ ∃ k, xs = [.bl k] ∧ Q (.int (if k then 1 else 0)) H) := by
  intro σ Q ρ H st v1 d1 A r1 h
  cases r1 with
  | int i => exact .inl ⟨i, rfl, h.ok (st' := st) rfl .refl A (.int _)⟩
  | bl k => exact .inr ⟨k, rfl, h.ok (st' := st) (d := .int (if k then 1 else 0)) rfl .refl A (.int _)⟩
  | _ => exact h.none rfl
theorem s_abs : Ca1 K cl E bAbs (fun xs H Q => ∃ i, xs = [.int i] ∧ Q (.int (if i < 0 then -i else i)) H) := by
  intro σ Q ρ H st v1 d1 A r1 h
  cases r1 with
  | int i => exact ⟨i, rfl, h.ok (st' := st) rfl .refl A (.int _)⟩
  | _ => exact h.none rfl
theorem s_max2 : Ca2 K cl E bMax2 (fun xs H Q => ∃ i j, xs = [.int i, .int j] ∧ Q (.int (if j > i then j else i)) H) := by
  intro σ Q ρ H st v1 v2 d1 d2 A r1 r2 h
  cases r1 with
  | int i =>
    cases r2 with
    | int j => exact ⟨i, j, rfl, h.ok (st' := st) rfl .refl A (.int _)⟩
    | _ => exact h.none rfl
  | _ => exact h.none rfl
theorem s_min2 : Ca2 K cl E bMin2 (fun xs H Q => ∃ i j, xs = [.int i, .int j] ∧ Q (.int (if j < i then j else i)) H) := by
  intro σ Q ρ H st v1 v2 d1 d2 A r1 r2 h
  cases r1 with
  | int i =>
    cases r2 with
    | int j => exact ⟨i, j, rfl, h.ok (st' := st) rfl .refl A (.int _)⟩
    | _ => exact h.none rfl
  | _ => exact h.none rfl
/-- a list or tuple, by its items -/
theorem seqOf_ok {ρ : List Addr} {H : Hp} {st : Stt} {v : V} {d : D} (A : At K cl ρ H st) (r : Rv K H ρ v d) :
    seqOf d st = Option.none ∨ ∃ a vs l, v = .ref a ∧ seqOf d st = some (.ok l, st) ∧ RvL K H ρ vs l ∧ (SqL K H a vs ∨ SqT K H a vs) := by
  cases r with
  | @tup a vs l hs r => exact .inr ⟨a, vs, l, rfl, rfl, r, .inr hs⟩
  | @xtup a vs l hs r => exact .inr ⟨a, vs, l, rfl, rfl, r, .inr hs.seq⟩
  | @frz a vs l hs r => exact .inr ⟨a, vs, l, rfl, rfl, r, .inl hs.seq⟩
  | @loc a n ha =>
    cases e1 : st[n]? with
    | none => exact .inl (by simp [seqOf, e1])
    | some o =>
      have q1 := A.get ha e1
      cases q1 with
      | @lst vs l h1 r => exact .inr ⟨a, vs, l, rfl, by simp [seqOf, e1], r, .inl (SqL.of h1)⟩
      | _ => exact .inl (by simp [seqOf, e1])
  | _ => exact .inl rfl
theorem s_tuple : Ca1 K cl E bTuple (fun xs H Q => ∃ p ys, xs = [.ref p] ∧ ((SqL K H p ys ∧ ∀ l, H l = none → Q (.ref l) (upd H l (.tup ys))) ∨ (SqT K H p ys ∧ Q (.ref p) H))) := by
  intro σ Q ρ H st v1 d1 A r1 h
  rcases seqOf_ok A r1 with q | ⟨a, vs, l, rfl, q, r, hs⟩
  · exact h.none (bnd_none q)
  · have e : bTuple d1 st = some (.ok (.tup l), st) := by unfold bTuple; rw [bnd_inv q]; rfl
    rcases hs with hs | hs
    · exact ⟨a, vs, rfl, .inl ⟨hs, fun p n => rest_tup A r h e p n⟩⟩
    · exact ⟨a, vs, rfl, .inr ⟨hs, h.ok e .refl A (.tup hs r)⟩⟩
theorem s_tupleX : Ca1 K cl E bTupleX (fun xs H Q => ∃ p ys, xs = [.ref p] ∧ SqL K H p ys ∧ ∀ l o, H l = none → o.cls = .type "tuple" → o.dict = none → Q (.ref l) (upd H l (.frz o (.tup ys)))) := by
  intro σ Q ρ H st v1 d1 A r1 h
  cases r1 with
  | @loc a n ha =>
    cases e1 : st[n]? with
    | none => exact h.none (by simp [bTupleX, e1])
    | some o =>
      have q1 := A.get ha e1
      cases q1 with
      | @lst vs l h1 r =>
        refine ⟨a, vs, rfl, SqL.of h1, fun p ob n c1 c2 => ?_⟩
        obtain ⟨A', g⟩ := A.side (o := .frz ob (.tup vs)) n
        exact h.ok (st' := st) (d := .xtup l) (by simp [bTupleX, e1]) g A' (.xtup ⟨ob, upd_same, c1, c2⟩ (r.grow A g))
      | _ => exact h.none (by simp [bTupleX, e1])
  | @frz a vs l hs r =>
    refine ⟨a, vs, rfl, hs.seq, fun p ob n c1 c2 => ?_⟩
    obtain ⟨A', g⟩ := A.side (o := .frz ob (.tup vs)) n
    exact h.ok (st' := st) (d := .xtup l) rfl g A' (.xtup ⟨ob, upd_same, c1, c2⟩ (r.grow A g))
  | _ => exact h.none rfl
theorem s_list : Ca1 K cl E bList (fun xs H Q => ∃ p ys, xs = [.ref p] ∧ (SqL K H p ys ∨ SqT K H p ys) ∧ ∀ l, H l = none → Q (.ref l) (upd H l (.lst ys))) := by
  intro σ Q ρ H st v1 d1 A r1 h
  rcases seqOf_ok A r1 with q | ⟨a, vs, l, rfl, q, r, hs⟩
  · exact h.none (bnd_none q)
  · by_cases hl : l.length < lim
    · have e : bList d1 st = some (.ok (.loc st.length), st ++ [.lst l]) := by unfold bList; rw [bnd_inv q, if_pos hl]; rfl
      exact ⟨a, vs, rfl, hs, fun p n => rest_lst A r h e p n⟩
    · exact h.none (by unfold bList; rw [bnd_inv q, if_neg hl]; rfl)
theorem s_listF : Ca1 K cl E bListF (fun xs H Q => ∃ p ys, xs = [.ref p] ∧ (SqL K H p ys ∨ SqT K H p ys) ∧ ∀ l, H l = none → fz Q (.ref l) (upd H l (.lst ys))) := by
  intro σ Q ρ H st v1 d1 A r1 h
  rcases seqOf_ok A r1 with q | ⟨a, vs, l, rfl, q, r, hs⟩
  · exact h.none (bnd_none q)
  · by_cases hl : l.length < lim
    · have e : bListF d1 st = some (.ok (.frz l), st) := by unfold bListF; rw [bnd_inv q, if_pos hl]; rfl
      exact ⟨a, vs, rfl, hs, fun p n => rest_frz A r h e p n⟩
    · exact h.none (by unfold bListF; rw [bnd_inv q, if_neg hl]; rfl)
theorem ints_of {ρ : List Addr} {H : Hp} : ∀ {l : List D} {vs : List V} {ns : List Int}, ints? l = some ns → RvL K H ρ vs l → vs = ns.map V.int
  | [], _, _, h, r => by cases r; cases h; rfl
  | .int i :: l, _, ns, h, r => by
    cases r with
    | cons r1 r2 =>
      cases r1
      unfold ints? at h
      obtain ⟨m, h1, h2⟩ := Option.map_eq_some_iff.mp h
      subst h2
      rw [List.map_cons, ints_of h1 r2]
  | .non :: _, _, _, h, _ => by cases h
  | .bl _ :: _, _, _, h, _ => by cases h
  | .str _ :: _, _, _, h, _ => by cases h
  | .tup _ :: _, _, _, h, _ => by cases h
  | .loc _ :: _, _, _, h, _ => by cases h
  | .frz _ :: _, _, _, h, _ => by cases h
  | .xtup _ :: _, _, _, h, _ => by cases h
theorem bools_of {ρ : List Addr} {H : Hp} : ∀ {l : List D} {vs : List V} {ns : List Bool}, bools? l = some ns → RvL K H ρ vs l → vs = ns.map V.bl
  | [], _, _, h, r => by cases r; cases h; rfl
  | .bl i :: l, _, ns, h, r => by
    cases r with
    | cons r1 r2 =>
      cases r1
      unfold bools? at h
      obtain ⟨m, h1, h2⟩ := Option.map_eq_some_iff.mp h
      subst h2
      rw [List.map_cons, bools_of h1 r2]
  | .non :: _, _, _, h, _ => by cases h
  | .int _ :: _, _, _, h, _ => by cases h
  | .str _ :: _, _, _, h, _ => by cases h
  | .tup _ :: _, _, _, h, _ => by cases h
  | .loc _ :: _, _, _, h, _ => by cases h
  | .frz _ :: _, _, _, h, _ => by cases h
  | .xtup _ :: _, _, _, h, _ => by cases h
theorem leastI_le : ∀ (r : List Int) (m : Int), leastI m r ≤ m ∧ ∀ y ∈ r, leastI m r ≤ y
  | [], m => ⟨Int.le_refl _, fun _ h => by cases h⟩
  | x :: r, m => by
    have h := leastI_le r (if x < m then x else m)
    unfold leastI
    by_cases q : x < m
    · rw [if_pos q] at h ⊢
      refine ⟨by have := h.1; omega, fun y hy => ?_⟩
      rcases List.mem_cons.mp hy with rfl | hy
      · exact h.1
      · exact h.2 y hy
    · rw [if_neg q] at h ⊢
      refine ⟨h.1, fun y hy => ?_⟩
      rcases List.mem_cons.mp hy with rfl | hy
      · have := h.1; omega
      · exact h.2 y hy
theorem leastI_mem : ∀ (r : List Int) (m : Int), leastI m r ∈ m :: r
  | [], m => by simp [leastI]
  | x :: r, m => by
    have h := leastI_mem r (if x < m then x else m)
    unfold leastI
    split at h
    · rename_i q; rw [if_pos q]; exact List.mem_cons_of_mem _ h
    · rename_i q; rw [if_neg q]
      rcases List.mem_cons.mp h with h | h
      · rw [h]; exact List.mem_cons_self
      · exact List.mem_cons_of_mem _ (List.mem_cons_of_mem _ h)
theorem greatI_ge : ∀ (r : List Int) (m : Int), m ≤ greatI m r ∧ ∀ y ∈ r, y ≤ greatI m r
  | [], m => ⟨Int.le_refl _, fun _ h => by cases h⟩
  | x :: r, m => by
    have h := greatI_ge r (if m < x then x else m)
    unfold greatI
    by_cases q : m < x
    · rw [if_pos q] at h ⊢
      refine ⟨by have := h.1; omega, fun y hy => ?_⟩
      rcases List.mem_cons.mp hy with rfl | hy
      · exact h.1
      · exact h.2 y hy
    · rw [if_neg q] at h ⊢
      refine ⟨h.1, fun y hy => ?_⟩
      rcases List.mem_cons.mp hy with rfl | hy
      · have := h.1; omega
      · exact h.2 y hy
theorem greatI_mem : ∀ (r : List Int) (m : Int), greatI m r ∈ m :: r
  | [], m => by simp [greatI]
  | x :: r, m => by
    have h := greatI_mem r (if m < x then x else m)
    unfold greatI
    split at h
    · rename_i q; rw [if_pos q]; exact List.mem_cons_of_mem _ h
    · rename_i q; rw [if_neg q]
      rcases List.mem_cons.mp h with h | h
      · rw [h]; exact List.mem_cons_self
      · exact List.mem_cons_of_mem _ (List.mem_cons_of_mem _ h)
theorem s_min : Ca1 K cl E bMin (fun vs H Q => rMin K vs H Q ∨ ∃ (a : Addr) (ns : List Int), vs = [V.ref a] ∧ SqT K H a (ns.map V.int) ∧ 0 < ns.length ∧ ∀ m, m ∈ ns → (∀ y, y ∈ ns → m ≤ y) → Q (.int m) H) := by
  intro σ Q ρ H st v1 d1 A r1 h
  rcases seqOf_ok A r1 with q | ⟨a, vs, l, rfl, q, r, hs⟩
  · exact h.none (bnd_none q)
  · cases qi : ints? l with
    | none => exact h.none (by unfold bMin; rw [bnd_inv q, qi]; rfl)
    | some ns =>
      have ev := ints_of qi r
      subst ev
      cases ns with
      | nil => exact h.none (by unfold bMin; rw [bnd_inv q, qi]; rfl)
      | cons i ns =>
        have e : bMin d1 st = some (.ok (.int (leastI i ns)), st) := by unfold bMin; rw [bnd_inv q, qi]; rfl
        have fin : ∀ m, m ∈ i :: ns → (∀ y, y ∈ i :: ns → m ≤ y) → Q (.int m) H := fun m hm hy => by
          have l1 := leastI_le ns i
          have l2 := leastI_mem ns i
          have e1 : m = leastI i ns := by
            have a1 := hy _ l2
            have a2 : leastI i ns ≤ m := by
              rcases List.mem_cons.mp hm with rfl | hm
              · exact l1.1
              · exact l1.2 m hm
            omega
          rw [e1]
          exact h.ok e .refl A (.int _)
        rcases hs with hs | hs
        · exact .inl ⟨a, i :: ns, rfl, hs, Nat.succ_pos _, fin⟩
        · exact .inr ⟨a, i :: ns, rfl, hs, Nat.succ_pos _, fin⟩
theorem s_max : Ca1 K cl E bMax (fun vs H Q => rMax K vs H Q ∨ ∃ (a : Addr) (ns : List Int), vs = [V.ref a] ∧ SqT K H a (ns.map V.int) ∧ 0 < ns.length ∧ ∀ m, m ∈ ns → (∀ y, y ∈ ns → y ≤ m) → Q (.int m) H) := by
  intro σ Q ρ H st v1 d1 A r1 h
  rcases seqOf_ok A r1 with q | ⟨a, vs, l, rfl, q, r, hs⟩
  · exact h.none (bnd_none q)
  · cases qi : ints? l with
    | none => exact h.none (by unfold bMax; rw [bnd_inv q, qi]; rfl)
    | some ns =>
      have ev := ints_of qi r
      subst ev
      cases ns with
      | nil => exact h.none (by unfold bMax; rw [bnd_inv q, qi]; rfl)
      | cons i ns =>
        have e : bMax d1 st = some (.ok (.int (greatI i ns)), st) := by unfold bMax; rw [bnd_inv q, qi]; rfl
        have fin : ∀ m, m ∈ i :: ns → (∀ y, y ∈ i :: ns → y ≤ m) → Q (.int m) H := fun m hm hy => by
          have l1 := greatI_ge ns i
          have l2 := greatI_mem ns i
          have e1 : m = greatI i ns := by
            have a1 := hy _ l2
            have a2 : m ≤ greatI i ns := by
              rcases List.mem_cons.mp hm with rfl | hm
              · exact l1.1
              · exact l1.2 m hm
            omega
          rw [e1]
          exact h.ok e .refl A (.int _)
        rcases hs with hs | hs
        · exact .inl ⟨a, i :: ns, rfl, hs, Nat.succ_pos _, fin⟩
        · exact .inr ⟨a, i :: ns, rfl, hs, Nat.succ_pos _, fin⟩
end
theorem call_minA {X : Cx} (hc : X.calm = true) : CallR X (.builtin "min") (fun vs H Q => rMin X.K vs H Q ∨ ∃ (a : Addr) (ns : List Int), vs = [V.ref a] ∧ SqT X.K H a (ns.map V.int) ∧ 0 < ns.length ∧ ∀ m, m ∈ ns → (∀ y, y ∈ ns → m ≤ y) → Q (.int m) H) := CallR.or (cr_min hc) (cr_minT hc)
theorem call_maxA {X : Cx} (hc : X.calm = true) : CallR X (.builtin "max") (fun vs H Q => rMax X.K vs H Q ∨ ∃ (a : Addr) (ns : List Int), vs = [V.ref a] ∧ SqT X.K H a (ns.map V.int) ∧ 0 < ns.length ∧ ∀ m, m ∈ ns → (∀ y, y ∈ ns → y ≤ m) → Q (.int m) H) := CallR.or (cr_max hc) (cr_maxT hc)
section
variable {K : PySem.W.Frag} {cl : Nat → Addr} {E : EX}
theorem insI_perm (x : Int) : ∀ l : List Int, (insI x l).Perm (x :: l)
  | [] => .refl _
  | y :: r => by
    unfold insI
    split
    · exact .refl _
    · exact ((insI_perm x r).cons y).trans (.swap x y r)
theorem sortI_perm : ∀ l : List Int, (sortI l).Perm l
  | [] => .refl _
  | x :: r => (insI_perm x (sortI r)).trans ((sortI_perm r).cons x)
theorem insI_sorted (x : Int) : ∀ l : List Int, l.Pairwise (· ≤ ·) → (insI x l).Pairwise (· ≤ ·)
  | [], _ => by simp [insI]
  | y :: r, h => by
    unfold insI
    obtain ⟨h1, h2⟩ := List.pairwise_cons.mp h
    split
    · rename_i q
      refine List.pairwise_cons.mpr ⟨fun z hz => ?_, h⟩
      rcases List.mem_cons.mp hz with rfl | hz
      · exact q
      · exact Int.le_trans q (h1 z hz)
    · rename_i q
      refine List.pairwise_cons.mpr ⟨fun z hz => ?_, insI_sorted x r h2⟩
      rcases List.mem_cons.mp ((insI_perm x r).mem_iff.mp hz) with rfl | hz
      · omega
      · exact h1 z hz
theorem sortI_sorted : ∀ l : List Int, (sortI l).Pairwise (· ≤ ·)
  | [] => .nil
  | x :: r => insI_sorted x _ (sortI_sorted r)
theorem sortI_unique {l m : List Int} (p : m.Perm l) (s : m.Pairwise (· ≤ ·)) : m = sortI l :=
  List.Perm.eq_of_pairwise (le := (· ≤ ·)) (fun a b _ _ h1 h2 => Int.le_antisymm h1 h2) s (sortI_sorted l) (p.trans (sortI_perm l).symm)
theorem ints_map {H : Hp} {ρ : List Addr} : ∀ ns : List Int, RvL K H ρ (ns.map V.int) (ns.map D.int)
  | [] => .nil
  | n :: ns => .cons (.int n) (ints_map ns)
theorem s_sorted : Ca1 K cl E bSorted (fun vs H Q => rSortedI K vs H Q ∨ ∃ (a : Addr) (ns : List Int), vs = [V.ref a] ∧ SqT K H a (ns.map V.int) ∧ ∀ (ns' : List Int) (p : Addr), ns'.Perm ns → ns'.Pairwise (· ≤ ·) → H p = none → Q (.ref p) (upd H p (.lst (ns'.map V.int)))) := by
  intro σ Q ρ H st v1 d1 A r1 h
  rcases seqOf_ok A r1 with q | ⟨a, vs, l, rfl, q, r, hs⟩
  · exact h.none (bnd_none q)
  · cases qi : ints? l with
    | none => exact h.none (by unfold bSorted; rw [bnd_inv q, qi]; rfl)
    | some ns =>
      have ev := ints_of qi r
      subst ev
      by_cases hl : ns.length < lim
      · have e : bSorted d1 st = some (.ok (.loc st.length), st ++ [.lst ((sortI ns).map D.int)]) := by unfold bSorted; rw [bnd_inv q, qi]; simp only [if_pos hl]; rfl
        have fin : ∀ (ns' : List Int) (p : Addr), ns'.Perm ns → ns'.Pairwise (· ≤ ·) → H p = none → Q (.ref p) (upd H p (.lst (ns'.map V.int))) := fun ns' p hp hs n => by
          rw [sortI_unique hp hs]
          exact rest_lst A (ints_map _) h e p n
        rcases hs with hs | hs
        · exact .inl ⟨a, ns, rfl, hs, fin⟩
        · exact .inr ⟨a, ns, rfl, hs, fin⟩
      · exact h.none (by unfold bSorted; rw [bnd_inv q, qi]; simp only [if_neg hl]; rfl)
theorem s_sortedF : Ca1 K cl E bSortedF (fun vs H Q => rSortedI K vs H (fz Q) ∨ ∃ (a : Addr) (ns : List Int), vs = [V.ref a] ∧ SqT K H a (ns.map V.int) ∧ ∀ (ns' : List Int) (p : Addr), ns'.Perm ns → ns'.Pairwise (· ≤ ·) → H p = none → fz Q (.ref p) (upd H p (.lst (ns'.map V.int)))) := by
  intro σ Q ρ H st v1 d1 A r1 h
  rcases seqOf_ok A r1 with q | ⟨a, vs, l, rfl, q, r, hs⟩
  · exact h.none (bnd_none q)
  · cases qi : ints? l with
    | none => exact h.none (by unfold bSortedF; rw [bnd_inv q, qi]; rfl)
    | some ns =>
      have ev := ints_of qi r
      subst ev
      by_cases hl : ns.length < lim
      · have e : bSortedF d1 st = some (.ok (.frz ((sortI ns).map D.int)), st) := by unfold bSortedF; rw [bnd_inv q, qi]; simp only [if_pos hl]; rfl
        have fin : ∀ (ns' : List Int) (p : Addr), ns'.Perm ns → ns'.Pairwise (· ≤ ·) → H p = none → fz Q (.ref p) (upd H p (.lst (ns'.map V.int))) := fun ns' p hp hs n => by
          rw [sortI_unique hp hs]
          exact rest_frz A (ints_map _) h e p n
        rcases hs with hs | hs
        · exact .inl ⟨a, ns, rfl, hs, fin⟩
        · exact .inr ⟨a, ns, rfl, hs, fin⟩
      · exact h.none (by unfold bSortedF; rw [bnd_inv q, qi]; simp only [if_neg hl]; rfl)
theorem lstOf_ok {ρ : List Addr} {H : Hp} {st : Stt} {v : V} {d : D} (A : At K cl ρ H st) (r : Rv K H ρ v d) :
    lstOf d st = Option.none ∨ ∃ a vs l, v = .ref a ∧ lstOf d st = some (.ok l, st) ∧ RvL K H ρ vs l ∧ SqL K H a vs := by
  cases r with
  | @loc a n ha =>
    cases e1 : st[n]? with
    | none => exact .inl (by simp [lstOf, e1])
    | some o =>
      have q1 := A.get ha e1
      cases q1 with
      | @lst vs l h1 r => exact .inr ⟨a, vs, l, rfl, by simp [lstOf, e1], r, SqL.of h1⟩
      | _ => exact .inl (by simp [lstOf, e1])
  | @frz a vs l hs r => exact .inr ⟨a, vs, l, rfl, rfl, r, hs.seq⟩
  | _ => exact .inl rfl
theorem s_sum : Ca1 K cl E bSum (fun vs H Q => rSum K vs H Q) := by
  intro σ Q ρ H st v1 d1 A r1 h
  rcases lstOf_ok A r1 with q | ⟨a, vs, l, rfl, q, r, hs⟩
  · exact h.none (bnd_none q)
  · cases qi : ints? l with
    | none => exact h.none (by unfold bSum; rw [bnd_inv q, qi]; rfl)
    | some ns =>
      have ev := ints_of qi r
      subst ev
      exact ⟨a, ns, rfl, hs, h.ok (st' := st) (d := .int ns.sum) (by unfold bSum; rw [bnd_inv q, qi]; rfl) .refl A (.int _)⟩
theorem s_all : Ca1 K cl E bAll (fun vs H Q => rAll K vs H Q) := by
  intro σ Q ρ H st v1 d1 A r1 h
  rcases lstOf_ok A r1 with q | ⟨a, vs, l, rfl, q, r, hs⟩
  · exact h.none (bnd_none q)
  · cases qi : bools? l with
    | none => exact h.none (by unfold bAll; rw [bnd_inv q, qi]; rfl)
    | some ns =>
      have ev := bools_of qi r
      subst ev
      exact ⟨a, ns, rfl, hs, h.ok (st' := st) (d := .bl (ns.all id)) (by unfold bAll; rw [bnd_inv q, qi]; rfl) .refl A (.bl _)⟩
theorem s_any : Ca1 K cl E bAny (fun vs H Q => rAny K vs H Q) := by
  intro σ Q ρ H st v1 d1 A r1 h
  rcases lstOf_ok A r1 with q | ⟨a, vs, l, rfl, q, r, hs⟩
  · exact h.none (bnd_none q)
  · cases qi : bools? l with
    | none => exact h.none (by unfold bAny; rw [bnd_inv q, qi]; rfl)
    | some ns =>
      have ev := bools_of qi r
      subst ev
      exact ⟨a, ns, rfl, hs, h.ok (st' := st) (d := .bl (ns.any id)) (by unfold bAny; rw [bnd_inv q, qi]; rfl) .refl A (.bl _)⟩
end
end MS

set_option Elab.async false
set_option linter.all false
set_option maxRecDepth 100000
set_option maxHeartbeats 4000000
/-! MS8: methods of built-in types, list(range), {..}.get. -/
namespace MS
open PySem PySem.Spec PyProof.Rows L2 MI

/-- the value is of that builtin type, its object without a dict -/
def TyOk (X : Cx) (T : String) (x : V) (H : Hp) : Prop := ∀ (pins : List (Addr × Obj)) (σ : L2.St) (s : Shared) (v : Value), Inv X pins σ H s → RelV x v →
  s.TypeIs v T ∧ ∀ a, v = .ref a → ∃ ob, s.heap.get? a = some ob ∧ ob.dict = none
theorem TyOk.of {X : Cx} {T : String} {x : V} {H : Hp} (h : tyV X.K T x H) : TyOk X T x H := fun _ _ _ _ I r => tyV_is I r h
theorem TyOk.xt {X : Cx} {a : Addr} {vs : List V} {H : Hp} (h : XT H a vs) : TyOk X "tuple" (.ref a) H := fun pins σ s v I r => by
  obtain ⟨o, h1, h2, h3⟩ := h
  cases r
  obtain ⟨e, _⟩ := I.hok a _ h1
  exact ⟨⟨o, e, h2⟩, fun b q => by cases q; exact ⟨o, e, h3⟩⟩
/-- a built-in type that has the method -/
structure BM (X : Cx) (name : Str) (T id : String) (r : V → List V → Hp → VK → Prop) : Prop where
  pa : PlainAttrs T
  slot : Slot T name id
  hty : typeOf (.builtin id) = pure (.type "method_descriptor")
  hm : MtR X id r
section
variable {X : Cx} {name : Str} {o e : Expr} {es : List Expr} {to : TE} {t : TA} {apos cpos : Pos}
def tBMU (X : Cx) (name : Str) (to : TE) (t : TA) : TE := fun σ H Q => to σ H fun x H1 => ∃ T id r, BM X name T id r ∧ TyOk X T x H1 ∧ t σ H1 fun xs H2 => r x xs H2 Q
theorem pe_bmU0 (ho : PE X o to) (hbase : attributeBase o name X.env (eval o X.env) = eval o X.env := by rfl) (hline : (apos.endLine == cpos.line) = true := by rfl) : PE X (.Call (.Attribute o name apos) [] [] cpos) (tBMU X name to tNil) := by
  refine ⟨fun pins s σ H Q I h => ?_⟩
  refine wpAny_Call_method0_late hbase hline (thn (ho.run pins s σ H _ I h) fun v s1 ⟨x, H1, I1, r1, T, id, r, B, ty, q1⟩ => ?_)
  obtain ⟨h1, h2⟩ := ty pins σ s1 v I1 r1
  exact ⟨T, id, B.pa, B.slot, B.hty, h1, h2, Calls.callWith_builtin rfl (PySem.evalArgs_none (B.hm pins s1 σ H1 x [] v [] Q I1 r1 .nil q1))⟩
theorem pe_bmU (ho : PE X o to) (ha : PA X (e :: es) t)
    (hbase : attributeBase o name X.env (eval o X.env) = eval o X.env := by rfl)
    (hfew : ((backTo cpos (starEach (e :: es) X.env)).all (fun x => !x.1) && (backToKw cpos (keywordEach [] X.env)).all (fun x => x.1.isSome)
      && decide ((e :: es).length + ([] : List Keyword).length + (if ([] : List Keyword).isEmpty then 0 else 1) < 30)) = true := by rfl)
    (hline : (apos.endLine == cpos.line) = true := by rfl) (hs : starEach (e :: es) X.env = (false, eval e X.env) :: starEach es X.env := by rfl) (hplain : (backTo cpos (starEach es X.env)).any (·.1) = false := by rfl) :
    PE X (.Call (.Attribute o name apos) (e :: es) [] cpos) (tBMU X name to t) := by
  refine ⟨fun pins s σ H Q I h => ?_⟩
  refine wpAny_Call_method_late hbase hfew hline rfl (thn (ho.run pins s σ H _ I h) fun v s1 ⟨x, H1, I1, r1, T, id, r, B, ty, q1⟩ => ?_)
  obtain ⟨h1, h2⟩ := ty pins σ s1 v I1 r1
  refine ⟨T, id, B.pa, B.slot, B.hty, h1, h2, ?_⟩
  have hA := ha.run cpos pins s1 σ H1 _ I1 q1
  rw [hs] at hA ⊢
  refine Calls.callWith_builtin (by show (false || (backTo cpos (starEach es X.env)).any (·.1)) = false; rw [hplain] <;> rfl) (Calls.evalArgs_plain ?_)
  exact thn hA fun us s2 ⟨vs, H2, I2, r2, q2⟩ => B.hm pins s2 σ H2 x vs v us Q I2 r1 r2 q2
end

section
variable {X : Cx} {cl : Nat → Addr} {E : EX} {c : MI.Ctx} {name : Str} {o e : Expr} {apos cpos : Pos} {ga gb : SE}
/-- what a method of one argument does: the receiver's look k, then f -/
def Mt1 (X : Cx) (cl : Nat → Addr) (E : EX) (name : Str) (k : D → MI.R Unit) (f : D → D → MI.R D) : Prop := ∀ {ρ : List Addr} {H : Hp} {st : Stt} {v : V} {d : D}, At X.K cl ρ H st → Rv X.K H ρ v d →
  k d st = none ∨ (k d st = some (.ok (), st) ∧ ∃ T id r, BM X name T id r ∧ TyOk X T v H ∧
    ∀ {σ : L2.St} {Q : VK} {ρ1 : List Addr} {H1 : Hp} {st1 : Stt} {y : V} {z : D}, At X.K cl ρ1 H1 st1 → Rv X.K H1 ρ1 v d → Rv X.K H1 ρ1 y z → Rest X.K cl E (rV X.K) σ Q (f d z) ρ1 H1 st1 → r v [y] H1 Q)
def Mt0 (X : Cx) (cl : Nat → Addr) (E : EX) (name : Str) (k : D → MI.R Unit) (f : D → MI.R D) : Prop := ∀ {ρ : List Addr} {H : Hp} {st : Stt} {v : V} {d : D}, At X.K cl ρ H st → Rv X.K H ρ v d →
  k d st = none ∨ (k d st = some (.ok (), st) ∧ ∃ T id r, BM X name T id r ∧ TyOk X T v H ∧ ∀ {σ : L2.St} {Q : VK}, Rest X.K cl E (rV X.K) σ Q (f d) ρ H st → r v [] H Q)
theorem me_mt1 {k : D → MI.R Unit} {f : D → D → MI.R D} (hM : Mt1 X cl E name k f) (ho : ME X cl E c o ga) (he : ME X cl E c e gb)
    (hbase : attributeBase o name X.env (eval o X.env) = eval o X.env := by rfl)
    (hfew : ((backTo cpos (starEach [e] X.env)).all (fun x => !x.1) && (backToKw cpos (keywordEach [] X.env)).all (fun x => x.1.isSome)
      && decide (([e] : List Expr).length + ([] : List Keyword).length + (if ([] : List Keyword).isEmpty then 0 else 1) < 30)) = true := by rfl)
    (hline : (apos.endLine == cpos.line) = true := by rfl) (hs : starEach [e] X.env = (false, eval e X.env) :: starEach [] X.env := by rfl) :
    ME X cl E c (.Call (.Attribute o name apos) [e] [] cpos) (eMt1 k f ga gb) :=
  peI (pe_bmU ho (pa_cons he pa_nil hs) hbase hfew hline hs (by rfl)) fun σ H Q h => by
    obtain ⟨ρ, env, st, A, e, h⟩ := h
    refine (Rest.step (g := ga c) (rV X.K) A e h).imp fun v1 H1 ⟨ρ1, st1, d1, g1, A1, r1, h1⟩ => ?_
    rcases hM A1 r1 with q | ⟨q, T, id, r, B, ty, go⟩
    · exact h1.none (bnd_none q)
    · refine ⟨T, id, r, B, ty, ?_⟩
      have h2 : Rest X.K cl E (rV X.K) σ Q (bnd (gb c env) fun y => f d1 y) ρ1 H1 st1 := h1.eq (bnd_inv q)
      refine (Rest.step (g := gb c) (rV X.K) A1 (e.grow A g1) h2).imp fun v2 H2 ⟨ρ2, st2, d2, g2, A2, r2, h3⟩ => ?_
      exact go A2 (r1.grow A1 g2) r2 h3
theorem me_mt0 {k : D → MI.R Unit} {f : D → MI.R D} (hM : Mt0 X cl E name k f) (ho : ME X cl E c o ga)
    (hbase : attributeBase o name X.env (eval o X.env) = eval o X.env := by rfl) (hline : (apos.endLine == cpos.line) = true := by rfl) :
    ME X cl E c (.Call (.Attribute o name apos) [] [] cpos) (eMt0 k f ga) :=
  peI (pe_bmU0 ho hbase hline) fun σ H Q h => by
    obtain ⟨ρ, env, st, A, e, h⟩ := h
    refine (Rest.step (g := ga c) (rV X.K) A e h).imp fun v1 H1 ⟨ρ1, st1, d1, g1, A1, r1, h1⟩ => ?_
    rcases hM A1 r1 with q | ⟨q, T, id, r, B, ty, go⟩
    · exact h1.none (bnd_none q)
    · exact ⟨T, id, r, B, ty, go (h1.eq (bnd_inv q))⟩
theorem isLst_ok {ρ : List Addr} {H : Hp} {st : Stt} {v : V} {d : D} (A : At X.K cl ρ H st) (r : Rv X.K H ρ v d) :
    isLst d st = none ∨ (isLst d st = some (.ok (), st) ∧ ∃ a n vs l, v = .ref a ∧ d = .loc n ∧ ρ[n]? = some a ∧ st[n]? = some (.lst l) ∧ H a = some (.lst vs) ∧ RvL X.K H ρ vs l ∧ TyOk X "list" v H) := by
  cases r with
  | @loc a n ha =>
    cases e1 : st[n]? with
    | none => exact .inl (by simp [isLst, e1])
    | some o =>
      have q1 := A.get ha e1
      cases q1 with
      | @lst vs l h1 r => exact .inr ⟨by simp [isLst, e1], a, n, vs, l, rfl, rfl, ha, e1, h1, r, .of (.inl ⟨rfl, vs, SqL.of h1⟩)⟩
      | _ => exact .inl (by simp [isLst, e1])
  | _ => exact .inl rfl
/-- the list behind the arguments -/
theorem lst_at {ρ : List Addr} {H : Hp} {st : Stt} {a : Addr} {n : Nat} (A : At X.K cl ρ H st) (r : Rv X.K H ρ (.ref a) (.loc n)) : ρ[n]? = some a ∧ ((∃ vs l, st[n]? = some (.lst l) ∧ H a = some (.lst vs) ∧ RvL X.K H ρ vs l) ∨ ∀ l, st[n]? ≠ some (.lst l)) := by
  cases r with
  | loc ha =>
    refine ⟨ha, ?_⟩
    cases e1 : st[n]? with
    | none => exact .inr fun l q => by cases q
    | some o =>
      have q1 := A.get ha e1
      cases q1 with
      | @lst vs l h1 r => exact .inl ⟨vs, l, rfl, h1, r⟩
      | _ => exact .inr fun l q => by cases q
theorem m_append : Mt1 X cl E "append" isLst mAppend := fun {ρ H st v d} A r => by
  rcases isLst_ok A r with q | ⟨q, a, n, vs, l, rfl, rfl, ha, e1, h1, rl, ty⟩
  · exact .inl q
  · refine .inr ⟨q, "list", "list.append", rAppend, ⟨PySem.F.plainAttrs_list, PySem.F.slot_list_append, PySem.F.type_list_append, mt_append⟩, ty, fun {σ Q ρ1 H1 st1 y z} A1 r1 r2 h => ?_⟩
    obtain ⟨ha, ⟨vs, l, e1, h1, rl⟩ | hn⟩ := lst_at A1 r1
    · by_cases hl : l.length < lim - 1
      · refine ⟨a, vs, y, rfl, rfl, h1, ?_, ?_⟩
        · rw [rl.length, sizeLine_eq]
          have : (lim : Nat) = 16777216 := rfl
          omega
        · obtain ⟨A2, g2⟩ := A1.put (o := .lst (vs ++ [y])) (ob := .lst (l ++ [z])) ha fun k => .lst upd_same (by
            have a1 := rl.keep k []
            have a2 := r2.keep k []
            simp only [List.append_nil] at a1 a2
            exact a1.append (.cons a2 .nil))
          exact h.ok (st' := st1.set n (.lst (l ++ [z]))) (d := .non) (by simp only [mAppend, e1, if_pos hl]) g2 A2 .non
      · exact h.none (by simp only [mAppend, e1, if_neg hl])
    · exact h.none (by
        cases e2 : st1[n]? with
        | none => simp [mAppend, e2]
        | some o => cases o <;> first | (simp [mAppend, e2]; done) | exact absurd e2 (hn _))
theorem lstD_ok {K : PySem.W.Frag} {cl : Nat → Addr} {ρ : List Addr} {H : Hp} {st : Stt} {v : V} {d : D} (A : At K cl ρ H st) (r : Rv K H ρ v d) : lstD d st = none ∨ ∃ a vs l, v = .ref a ∧ lstD d st = some l ∧ SqL K H a vs ∧ RvL K H ρ vs l := by
  cases r with
  | @loc a n ha =>
    cases e1 : st[n]? with
    | none => exact .inl (by simp [lstD, e1])
    | some o =>
      have q1 := A.get ha e1
      cases q1 with
      | @lst vs l h1 r => exact .inr ⟨a, vs, l, rfl, by simp [lstD, e1], SqL.of h1, r⟩
      | _ => exact .inl (by simp [lstD, e1])
  | @frz a vs l hs r => exact .inr ⟨a, vs, l, rfl, rfl, hs.seq, r⟩
  | _ => exact .inl rfl
theorem m_extend : Mt1 X cl E "extend" isLst mExtend := fun {ρ H st v d} A r => by
  rcases isLst_ok A r with q | ⟨q, a, n, vs, l, rfl, rfl, ha, e1, h1, rl, ty⟩
  · exact .inl q
  · refine .inr ⟨q, "list", "list.extend", rExtendS X.K, ⟨PySem.F.plainAttrs_list, PySem.F.slot_list_extend, PySem.F.type_list_extend, mt_extendS⟩, ty, fun {σ Q ρ1 H1 st1 y z} A1 r1 r2 h => ?_⟩
    obtain ⟨ha, ⟨vs, l, e1, h1, rl⟩ | hn⟩ := lst_at A1 r1
    · rcases lstD_ok A1 r2 with e2 | ⟨b, ws, l2, rfl, e2, h2, rl2⟩
      · exact h.none (by simp only [mExtend, e1, e2])
      · by_cases hl : l.length + l2.length < lim
        · refine ⟨a, b, vs, ws, rfl, rfl, h1, h2, by rw [rl.length, rl2.length]; exact lim_size hl, ?_⟩
          obtain ⟨A2, g2⟩ := A1.put (o := .lst (vs ++ ws)) (ob := .lst (l ++ l2)) ha fun k => .lst upd_same (by
            have a1 := rl.keep k []
            have a2 := rl2.keep k []
            simp only [List.append_nil] at a1 a2
            exact a1.append a2)
          exact h.ok (st' := st1.set n (.lst (l ++ l2))) (d := .non) (by simp only [mExtend, e1, e2, if_pos hl]) g2 A2 .non
        · exact h.none (by simp only [mExtend, e1, e2, if_neg hl])
    · exact h.none (by
        unfold mExtend
        cases e2 : st1[n]? with
        | none => simp [e2]
        | some o => cases o <;> first | (simp [e2]; done) | exact absurd e2 (hn _))
theorem m_count : Mt1 X cl E "count" isLst mCount := fun {ρ H st v d} A r => by
  rcases isLst_ok A r with q | ⟨q, a, n, vs, l, rfl, rfl, ha, e1, h1, rl, ty⟩
  · exact .inl q
  · refine .inr ⟨q, "list", "list.count", rCntI X.K, ⟨PySem.F.plainAttrs_list, PySem.F.slot_list_count, PySem.F.type_list_count, mt_lcount⟩, ty, fun {σ Q ρ1 H1 st1 y z} A1 r1 r2 h => ?_⟩
    obtain ⟨ha, ⟨vs, l, e1, h1, rl⟩ | hn⟩ := lst_at A1 r1
    · cases qi : ints? l with
      | none => exact h.none (by simp [mCount, e1, qi])
      | some ns =>
        cases r2 with
        | int i =>
          have ev := ints_of qi rl
          subst ev
          exact ⟨a, ns, i, rfl, rfl, SqL.of h1, h.ok (st' := st1) (d := .int (ns.count i)) (by simp [mCount, e1, qi]) .refl A1 (.int _)⟩
        | _ => exact h.none (by simp [mCount, e1, qi])
    · exact h.none (by
        cases e2 : st1[n]? with
        | none => simp [mCount, e2]
        | some o => cases o <;> first | (simp [mCount, e2]; done) | exact absurd e2 (hn _))
theorem m_pop : Mt0 X cl E "pop" isLst mPop := fun {ρ H st v d} A r => by
  rcases isLst_ok A r with q | ⟨q, a, n, vs, l, rfl, rfl, ha, e1, h1, rl, ty⟩
  · exact .inl q
  · refine .inr ⟨q, "list", "list.pop", rPop, ⟨PySem.F.plainAttrs_list, PySem.F.slot_list_pop, PySem.F.type_list_pop, mt_pop⟩, ty, fun {σ Q} h => ?_⟩
    cases ql : l.getLast? with
    | none => exact h.none (by simp [mPop, e1, ql])
    | some x =>
      have hx : l[l.length - 1]? = some x := by rw [← ql, List.getLast?_eq_getElem?]
      obtain ⟨y, hy, ry⟩ := rl.get hx
      refine ⟨a, vs, y, rfl, rfl, h1, by rw [rl.length]; exact hy, ?_⟩
      obtain ⟨A2, g2⟩ := A.put (o := .lst vs.dropLast) (ob := .lst l.dropLast) ha fun k => .lst upd_same (by
        have gen : ∀ {H' : Hp}, RvL X.K H' ρ vs l → RvL X.K H' ρ vs.dropLast l.dropLast := fun r => by
          rw [List.dropLast_eq_take, List.dropLast_eq_take, r.length]
          exact r.take _
        have a1 := rl.keep k []
        simp only [List.append_nil] at a1
        exact gen a1)
      exact h.ok (st' := st.set n (.lst l.dropLast)) (d := x) (by simp [mPop, e1, ql]) g2 A2 (ry.grow A g2)
theorem m_index (hu : X.A.units + 65 < cLine) : Mt1 X cl E "index" isIxd mIndex := fun {ρ H st v d} A r => by
  cases r with
  | @xtup a vs l hs rl =>
    refine .inr ⟨rfl, "tuple", "tuple.index", _, ⟨PySem.F.plainAttrs_tuple, PySem.F.slot_tuple_index, PySem.F.type_tuple_index, mt_tindexD hu⟩, .xt hs, fun {σ Q ρ1 H1 st1 y z} A1 r1 r2 h => ?_⟩
    cases r1 with
    | xtup hs rl =>
      by_cases ho : (D.ok deep z && D.okL deep l) = true
      · obtain ⟨o1, o2⟩ := Bool.and_eq_true_iff.mp ho
        cases qf : l.findIdx? fun w => D.eqv w z with
        | none => exact h.none (by simp only [mIndex, if_pos ho, qf])
        | some j =>
          exact ⟨a, y, toPy z, toPys l, j, rfl, rfl, .tup hs.seq (dpL_of _ _ _ o2 rl), dp_of _ _ _ o1 r2, shapedT_of o2 (by decide), shaped_of o1 (by decide), by rw [find_of o2 o1]; exact qf,
            h.ok (st' := st1) (d := .int j) (by simp only [mIndex, if_pos ho, qf]) .refl A1 (.int _)⟩
      · exact h.none (by simp only [mIndex, if_neg ho])
  | @loc a n ha =>
    cases e1 : st[n]? with
    | none => exact .inl (by simp [isIxd, e1])
    | some o =>
      have q1 := A.get ha e1
      cases q1 with
      | @lst vs l h1 rl =>
        refine .inr ⟨by simp [isIxd, e1], "list", "list.index", rIndexD X.K, ⟨PySem.F.plainAttrs_list, PySem.F.slot_list_index, PySem.F.type_list_index, mt_indexD hu⟩, .of (.inl ⟨rfl, vs, SqL.of h1⟩), fun {σ Q ρ1 H1 st1 y z} A1 r1 r2 h => ?_⟩
        obtain ⟨ha, ⟨vs, l, e1, h1, rl⟩ | hn⟩ := lst_at A1 r1
        · by_cases ho : (D.ok deep z && D.okL deep l) = true
          · obtain ⟨o1, o2⟩ := Bool.and_eq_true_iff.mp ho
            cases qf : l.findIdx? fun w => D.eqv w z with
            | none => exact h.none (by simp only [mIndex, e1, if_pos ho, qf])
            | some j =>
              have qf' := find_of o2 o1
              rw [qf] at qf'
              obtain ⟨hjl, hjt, hjn⟩ := List.findIdx?_eq_some_iff_getElem.mp qf'
              refine ⟨a, y, toPy z, toPys l, j, (toPys l)[j], rfl, rfl, .lst (SqL.of h1) (dpL_of _ _ _ o2 rl), dp_of _ _ _ o1 r2, shapedL_of o2 (by decide), shaped_of o1 (by decide), List.getElem?_eq_getElem hjl, hjt, fun m z' hm hz' => ?_, ?_⟩
              · obtain ⟨hml, hme⟩ := List.getElem?_eq_some_iff.mp hz'
                have := hjn m hm
                rw [hme] at this
                simpa using this
              · exact h.ok (st' := st1) (d := .int j) (by simp only [mIndex, e1, if_pos ho, qf]) .refl A1 (.int _)
          · exact h.none (by simp only [mIndex, e1, if_neg ho])
        · exact h.none (by
            cases e2 : st1[n]? with
            | none => simp [mIndex, e2]
            | some o => cases o <;> first | (simp [mIndex, e2]; done) | exact absurd e2 (hn _))
      | _ => exact .inl (by simp [isIxd, e1])
  | _ => exact .inl rfl
end
end MS

set_option Elab.async false
set_option linter.all false
set_option maxRecDepth 100000
set_option maxHeartbeats 4000000
/-! MSR4: rules of our own: tuple += tuple, a list's item by values. -/
namespace MS
open PySem PySem.Spec PyProof.Rows L2 HT

theorem noI_tuple_add' : typeLookup (.type "tuple") (dunderI "add") = pure none := by rw [typeLookup_type, builtinLookup_eq_fast]; kernel_rfl
section
variable {prog : Program} {w : World} {A : Around} {E : Value → Shared → Prop} {s : Shared}
theorem iconcat_meetsM {T id : String} {B : Builtin} {a b : Value} {S : PySem.Spec} {Q : Value → Shared → Prop} (ha : s.TypeIs a T) (hb : s.TypeIs b T) (hno : typeLookup (.type T) (dunderI "add") = pure none)
    (hfill : fillsNumberSlot (.type T) "add" = pure false) (hseq : seqSlot? (.type T) "__add__" = pure (some (.builtin id))) (slot : Slot T "__add__" id)
    (entry : entryFor table id = some B) (args : argsOk id ⟨[a, b], []⟩) (g : Meets (B ⟨[a, b], []⟩) S) (h : S A (wants Q E) s) : wpAny (model prog w) A (inplaceOp .Add a b) Q E s :=
  wpAny_inplaceOp_concat ha hb hno hfill hseq (call_meets slot ha entry args g h)
theorem icat_tup0 {t b : Addr} {ws : List Value} {Q : Value → Shared → Prop} (ht : IsTup s.heap t ([] : List Value).toArray) (hb : IsTup s.heap b ws.toArray) (h : Q (.ref b) s) : wpAny (model prog w) A (inplaceOp .Add (.ref t) (.ref b)) Q E s := by
  obtain ⟨⟨cls, dd, data, sl⟩, ho, hc, n, hd⟩ := id ht
  obtain ⟨⟨cls2, dd2, data2, sl2⟩, ho2, hc2, n2, hd2⟩ := id hb
  simp only at hc hd hc2 hd2
  subst hc hd hc2 hd2
  exact iconcat_meetsM ⟨_, ho, rfl⟩ ⟨_, ho2, rfl⟩ noI_tuple_add' noFill_tuple_add seq_tuple_add PySem.F.slot_tuple_add PySem.F.entry_tuple_add (PySem.F.args_tuple_add_2 _ _)
    (tuple_addW0 t b ([] : List Value).toArray ws.toArray n n2 dd dd2 sl sl2 (by simp)) ⟨ho, ho2, h⟩
theorem icat_tup {t b : Addr} {vs ws : List Value} {Q : Value → Shared → Prop} (ht : IsTup s.heap t vs.toArray) (hb : IsTup s.heap b ws.toArray) (hv : vs ≠ [])
    (h1 : ws = [] → Q (.ref t) s) (h2 : ws ≠ [] → Q (.ref s.heap.objs.size) { s with heap := s.heap.push { cls := .type "tuple", data := .seq (vs ++ ws).toArray } })
    (hsz : vs.length + ws.length ≤ sizeLine) : wpAny (model prog w) A (inplaceOp .Add (.ref t) (.ref b)) Q E s := by
  obtain ⟨⟨cls, dd, data, sl⟩, ho, hc, n, hd⟩ := id ht
  obtain ⟨⟨cls2, dd2, data2, sl2⟩, ho2, hc2, n2, hd2⟩ := id hb
  simp only at hc hd hc2 hd2
  subst hc hd hc2 hd2
  have e : vs.toArray ++ ws.toArray = (vs ++ ws).toArray := by simp
  by_cases hw : ws = []
  · exact iconcat_meetsM ⟨_, ho, rfl⟩ ⟨_, ho2, rfl⟩ noI_tuple_add' noFill_tuple_add seq_tuple_add PySem.F.slot_tuple_add PySem.F.entry_tuple_add (PySem.F.args_tuple_add_2 _ _)
      (tuple_addW1 t b vs.toArray ws.toArray n n2 dd dd2 sl sl2 (by simpa using hv) (by simp [hw])) ⟨ho, ho2, h1 hw⟩
  · refine iconcat_meetsM ⟨_, ho, rfl⟩ ⟨_, ho2, rfl⟩ noI_tuple_add' noFill_tuple_add seq_tuple_add PySem.F.slot_tuple_add PySem.F.entry_tuple_add (PySem.F.args_tuple_add_2 _ _)
      (tuple_addW2 t b vs.toArray ws.toArray n n2 dd dd2 sl sl2 (by simpa using hv) (by simpa using hw) (by rw [List.size_toArray, List.size_toArray]; exact hsz)) ⟨ho, ho2, ?_⟩
    rw [e]
    exact h2 hw
end
theorem OpR.orI {X : Cx} {f : Value → Value → Sem Value} {r r' : R2} (h : OpR X f r) (h' : OpR X f r') : OpR X f (fun x y H Q => r x y H Q ∨ r' x y H Q) := by
  intro pins s σ H x y v u Q I rx ry q
  rcases q with q | q
  · exact h pins s σ H x y v u Q I rx ry q
  · exact h' pins s σ H x y v u Q I rx ry q
theorem iop_catA {X : Cx} : OpR X (inplaceOp .Add) (rCatA X.K) := by
  intro pins s σ H x y v u Q I rx ry h
  obtain ⟨a, b, xs, ys, rfl, rfl, ha, hb, hz, q0, q1, q2⟩ := h
  by_cases hx : xs = []
  · subst hx
    cases rx
    cases ry
    obtain ⟨its, r1, p1, _⟩ := I.tuple ha
    obtain ⟨its2, r2, p2, _⟩ := I.tuple hb
    cases r1
    exact icat_tup0 p1 p2 ⟨.ref b, H, I, rfl, q0 rfl⟩
  · cases rx
    cases ry
    obtain ⟨its, r1, p1, _⟩ := I.tuple ha
    obtain ⟨its2, r2, p2, _⟩ := I.tuple hb
    refine icat_tup p1 p2 (fun z => hx (r1.nil_iff.mp z)) (fun z => ⟨.ref a, H, I, rfl, q1 hx (r2.nil_iff.mp z)⟩) (fun z => ?_) (by rw [← r1.length, ← r2.length]; exact hz)
    refine ⟨.ref s.heap.objs.size, _, I.laid (t' := s.toks) (o := .tup (xs ++ ys)) (fun b ob q => Heap.get?_push_of_some _ q) (Nat.le_refl _) ?_, rfl, q2 hx (fun w => z (r2.nil_iff.mpr w)) _ (I.hok.fresh (Nat.le_refl _))⟩
    exact ⟨by rw [List.length_append]; exact hz, _, r1.append r2, IsTup.new _ _⟩
theorem pget_list {X : Cx} : PGet X (rIxL X.K) := by
  intro pins s σ H x y v u Q I rx ry h
  obtain ⟨p, xs, i, z, rfl, rfl, hq, he, q⟩ := h
  cases rx
  obtain ⟨t, rfl⟩ := ry
  obtain ⟨its, r, pl, hz⟩ := I.list hq
  obtain ⟨j, h1, h2, h3, h4, h5⟩ := atI_get he
  obtain ⟨w, ew, rw'⟩ := r.get h2
  have hl := r.length
  have hn := line63
  have fin : EP X pins σ Q w s := ⟨z, H, I, rw', q⟩
  by_cases h0 : 0 ≤ i
  · have hj : i.toNat = j := by
      rw [seqIndex_of h0 h5] at h1
      exact Option.some.inj h1
    exact wpAny_getItem_list pl.isList h0 (by omega) (by rw [hj]; simpa using ew) fin
  · have hj : (i + (its.toArray.size : Int)).toNat = j := by
      rw [seqIndex_neg (by omega) h4] at h1
      rw [List.size_toArray, ← hl]
      exact Option.some.inj h1
    exact wpAny_getItem_list_neg pl.isList (by omega) (by rw [List.size_toArray] <;> omega) (by omega) (by rw [hj]; simpa using ew) fin
end MS

set_option Elab.async false
set_option linter.all false
set_option maxRecDepth 100000
set_option maxHeartbeats 4000000
/-! MS9: statements. -/
namespace MS
open PySem PySem.Spec PyProof.Rows L2 MI

section
variable (K : PySem.W.Frag) (cl : Nat → Addr) (E : EX)
/-- what a statement came to is enough for D -/
def RestS (D : Ends) (r : Option (Fl × MI.Env × Stt)) (ρ : List Addr) (H : Hp) : Prop := match r with
  | none => False
  | some (.nx, env', st') => ∀ ρ' H' σ', Grow ρ H ρ' H' → At K cl ρ' H' st' → RvE K H' ρ' σ' env' → D.nx σ' H'
  | some (.bk, env', st') => ∀ ρ' H' σ', Grow ρ H ρ' H' → At K cl ρ' H' st' → RvE K H' ρ' σ' env' → D.bk σ' H'
  | some (.ct, env', st') => ∀ ρ' H' σ', Grow ρ H ρ' H' → At K cl ρ' H' st' → RvE K H' ρ' σ' env' → D.ct σ' H'
  | some (.rt d, _, st') => ∀ ρ' H' v, Grow ρ H ρ' H' → At K cl ρ' H' st' → Rv K H' ρ' v d → D.rt v H'
  | some (.ex c fs, env', st') => ∀ ρ' H' σ', Grow ρ H ρ' H' → At K cl ρ' H' st' → RvE K H' ρ' σ' env' → E c fs σ' ρ' H' st'
def TSm (g : MI.Env → Stt → Option (Fl × MI.Env × Stt)) : TS := fun D σ H => ∃ ρ env st, At K cl ρ H st ∧ RvE K H ρ σ env ∧ RestS K cl E D (g env st) ρ H
/-- a target -/
def RestG (Q : L2.St → Hp → Prop) (r : Option (MI.Env × Stt)) (ρ : List Addr) (H : Hp) : Prop := match r with
  | none => False
  | some (env', st') => ∀ ρ' H' σ', Grow ρ H ρ' H' → At K cl ρ' H' st' → RvE K H' ρ' σ' env' → Q σ' H'
def TGm (g : D → MI.Env → Stt → Option (MI.Env × Stt)) : TG := fun v σ H Q => ∃ ρ env st d, At K cl ρ H st ∧ RvE K H ρ σ env ∧ Rv K H ρ v d ∧ RestG K cl Q (g d env st) ρ H
def TGsm (g : List D → MI.Env → Stt → Option (MI.Env × Stt)) : TGs := fun vs σ H Q => ∃ ρ env st ds, At K cl ρ H st ∧ RvE K H ρ σ env ∧ RvL K H ρ vs ds ∧ RestG K cl Q (g ds env st) ρ H
end
section
variable {K : PySem.W.Frag} {cl : Nat → Addr} {E : EX} {α β : Type} {σ : L2.St} {H H1 : Hp} {ρ ρ1 : List Addr} {st : Stt} {env : MI.Env} {D : Ends}
theorem RestS.base {r : Option (Fl × MI.Env × Stt)} (h : RestS K cl E D r ρ H) (g : Grow ρ H ρ1 H1) : RestS K cl E D r ρ1 H1 := by
  match r, h with
  | some (.nx, env', st'), h => exact fun ρ' H' σ' g' A e => h ρ' H' σ' (g.trans g') A e
  | some (.bk, env', st'), h => exact fun ρ' H' σ' g' A e => h ρ' H' σ' (g.trans g') A e
  | some (.ct, env', st'), h => exact fun ρ' H' σ' g' A e => h ρ' H' σ' (g.trans g') A e
  | some (.rt d, env', st'), h => exact fun ρ' H' σ' g' A e => h ρ' H' σ' (g.trans g') A e
  | some (.ex k fs, env', st'), h => exact fun ρ' H' σ' g' A e => h ρ' H' σ' (g.trans g') A e
theorem RestG.base {Q : L2.St → Hp → Prop} {r : Option (MI.Env × Stt)} (h : RestG K cl Q r ρ H) (g : Grow ρ H ρ1 H1) : RestG K cl Q r ρ1 H1 := by
  match r, h with
  | some (env', st'), h => exact fun ρ' H' σ' g' A e => h ρ' H' σ' (g.trans g') A e
theorem RestS.rest {m : MI.R α} {f : α → Stt → Option (Fl × MI.Env × Stt)} (rel : Hp → List Addr → β → α → Prop) (A : At K cl ρ H st) (e : RvE K H ρ σ env) (h : RestS K cl E D (sBnd m env f st) ρ H) :
    Rest K cl E rel σ (fun v1 H1 => ∃ ρ1 st1 d1, Grow ρ H ρ1 H1 ∧ At K cl ρ1 H1 st1 ∧ rel H1 ρ1 v1 d1 ∧ RestS K cl E D (f d1 st1) ρ1 H1) m ρ H st := by
  unfold sBnd at h
  cases q : m st with
  | none => rw [q] at h; exact h.elim
  | some p =>
    obtain ⟨rs, st1⟩ := p
    rw [q] at h
    cases rs with
    | ok d => exact .inl ⟨d, st1, q, fun ρ1 H1 v1 g1 A1 r1 => ⟨ρ1, st1, d, g1, A1, r1, h.base g1⟩⟩
    | exc k fs => exact .inr ⟨k, fs, st1, q, fun ρ1 H1 g1 A1 => h ρ1 H1 σ g1 A1 (e.grow A g1)⟩
theorem RestS.step {x : MI.Env → MI.R α} {f : α → Stt → Option (Fl × MI.Env × Stt)} (rel : Hp → List Addr → β → α → Prop) (A : At K cl ρ H st) (e : RvE K H ρ σ env) (h : RestS K cl E D (sBnd (x env) env f st) ρ H) :
    TM K cl E rel x σ H (fun v1 H1 => ∃ ρ1 st1 d1, Grow ρ H ρ1 H1 ∧ At K cl ρ1 H1 st1 ∧ rel H1 ρ1 v1 d1 ∧ RestS K cl E D (f d1 st1) ρ1 H1) := ⟨ρ, env, st, A, e, h.rest rel A e⟩
theorem RestG.step {Q : L2.St → Hp → Prop} {x : MI.Env → MI.R α} {f : α → Stt → Option (MI.Env × Stt)} (rel : Hp → List Addr → β → α → Prop) (A : At K cl ρ H st) (e : RvE K H ρ σ env) (h : RestG K cl Q (gBnd (x env) f st) ρ H) :
    TM K cl E rel x σ H (fun v1 H1 => ∃ ρ1 st1 d1, Grow ρ H ρ1 H1 ∧ At K cl ρ1 H1 st1 ∧ rel H1 ρ1 v1 d1 ∧ RestG K cl Q (f d1 st1) ρ1 H1) := by
  refine ⟨ρ, env, st, A, e, ?_⟩
  unfold gBnd at h
  cases q : x env st with
  | none => rw [q] at h; exact h.elim
  | some p =>
    obtain ⟨rs, st1⟩ := p
    rw [q] at h
    cases rs with
    | ok d => exact .inl ⟨d, st1, q, fun ρ1 H1 v1 g1 A1 r1 => ⟨ρ1, st1, d, g1, A1, r1, h.base g1⟩⟩
    | exc k fs => exact h.elim
end
theorem psI {X : Cx} {s : Stmt} {t t' : TS} (h : PS X s t) (i : ∀ D σ H, t' D σ H → t D σ H) : PS X s t' := ⟨fun pins s σ H D I q => h.run pins s σ H D I (i D σ H q)⟩
theorem pssI {X : Cx} {s : List Stmt} {t t' : TS} (h : PSs X s t) (i : ∀ D σ H, t' D σ H → t D σ H) : PSs X s t' := ⟨fun pins s σ H D I q => h.run pins s σ H D I (i D σ H q)⟩
theorem pgI {X : Cx} {e : Expr} {t t' : TG} (h : PG X e t) (i : ∀ v σ H Q, t' v σ H Q → t v σ H Q) : PG X e t' := ⟨fun pins s σ H v u Q I r q => h.run pins s σ H v u Q I r (i v σ H Q q)⟩
theorem pgsI {X : Cx} {e : List Expr} {t t' : TGs} (h : PGs X e t) (i : ∀ v σ H Q, t' v σ H Q → t v σ H Q) : PGs X e t' := ⟨fun pins s σ H v u Q I r q => h.run pins s σ H v u Q I r (i v σ H Q q)⟩
section
variable (X : Cx) (cl : Nat → Addr) (E : EX) (c : MI.Ctx)
abbrev MST (s : Stmt) (g : SS) : Prop := PS X s (TSm X.K cl E (g c))
abbrev MSS (s : List Stmt) (g : SS) : Prop := PSs X s (TSm X.K cl E (g c))
abbrev MG (e : Expr) (g : SG) : Prop := PG X e (TGm X.K cl (g c))
abbrev MGs (e : List Expr) (g : SGs) : Prop := PGs X e (TGsm X.K cl (g c))
end

section
variable {X : Cx} {cl : Nat → Addr} {E : EX} {c : MI.Ctx} {a b e : Expr} {ga gb ge : SE} {pos : Pos} {s : Stmt} {ss : List Stmt} {gs gr : SS} {t : MI.ST}
/-! ### blocks, small statements -/
theorem mss_nil : MSS X cl E c [] sPass := pssI pss_nil fun D σ H ⟨ρ, env, st, A, e, h⟩ => h ρ H σ .refl A e
theorem mss_one (h : MST X cl E c s gs) : MSS X cl E c [s] gs := pss_one h
theorem mss_cons (h : MST X cl E c s gs) (hr : MSS X cl E c ss gr) : MSS X cl E c (s :: ss) (sSeq gs gr) := pssI (pss_cons h hr) fun D σ H ⟨ρ, env, st, A, e, h⟩ => by
  refine ⟨ρ, env, st, A, e, ?_⟩
  unfold sSeq at h
  match q : gs c env st, h with
  | some (.nx, env', st'), h => exact fun ρ' H' σ' g' A' e' => ⟨ρ', env', st', A', e', RestS.base h g'⟩
  | some (.bk, env', st'), h => exact h
  | some (.ct, env', st'), h => exact h
  | some (.rt d, env', st'), h => exact h
  | some (.ex k fs, env', st'), h => exact h
theorem ms_pass : MST X cl E c (.Pass pos) sPass := psI ps_pass fun D σ H ⟨ρ, env, st, A, e, h⟩ => h ρ H σ .refl A e
theorem ms_doc {x j pos'} : MST X cl E c (.Expr (.Constant (.str x) j pos) pos') sPass := psI ps_doc fun D σ H ⟨ρ, env, st, A, e, h⟩ => h ρ H σ .refl A e
theorem ms_brk : MST X cl E c (.Break pos) sBrk := psI ps_break fun D σ H ⟨ρ, env, st, A, e, h⟩ => h ρ H σ .refl A e
theorem ms_cont : MST X cl E c (.Continue pos) sCont := psI ps_continue fun D σ H ⟨ρ, env, st, A, e, h⟩ => h ρ H σ .refl A e
theorem ms_expr (he : ME X cl E c e ge) (hs : swapsWith e none pos.line X.env = pure false := by rfl) : MST X cl E c (.Expr e pos) (sExpr ge) := psI (ps_expr he hs) fun D σ H ⟨ρ, env, st, A, e, h⟩ =>
  (RestS.step (x := ge c) (rV X.K) A e h).imp fun v1 H1 ⟨ρ1, st1, d1, g1, A1, r1, h1⟩ => h1 ρ1 H1 σ .refl A1 (e.grow A g1)
theorem ms_ret (he : ME X cl E c e ge) : MST X cl E c (.Return (some e) pos) (sRet ge) := psI (ps_ret he) fun D σ H ⟨ρ, env, st, A, e, h⟩ =>
  (RestS.step (x := ge c) (rV X.K) A e h).imp fun v1 H1 ⟨ρ1, st1, d1, g1, A1, r1, h1⟩ => h1 ρ1 H1 v1 .refl A1 r1
theorem ms_retN : MST X cl E c (.Return none pos) sRetN := psI ps_retN fun D σ H ⟨ρ, env, st, A, e, h⟩ => h ρ H .non .refl A .non
theorem ms_if {a b : List Stmt} {gA gB : SS} (ht : MT X cl E c e t) (ha : MSS X cl E c a gA) (hb : MSS X cl E c b gB) : MST X cl E c (.If e a b pos) (sIf t gA gB) := psI (ps_if ht ha hb) fun D σ H ⟨ρ, env, st, A, e, h⟩ =>
  (RestS.step (x := t c) rB A e h).imp fun v1 H1 ⟨ρ1, st1, d1, g1, A1, r1, h1⟩ => by
    have r1' : v1 = d1 := r1
    subst r1'
    cases v1 with
    | true => exact iteT ⟨ρ1, env, st1, A1, e.grow A g1, h1⟩
    | false => exact iteF ⟨ρ1, env, st1, A1, e.grow A g1, h1⟩

/-! ### targets -/
theorem mg_name {i : Nat} {x : Str} (hN : X.N.Nodup) (hi : X.N[i]? = some x := by rfl) (hx : Loc X.env.scope x := by first | exact Or.inl rfl | exact Or.inr rfl) (hf : X.fn x = true ∨ X.env.scope.names.lookup x = some .local := by first | exact .inl rfl | exact .inr rfl | assumption) : MG X cl c (.Name x pos) (gVar i) :=
  pgI (pg_name hN hi hx hf) fun v σ H Q ⟨ρ, env, st, d, A, e, r, h⟩ => by
    unfold gVar at h
    by_cases hl : i < env.length
    · rw [if_pos hl] at h
      exact h ρ H _ .refl A (RvE.set r i e)
    · rw [if_neg hl] at h; exact h.elim
variable {es : List Expr} {g : SG} {gg : SGs}
theorem mgs_nil : MGs X cl c [] MI.gNil := pgsI pgs_nil fun vs σ H Q ⟨ρ, env, st, ds, A, e, r, h⟩ => by
  cases r with
  | nil => exact ⟨rfl, h ρ H σ .refl A e⟩
  | cons _ _ => exact h.elim
theorem mgs_cons (h1 : MG X cl c e g) (h2 : MGs X cl c es gg) (hs : (assignEach (e :: es) X.env).map (·.2) = assign e X.env :: (assignEach es X.env).map (·.2) := by rfl) : MGs X cl c (e :: es) (MI.gCons g gg) :=
  pgsI (pgs_cons h1 h2 hs) fun vs σ H Q ⟨ρ, env, st, ds, A, e, r, h⟩ => by
    cases r with
    | nil => exact h.elim
    | @cons v vs d ds r rr =>
      refine ⟨v, vs, rfl, ρ, env, st, d, A, e, r, ?_⟩
      match q : g c d env st, h with
      | none, h => simp only [MI.gCons, q] at h; exact h.elim
      | some (env', st'), h =>
        simp only [MI.gCons, q] at h
        exact fun ρ' H' σ' g' A' e' => ⟨ρ', env', st', ds, A', e', rr.grow A g', RestG.base h g'⟩
theorem mg_tup {k n : Nat} (hc : X.calm = true) (h : MGs X cl c es gg) (hn : (assignEach es X.env).length = n := by rfl) (hst : (assignEach es X.env).findIdx? (·.1) = none := by rfl) : MG X cl c (.Tuple es k pos) (MI.gTup n gg) :=
  pgI (pg_tup hc h hn hst) fun v σ H Q ⟨ρ, env, st, d, A, e, r, h⟩ => by
    cases r with
    | @tup a vs l hs r =>
      unfold MI.gTup at h
      by_cases hl : l.length = n
      · simp only [hl, if_true] at h
        exact ⟨a, vs, rfl, hs, by rw [r.length]; exact hl, ρ, env, st, l, A, e, r, h⟩
      · simp only [hl, if_false] at h; exact h.elim
    | _ => exact h.elim
/-- what a store into a list does -/
theorem setIx_at {K : PySem.W.Frag} {ρ : List Addr} {H : Hp} {st st' : Stt} {n : Nat} {k : Int} {v : V} {d : D} {p : Addr} (A : At K cl ρ H st) (hp : ρ[n]? = some p) (r : Rv K H ρ v d) (h : setIx n k d st = some st') :
    ∃ xs j, H p = some (.lst xs) ∧ L2.ixN xs.length k = some j ∧ At K cl ρ (upd H p (.lst (xs.set j v))) st' ∧ Grow ρ H ρ (upd H p (.lst (xs.set j v))) := by
  unfold setIx at h
  cases e1 : st[n]? with
  | none => rw [e1] at h; cases h
  | some o =>
    rw [e1] at h
    have q1 := A.get hp e1
    cases q1 with
    | @lst vs l h1 rl =>
      cases q : MI.ixN l.length k with
      | none => simp only [q] at h; cases h
      | some j =>
        simp only [q] at h
        cases h
        obtain ⟨A', g⟩ := A.put (n := n) (o := .lst (vs.set j v)) (ob := .lst (l.set j d)) hp (fun kk => .lst upd_same (by
          have := RvL.set (r.keep kk []) j (rl.keep kk [])
          simpa using this))
        exact ⟨vs, j, h1, by rw [rl.length, ← ixN_same]; exact q, A', g⟩
    | _ => cases h
theorem mg_sub (ha : ME X cl (fun _ _ _ _ _ _ => False) c a ga) (hb : ME X cl (fun _ _ _ _ _ _ => False) c b gb)
    (hq : ∀ v, assign (.Subscript a b pos) X.env v = (do
      let ov ← holding [v] (eval a X.env)
      let iv ← holding [v, ov] (eval b X.env)
      standAt pos
      holding [v, ov, iv] (setItem ov iv v)
      release [v, ov, iv] []) := by intro _; rfl) : MG X cl c (.Subscript a b pos) (MI.gSub ga gb) :=
  pgI (pg_sub ha hb set_list hq) fun v σ H Q ⟨ρ, env, st, d, A, e, r, h⟩ => by
    refine (RestG.step (x := ga c) (rV X.K) A e h).imp fun v1 H1 ⟨ρ1, st1, d1, g1, A1, r1, h1⟩ => ?_
    refine (RestG.step (x := gb c) (rV X.K) A1 (e.grow A g1) h1).imp fun v2 H2 ⟨ρ2, st2, d2, g2, A2, r2, h2⟩ => ?_
    have r1' := r1.grow A1 g2
    cases r1' with
    | @loc p n hp =>
      cases r2 with
      | int k =>
        unfold putIx at h2
        cases q : setIx n k d st2 with
        | none => simp only [q] at h2; exact h2.elim
        | some st3 =>
          simp only [q] at h2
          obtain ⟨xs, j, q1, q2, A3, g3⟩ := setIx_at A2 hp (r.grow A (g1.trans g2)) q
          exact ⟨p, xs, k, j, rfl, rfl, q1, q2, h2 _ _ σ g3 A3 (e.grow A ((g1.trans g2).trans g3))⟩
      | _ => exact h2.elim
    | _ => exact h2.elim

/-! ### stores -/
theorem ms_asg (he : ME X cl E c e ge) (hg : MG X cl c a g) (hs : swapsWithSole [a] e pos.line X.env = pure false := by rfl) (hw : swappedStores [a] e X.env = pure none := by rfl)
    (h1 : (assignEach [a] X.env).map (·.2) = [assign a X.env] := by rfl) : MST X cl E c (.Assign [a] e pos) (sAsg g ge) := psI (ps_asg he hg hs hw h1) fun D σ H ⟨ρ, env, st, A, e, h⟩ =>
  (RestS.step (x := ge c) (rV X.K) A e h).imp fun v1 H1 ⟨ρ1, st1, d1, g1, A1, r1, h1⟩ => by
    refine ⟨ρ1, env, st1, d1, A1, e.grow A g1, r1, ?_⟩
    match q : g c d1 env st1, h1 with
    | none, h1 => simp only [q] at h1; exact h1.elim
    | some (env', st'), h1 => simp only [q] at h1; exact h1
theorem ms_set {i : Nat} {x : Str} {pos' : Pos} (hN : X.N.Nodup) (he : ME X cl E c e ge) (hi : X.N[i]? = some x := by rfl) (hx : Loc X.env.scope x := by first | exact Or.inl rfl | exact Or.inr rfl) (hs : swapsWith e (some (.Name x pos')) pos.line X.env = pure false := by rfl)
    (hf : X.fn x = true ∨ X.env.scope.names.lookup x = some .local := by first | exact .inl rfl | exact .inr rfl | assumption) : MST X cl E c (.Assign [.Name x pos'] e pos) (sSet i ge) := psI (ps_set hN hi hx he hs hf) fun D σ H ⟨ρ, env, st, A, e, h⟩ =>
  (RestS.step (x := ge c) (rV X.K) A e h).imp fun v1 H1 ⟨ρ1, st1, d1, g1, A1, r1, h1⟩ => by
    by_cases hl : i < env.length
    · rw [if_pos hl] at h1
      exact h1 ρ1 H1 _ .refl A1 (RvE.set r1 i (e.grow A g1))
    · rw [if_neg hl] at h1; exact h1.elim
theorem ms_par {i j : Nat} {x y : Str} {gl : SL} {px py pt : Pos} {kt k2 pt2} (hc : X.calm = true) (hN : X.N.Nodup) (ha : MA X cl E c [a, b] gl)
    (hw : swappedStores [.Tuple [.Name x px, .Name y py] kt pt] (.Tuple [a, b] k2 pt2) X.env = pure (some [x, y])) (hi : X.N[i]? = some x := by rfl) (hj : X.N[j]? = some y := by rfl) (hij : i ≠ j := by decide)
    (hx : X.env.scope.names.lookup x = some .local := by rfl) (hy : X.env.scope.names.lookup y = some .local := by rfl)
    (hs : swapsWithSole [.Tuple [.Name x px, .Name y py] kt pt] (.Tuple [a, b] k2 pt2) pos.line X.env = pure false := by rfl) :
    MST X cl E c (.Assign [.Tuple [.Name x px, .Name y py] kt pt] (.Tuple [a, b] k2 pt2) pos) (sPar i j gl) := psI (ps_par hc hN hi hj hij hx hy ha hw hs) fun D σ H ⟨ρ, env, st, A, e, h⟩ =>
  (RestS.step (x := gl c) (rL X.K) A e h).imp fun v1 H1 ⟨ρ1, st1, d1, g1, A1, r1, h1⟩ => by
    cases r1 with
    | nil => exact h1.elim
    | @cons v vs d ds ra rr =>
      cases rr with
      | nil => exact h1.elim
      | @cons w ws d' ds' rb rr =>
        cases rr with
        | cons _ _ => exact h1.elim
        | nil =>
          refine ⟨v, w, rfl, ?_⟩
          by_cases hl : i < env.length ∧ j < env.length
          · have h2 : RestS X.K cl E D (if i < env.length ∧ j < env.length then some (.nx, (env.set i (some d)).set j (some d'), st1) else none) ρ1 H1 := h1
            rw [if_pos hl] at h2
            exact h2 ρ1 H1 _ .refl A1 (RvE.set rb j (RvE.set ra i (e.grow A g1)))
          · have h2 : RestS X.K cl E D (if i < env.length ∧ j < env.length then some (.nx, (env.set i (some d)).set j (some d'), st1) else none) ρ1 H1 := h1
            rw [if_neg hl] at h2; exact h2.elim
theorem ms_aug {i : Nat} {x : Str} {op : Operator} {f : D → D → MI.R D} {r : R2} {pos' : Pos} (hN : X.N.Nodup) (ho : OpR X (inplaceOp op) r) (hs : OpS X.K cl E f r) (he : ME X cl E c e ge) (hi : X.N[i]? = some x := by rfl) (hx : Loc X.env.scope x := by first | exact Or.inl rfl | exact Or.inr rfl)
    (hf : X.fn x = true ∨ X.env.scope.names.lookup x = some .local := by first | exact .inl rfl | exact .inr rfl | assumption) : MST X cl E c (.AugAssign (.Name x pos') op e pos) (sAug i f ge) := psI (ps_aug hN hi hx he ho hf) fun D σ H ⟨ρ, env, st, A, e, h⟩ => by
  unfold sAug at h
  match q : env[i]?, h with
  | none, h => simp only [q] at h; exact h.elim
  | some none, h => simp only [q] at h; exact h.elim
  | some (some d), h =>
    simp only [q] at h
    obtain ⟨v, hv, r⟩ := e.get q
    refine ⟨v, hv, (RestS.step (x := ge c) (rV X.K) A e h).imp fun v1 H1 ⟨ρ1, st1, d1, g1, A1, r1, h1⟩ => ?_⟩
    have e1 := e.grow A g1
    refine hs A1 (r.grow A g1) r1 ((RestS.rest (rV X.K) A1 e1 h1).imp fun v2 H2 ⟨ρ2, st2, d2, g2, A2, r2, h2⟩ => ?_)
    exact h2 ρ2 H2 _ .refl A2 (RvE.set r2 i (e1.grow A1 g2))

/-! ### fields -/
theorem setFld_at {W : WX} {lv : Nat} (G : Good X W cl c lv) {ρ : List Addr} {H : Hp} {st st' : Stt} {n : Nat} {f : List Nat} {v : V} {d : D} {p : Addr} (A : At X.K cl ρ H st) (hp : ρ[n]? = some p) (r : Rv X.K H ρ v d) (h : setFld c n f d st = some st') :
    ∃ C dx fs, H p = some (.ins C dx fs) ∧ Cls X.K C ∧ NoAttr X.K C (sD f) ∧ fs.length < 1000 ∧ At X.K cl ρ (upd H p (.ins C dx (L2.putF (sD f) v fs))) st' ∧ Grow ρ H ρ (upd H p (.ins C dx (L2.putF (sD f) v fs))) := by
  unfold setFld at h
  cases e1 : st[n]? with
  | none => rw [e1] at h; cases h
  | some o =>
    rw [e1] at h
    have q1 := A.get hp e1
    cases q1 with
    | @ins dx k vfs fs h1 rl hc hn =>
      by_cases hb : fs.length < 999 ∧ c.flds k f = true
      · simp only [hb, and_self, if_true] at h
        cases h
        obtain ⟨na, hC⟩ := G.flds k f hb.2
        obtain ⟨A', g⟩ := A.put (n := n) (o := .ins (cl k) dx (L2.putF (sD f) v vfs)) (ob := .ins k (putD fs f d)) hp (fun kk => .ins upd_same (by
          have := RvF.put (f := f) (r.keep kk []) (rl.keep kk [])
          simpa using this) hc (fun p hp => by
            have : p.1 = f ∨ ∃ q ∈ fs, q.1 = p.1 := by
              clear h1 rl hn hb A e1
              induction fs with
              | nil =>
                simp [putD] at hp
                left; rw [hp]
              | cons q qs ih =>
                unfold putD at hp
                by_cases e : q.1 = f
                · rw [if_pos e] at hp
                  rcases List.mem_cons.mp hp with hp | hp
                  · left; rw [hp]; exact e
                  · right; exact ⟨p, List.mem_cons_of_mem _ hp, rfl⟩
                · rw [if_neg e] at hp
                  rcases List.mem_cons.mp hp with hp | hp
                  · right; exact ⟨q, List.mem_cons_self, by rw [hp]⟩
                  · rcases ih hp with z | ⟨z, z1, z2⟩
                    · exact .inl z
                    · exact .inr ⟨z, List.mem_cons_of_mem _ z1, z2⟩
            rcases this with z | ⟨q, z1, z2⟩
            · rw [z]; exact na
            · rw [← z2]; exact hn q z1))
        exact ⟨cl k, dx, vfs, h1, hc, na, by rw [rl.length]; omega, A', g⟩
      · simp only [hb, if_false] at h; cases h
    | _ => cases h
theorem ms_fld {W : WX} {lv : Nat} {f : Str} {pos' : Pos} (G : Good X W cl c lv) (n : List Nat) (hn : f = sD n) (ha : ME X cl E c a ga) (he : ME X cl E c e ge) (hs : swapsWith e (some (.Attribute a f pos')) pos.line X.env = pure false := by rfl) :
    MST X cl E c (.Assign [.Attribute a f pos'] e pos) (MI.sFld ga n ge) := psI (ps_fld ha he hs) fun D σ H ⟨ρ, env, st, A, e, h⟩ => by
  subst hn
  refine (RestS.step (x := ge c) (rV X.K) A e h).imp fun v1 H1 ⟨ρ1, st1, d1, g1, A1, r1, h1⟩ => ?_
  have e1 := e.grow A g1
  refine (RestS.step (x := ga c) (rV X.K) A1 e1 h1).imp fun v2 H2 ⟨ρ2, st2, d2, g2, A2, r2, h2⟩ => ?_
  cases r2 with
  | @loc p i hp =>
    unfold endFld at h2
    cases q : setFld c i n d1 st2 with
    | none => simp only [q] at h2; exact h2.elim
    | some st3 =>
      simp only [q] at h2
      obtain ⟨C, dx, fs, q1, q2, q3, q4, A3, g3⟩ := setFld_at G A2 hp (r1.grow A1 g2) q
      exact ⟨p, C, dx, fs, rfl, q1, q2, q3, q4, h2 _ _ σ g3 A3 ((e1.grow A1 g2).grow A2 g3)⟩
  | _ => exact h2.elim
theorem ms_fldaug {W : WX} {lv : Nat} {f : Str} {tpos : Pos} {op : Operator} {fo : D → D → MI.R D} {r : R2} (G : Good X W cl c lv) (n : List Nat) (hn : f = sD n) (ho : OpR X (inplaceOp op) r) (hs : OpS X.K cl E fo r) (ha : ME X cl E c a ga) (he : ME X cl E c e ge) :
    MST X cl E c (.AugAssign (.Attribute a f tpos) op e pos) (MI.sFldAug ga n fo ge) := psI (ps_fldaug ha he ho) fun D σ H ⟨ρ, env, st, A, e, h⟩ => by
  subst hn
  refine (RestS.step (x := ga c) (rV X.K) A e h).imp fun v1 H1 ⟨ρ1, st1, d1, g1, A1, r1, h1⟩ => ?_
  have e1 := e.grow A g1
  cases r1 with
  | @loc p i hp =>
    have bad : opFldK n (.loc i) st1 = none → ∀ {P : Prop}, P := fun q => by
      unfold sBnd at h1
      rw [q] at h1; exact h1.elim
    cases e1' : st1[i]? with
    | none => exact bad (by simp [opFldK, e1'])
    | some o =>
      have q1 := A1.get hp e1'
      cases q1 with
      | @ins dx k vfs fs h2 rl hc hnn =>
        rcases rl.look (f := n) with ⟨q, _⟩ | ⟨d, v, q2, q3, q4⟩
        · exact bad (by simp [opFldK, e1', q])
        · have hm : ∃ p ∈ fs, p.1 = n := by
            unfold MI.getD at q2
            obtain ⟨p, hp, _⟩ := Option.map_eq_some_iff.mp q2
            exact ⟨p, List.mem_of_find?_eq_some hp, by simpa using List.find?_some hp⟩
          obtain ⟨pp, hpp, hpg⟩ := hm
          have hno : NoAttr X.K (cl k) (sD n) := by rw [← hpg]; exact hnn pp hpp
          have eo : opFldK n (.loc i) st1 = some (.ok (k, d), st1) := by simp [opFldK, e1', q2]
          have h2' : RestS X.K cl E D (sBnd (ge c env) env (fun y => sBnd (fo d y) env fun z st => endFldK c env n k (.loc i) z st) st1) ρ1 H1 := by
            unfold sBnd at h1
            rw [eo] at h1; exact h1
          refine ⟨p, cl k, dx, vfs, v, rfl, h2, hc, hno, q3, ?_⟩
          refine (RestS.step (x := ge c) (rV X.K) A1 e1 h2').imp fun v2 H2 ⟨ρ2, st2, d2, g2, A2, r2, h3⟩ => ?_
          have e2 := e1.grow A1 g2
          refine hs A2 (q4.grow A1 g2) r2 ((RestS.rest (rV X.K) A2 e2 h3).imp fun v3 H3 ⟨ρ3, st3, d3, g3, A3, r3, h4⟩ => ?_)
          have hp3 : ρ3[i]? = some p := by
            obtain ⟨x1, rfl⟩ := g2.ext
            obtain ⟨x2, rfl⟩ := g3.ext
            exact getElem?_app (getElem?_app hp)
          unfold endFldK at h4
          by_cases hk : isCls k (.loc i) st3 = true
          · rw [if_pos hk] at h4
            unfold endFld at h4
            cases qq : setFld c i n d3 st3 with
            | none => simp only [qq] at h4; exact h4.elim
            | some st4 =>
              simp only [qq] at h4
              obtain ⟨C, dx', fs', z1, z2, z3, z4, A4, g4⟩ := setFld_at G A3 hp3 r3 qq
              have hC : C = cl k := by
                unfold isCls at hk
                cases e3 : st3[i]? with
                | none => simp [e3] at hk
                | some o3 =>
                  have w := A3.get hp3 e3
                  cases w with
                  | @ins dx3 k3 vfs3 fs3 y1 y2 y3 y4 =>
                    have : k3 = k := by simpa [e3] using hk
                    subst this
                    rw [z1] at y1; cases y1; rfl
                  | _ => simp [e3] at hk
              subst hC
              exact ⟨dx', fs', z1, z4, h4 _ _ σ g4 A4 ((e2.grow A2 g3).grow A3 g4)⟩
          · rw [if_neg hk] at h4; exact h4.elim
      | _ => exact bad (by simp [opFldK, e1'])
  | _ =>
    exfalso
    unfold sBnd at h1
    exact h1
end
end MS

set_option Elab.async false
set_option linter.all false
set_option maxRecDepth 100000
set_option maxHeartbeats 4000000
/-! MSR5: rules of our own: a walk over a list or a tuple, enumerate of a tuple. -/
namespace PySem
open Sem (wp)
open AutoSeq1 (wpAny_loadPart')
theorem meets_enumerate_newTM (l : Addr) (items : Array Value) (n : Nat) (dct : Option Addr) (sl : Array (Option Value)) :
    Meets (Builtin.«enumerate.__new__» ⟨[.type "enumerate", .ref l], []⟩) (fun _ R s => s.heap.get? l = some { cls := .type "tuple", dict := dct, data := .seq items n, slots := sl } ∧
      R (.ok (.ret (.ref (s.heap.push { cls := .type "tuple_iterator", data := .fields #[.ref l, .int 0 0] }).objs.size)))
        { s with heap := (s.heap.push { cls := .type "tuple_iterator", data := .fields #[.ref l, .int 0 0] }).push { cls := .type "enumerate", data := .fields #[.none, .bool false, .ref s.heap.objs.size, rawInt 0, .none, .none] } }) :=
  .of_wp fun prog w A R s h => by
    obtain ⟨hp, g, d, tk, os⟩ := s; obtain ⟨hl, h⟩ := h
    have hsub := sub_enumerate
    have hL : Heap.IsTuple (Shared.heap ⟨hp, g, d, tk, os⟩) l items := ⟨_, hl, rfl, n, rfl⟩
    wp_walk using wpAny_loadPart' hl
    refine wpAny_stack_any fun st => wpAny_pure ?_
    split
    · rename_i c _ _ _ _ _
      cases (c == Value.type "enumerate")
      · wp_walk using wpAny_loadPart' hl, wpAny_pyIter_tuple hL
        exact ⟨_, rfl, h⟩
      · wp_walk using wpAny_loadPart' hl, wpAny_pyIter_tuple hL
        exact ⟨_, rfl, h⟩
    · wp_walk using wpAny_loadPart' hl, wpAny_pyIter_tuple hL
      exact ⟨_, rfl, h⟩
section
variable {prog : Program} {w : World} {A : Around} {E : Value → Shared → Prop} {s : Shared}
theorem call_enumerate_tupleM {l : Addr} {items : Array Value} {Q : Value → Shared → Prop} (hL : s.heap.IsTuple l items)
    (h : ∀ h', IsEnum h' (s.heap.objs.size + 1) s.heap.objs.size 0 .none → h'.IsTupleIter s.heap.objs.size l 0 → h'.objs.size = s.heap.objs.size + 2 →
      (∀ b o, s.heap.get? b = some o → h'.get? b = some o) → Q (.ref (s.heap.objs.size + 1)) { s with heap := h' }) :
    wpAny (model prog w) A (call (.type "enumerate") [.ref l]) Q E s := by
  obtain ⟨⟨c, dct, dt, sl⟩, hl, hc, n, hd⟩ := hL
  replace hc : c = .type "tuple" := hc
  replace hd : dt = .seq items n := hd
  subst hc hd
  refine callType_new F.called_enumerate (by decide) (F.typeCall_enumerate_1 _) (F.newCall_enumerate_1 _) (fun obj => F.args_object_init_2 obj _) F.entry_enumerate_new
    (meets_enumerate_newTM l items n dct sl) ⟨hl, ?_⟩
  have hz : (s.heap.push { cls := .type "tuple_iterator", data := .fields #[.ref l, .int 0 0] }).objs.size = s.heap.objs.size + 1 := Heap.size_push ..
  show _ ∧ _
  rw [hz]
  have he : IsEnum ((s.heap.push { cls := .type "tuple_iterator", data := .fields #[.ref l, .int 0 0] }).push
      { cls := .type "enumerate", data := .fields #[.none, .bool false, .ref s.heap.objs.size, rawInt 0, .none, .none] }) (s.heap.objs.size + 1) s.heap.objs.size 0 .none := by
    have := Heap.get?_push_size (s.heap.push { cls := .type "tuple_iterator", data := .fields #[.ref l, .int 0 0] })
      (o := { cls := .type "enumerate", data := .fields #[.none, .bool false, .ref s.heap.objs.size, rawInt 0, .none, .none] }) rfl
    rw [hz] at this; exact this
  refine ⟨⟨_, he, rfl⟩, h _ he ⟨_, Heap.get?_push_of_some _ (Heap.get?_push_size _ rfl), rfl, rfl⟩ (by rw [Heap.size_push, hz]) fun b o x => Heap.get?_push_of_some _ (Heap.get?_push_of_some _ x)⟩
theorem wpAny_pyNext_enum_endT {e it t : Addr} {k : Nat} {items : Array Value} {i : Int} {old : Value} {Q : Option Value → Shared → Prop}
    (hh : A.handled = none) (he : IsEnum s.heap e it i old) (hit : s.heap.IsTupleIter it t k) (ht : s.heap.IsTuple t items) (hx : items[k]? = none)
    (hQ : ∀ h', Heap.ExtBut it s.heap h' → Q none { s with heap := h' }) : wpAny (model prog w) A (pyNext (.ref e)) Q E s := by
  have hT : s.TypeIs (.ref e) "enumerate" := ⟨_, he, rfl⟩
  unfold pyNext
  refine wpAny_bind (wpAny_attempt (wpAny_callSpecial?_slot (name := Str.ofString "__next__") hT F.slot_enumerate_next
    (wpAny_call_entry F.slot_enumerate_next hT F.entry_enumerate_next ?_ (F.args_enumerate_next_1 _))))
  show wpAny _ _ (field (.ref e) 2 >>= _) _ _ _
  refine wpAny_bind (wpAny_field he rfl (x := .ref it) rfl ?_)
  refine wpAny_bind (wpAny_nextOf_tuple_end (A := A.in1) hh hit ht hx fun h' x he' hx' => ?_)
  obtain ⟨o, ho, hc⟩ := hx'
  refine wpAny_bind (wpAny_isInstance (T := "StopIteration") (b := true) ⟨o, ho, hc⟩ isSubtype_stop ?_)
  exact wpAny_pure (hQ _ he')
end
end PySem
namespace MS
open PySem PySem.Spec PyProof.Rows L2

/-- the tuple at a, each item in a new pair -/
def IteT (K : PySem.W.Frag) (a : Addr) : It :=
  ⟨fun i H => ∃ (xs : List V) (x : V), SqT K H a xs ∧ xs[i]? = some x, fun i H v H' => ∃ T x, v = .ref T ∧ H T = none ∧ H' = upd H T (.tup [.int (i : Nat), x]) ∧ ∀ xs, SqT K H a xs → xs[i]? = some x, fun i H => ∃ xs : List V, SqT K H a xs ∧ xs.length ≤ i⟩
theorem turn_enumT {P : Program} {w : World} {K : PySem.W.Frag} {elts : List Expr} {kk : Nat} {tpos : Pos} (a e it : Addr) :
    Turn P w K (.Tuple elts kk tpos) (IteT K a) [e, it] e (fun i h => (∃ old, IsEnum h e it ((i : Nat) : Int) old) ∧ h.IsTupleIter it a i ∧ e ≠ it) where
  mem := by simp
  obj := fun i h st b hb => by
    obtain ⟨⟨old, he⟩, ⟨o, ho, hc, hd⟩, _⟩ := st
    have e' : b = e ∨ b = it := by simpa using hb
    rcases e' with z | z
    · rw [z]; exact ⟨_, he, fun v q => nomatch q⟩
    · rw [z]; exact ⟨o, ho, fun v q => by rw [hd] at q; cases q⟩
  keep := fun i h h' st k => let ⟨⟨old, he⟩, hi, hne⟩ := st; ⟨⟨old, k e (by simp) _ he⟩, hi.at fun o q => k it (by simp) o q, hne⟩
  item := by
    intro X hP hw hK hc i pins s σ H E I hf st hg
    subst hP hw hK
    obtain ⟨⟨old, he⟩, hit, hne⟩ := st
    obtain ⟨xs, x, hq, hx⟩ := hg
    obtain ⟨its, rv, p, hz⟩ := I.tuple hq
    obtain ⟨u, hu, ru⟩ := rv.get hx
    have hel : e < s.heap.objs.size := Heap.lt_size he
    have hil : it < s.heap.objs.size := by obtain ⟨_, q, _⟩ := hit; exact Heap.lt_size q
    have hai : a ≠ it := fun z => by
      obtain ⟨o1, q1, c1, _⟩ := id p
      obtain ⟨o2, q2, c2, _⟩ := id hit
      rw [z, q2] at q1; cases q1
      rw [c1] at c2; exact absurd c2 (by decide)
    have hae : e ≠ a := fun z => by
      obtain ⟨o1, q1, c1, _⟩ := id p
      have he' := he
      rw [z] at he'
      unfold IsEnum at he'
      rw [q1] at he'; cases he'
      exact absurd (show (Value.type "enumerate") = .type "tuple" from c1) (by decide)
    have hlt : i < its.toArray.size := by
      have := (List.getElem?_eq_some_iff.mp hu).1
      simpa using this
    refine wpAny_pyNext_enum_itemD (Draws.tuple (A := X.A.in1) (I.ok.hd hc) it a hai its.toArray) he ⟨hit, (show s.heap.IsTuple a its.toArray from p)⟩ hlt hne (by simp [hne, hae]) fun x1 h' tk hx1 ho hst' hT hsz hk => ?_
    have ex : x1 = u := by
      have h1 : its[i]? = some x1 := by simpa using hx1
      rw [hu] at h1; cases h1; rfl
    subst ex
    obtain ⟨hit', _⟩ := hst'
    refine ⟨_, rfl, wpAny_letOwnedTupleGo_enum (s := { s with heap := h', toks := tk + 1 }) ho fun h'' he' sb => ?_⟩
    have hT2 : h''.get? s.heap.objs.size = some { cls := .type "tuple", data := .seq #[.int i tk, x1] } := (sb.2 _ (Nat.ne_of_gt hel)).trans hT
    have new : ObjOk X.prog X.w (upd H s.heap.objs.size (.tup [.int (i : Nat), x])) h'' s.heap.objs.size (.tup [.int (i : Nat), x]) :=
      ⟨by show 2 ≤ sizeLine; decide, [.int i tk, x1], .cons ⟨_, rfl⟩ (.cons ru .nil), ⟨_, hT2, rfl, _, rfl⟩⟩
    have I1 : Inv X pins σ (upd H s.heap.objs.size (.tup [.int (i : Nat), x])) { s with heap := h'', toks := tk + 1 } :=
      I.turnedNew (ch := [e, it]) (fun b ob hb q => (sb.2 b (fun z => hb (by simp [z]))).trans (hk b ob (fun z => hb (by simp [z])) (fun z => hb (by simp [z])) q)) hf (Nat.le_refl _) new
    refine ⟨.ref s.heap.objs.size, _, I1, rfl, ⟨_, x, rfl, I.hok.fresh (Nat.le_refl _), rfl, fun ys hy => by
      rw [I.tuple_inj hy hq]; exact hx⟩, ⟨⟨x1, ?_⟩, hit'.at fun o q => (sb.2 it (Ne.symm hne)).trans q, hne⟩, fun b hb => ?_⟩
    · have e1 : ((i + 1 : Nat) : Int) = (i : Int) + 1 := by omega
      rw [e1]; exact he'
    · have hb' : b < s.heap.objs.size := by
        have e' : b = e ∨ b = it := by simpa using hb
        rcases e' with z | z
        · rw [z]; exact hel
        · rw [z]; exact hil
      rw [upd_ne (Nat.ne_of_lt hb')]
      exact (hf b hb).1
  done := by
    intro X hP hw hK hc i pins s σ H E I hf st hg
    subst hP hw hK
    obtain ⟨⟨old, he⟩, hit, hne⟩ := st
    obtain ⟨xs, hq, hx⟩ := hg
    obtain ⟨its, rv, p, hz⟩ := I.tuple hq
    obtain ⟨f0, f1, f2, f3, f4, f5⟩ := hf it (by simp)
    have hl := rv.length
    exact wpAny_pyNext_enum_endT (I.ok.hd hc) he hit (show s.heap.IsTuple a its.toArray from p) (by simp; omega) fun h' eb => ⟨rfl, I.turned (t' := s.toks) (fun b o hb q => eb b o hb q) f0 f1 f3 f4 f5⟩
  self := fun A i s Q E st h => let ⟨⟨_, he⟩, _⟩ := st; wpAny_pyIter_enum he h
/-- a walk over a list or a tuple -/
def iSeqA (K : PySem.W.Frag) (tl : TE) : TI := fun σ H R => tl σ H fun x H1 => ∃ a, x = .ref a ∧ (((∃ xs, SqL K H1 a xs) ∧ R (Itl K a) H1) ∨ ((∃ xs, SqT K H1 a xs) ∧ R (Itt K a) H1))
theorem pi_seqA {X : Cx} {tg l : Expr} {tl : TE} (hl : PE X l tl) : PI X tg l (iSeqA X.K tl) := by
  refine ⟨fun pins s σ H R I h => ?_⟩
  refine thn (hl.run pins s σ H _ I h) fun v s1 ⟨x, H1, I1, r1, q1⟩ => ?_
  obtain ⟨a, e, ⟨⟨xs, hq⟩, q⟩ | ⟨⟨xs, hq⟩, q⟩⟩ := q1
  · subst e
    cases r1
    obtain ⟨its, rv, p, hz⟩ := I1.list hq
    refine wpAny_pyIter_list p.isList ?_
    refine ⟨s1.heap.objs.size, [s1.heap.objs.size], _, _, H1, rfl, I1.kept (t' := s1.toks) fun b o e => Heap.get?_push_of_some _ e, turn_list a _, ⟨_, Heap.get?_push_size _ rfl, rfl, rfl⟩, fun b hb => ?_, q⟩
    have e : b = s1.heap.objs.size := by simpa using hb
    subst e
    exact I1.fpOk (Nat.le_refl _) (I1.hok.fresh (Nat.le_refl _))
  · subst e
    cases r1
    obtain ⟨its, rv, p, hz⟩ := I1.tuple hq
    refine wpAny_pyIter_tuple (show s1.heap.IsTuple a its.toArray from p) ?_
    refine ⟨s1.heap.objs.size, [s1.heap.objs.size], _, _, H1, rfl, I1.kept (t' := s1.toks) fun b o e => Heap.get?_push_of_some _ e, turn_tuple a _, ⟨_, Heap.get?_push_size _ rfl, rfl, rfl⟩, fun b hb => ?_, q⟩
    have e : b = s1.heap.objs.size := by simpa using hb
    subst e
    exact I1.fpOk (Nat.le_refl _) (I1.hok.fresh (Nat.le_refl _))
def iEnumA (K : PySem.W.Frag) (ta : TA) : TI := fun σ H R => ta σ H fun vs H1 => ∃ a, vs = [.ref a] ∧ (((∃ xs, SqL K H1 a xs) ∧ R (Ite K a) H1) ∨ ((∃ xs, SqT K H1 a xs) ∧ R (IteT K a) H1))
theorem pi_enumA {X : Cx} {e : Expr} {ta : TA} {p pos tpos : Pos} {elts : List Expr} {kk : Nat} (hg : Gl X "enumerate") (hm : X.mg "enumerate" = none) (ha : PA X [e] ta) (hs : starEach [e] X.env = [(false, eval e X.env)] := by rfl) :
    PI X (.Tuple elts kk tpos) (.Call (.Name "enumerate" p) [e] [] pos) (iEnumA X.K ta) := by
  refine ⟨fun pins s σ H R I h => ?_⟩
  refine Call_ (ld_blt I hg hm boot_enumerate (PyProof.Rows.callWith_type1 (thn (ha.run pos pins s σ H _ I h) fun us s1 ⟨vs, H1, I1, r1, q1⟩ => ?_) hs rfl))
  obtain ⟨a, ex, q⟩ := q1
  subst ex
  cases r1 with
  | cons r rr =>
    cases rr
    cases r
    have fin : ∀ b, b ∈ [s1.heap.objs.size + 1, s1.heap.objs.size] → FpOk X pins H1 b := fun b hb => by
      have e' : b = s1.heap.objs.size + 1 ∨ b = s1.heap.objs.size := by simpa using hb
      have hle : s1.heap.objs.size ≤ b := by
        rcases e' with z | z
        · rw [z]; exact Nat.le_add_right _ _
        · rw [z]; exact Nat.le_refl _
      exact I1.fpOk hle (I1.hok.fresh hle)
    rcases q with ⟨⟨xs, hq⟩, q⟩ | ⟨⟨xs, hq⟩, q⟩
    · obtain ⟨its, rv, p', hz⟩ := I1.list hq
      refine call_enumerate_list p'.isList fun h' he hit hsz hk => wpAny_pyIter_enum he ?_
      have I2 : Inv X pins σ H1 { s1 with heap := h' } := I1.kept (t' := s1.toks) hk
      exact ⟨s1.heap.objs.size + 1, [s1.heap.objs.size + 1, s1.heap.objs.size], _, _, H1, rfl, I2, turn_enum a (s1.heap.objs.size + 1) s1.heap.objs.size, ⟨⟨.none, he⟩, hit, Nat.succ_ne_self _⟩, fin, q⟩
    · obtain ⟨its, rv, p', hz⟩ := I1.tuple hq
      refine call_enumerate_tupleM (show s1.heap.IsTuple a its.toArray from p') fun h' he hit hsz hk => wpAny_pyIter_enum he ?_
      have I2 : Inv X pins σ H1 { s1 with heap := h' } := I1.kept (t' := s1.toks) hk
      exact ⟨s1.heap.objs.size + 1, [s1.heap.objs.size + 1, s1.heap.objs.size], _, _, H1, rfl, I2, turn_enumT a (s1.heap.objs.size + 1) s1.heap.objs.size, ⟨⟨.none, he⟩, hit, Nat.succ_ne_self _⟩, fin, q⟩
end MS

set_option Elab.async false
set_option linter.all false
set_option maxRecDepth 100000
set_option maxHeartbeats 4000000
/-! MS10: in-place operators, loops, what they walk. -/
namespace MS
open PySem PySem.Spec PyProof.Rows L2 MI

section
variable {K : PySem.W.Frag} {cl : Nat → Addr} {E : EX}
def rIAddA (K : PySem.W.Frag) : R2 := fun x y H Q => ((rI0 fun i j => .int (i + j)) x y H Q ∨ (∃ i j, x = .str i ∧ y = .str j ∧ i.length + j.length ≤ sizeLine ∧ Q (.str (i ++ j)) H)) ∨ rCatA K x y H Q
theorem iop_addA {X : Cx} : OpR X (inplaceOp .Add) (rIAddA X.K) := OpR.orI (OpR.orI iop_add iop_add_str) iop_catA
theorem s_iadd : OpS K cl E opIAdd (rIAddA K) := by
  intro σ Q ρ H st v1 v2 d1 d2 A r1 r2 h
  cases r1 with
  | int i =>
    cases r2 with
    | int j => exact .inl (.inl ⟨i, j, rfl, rfl, h.ok (st' := st) rfl .refl A (.int _)⟩)
    | _ => exact h.none rfl
  | str s =>
    cases r2 with
    | str t =>
      by_cases hl : s.length + t.length < lim
      · refine .inl (.inr ⟨_, _, rfl, rfl, by rw [sD_len, sD_len]; exact lim_size hl, ?_⟩)
        rw [sD_app]
        exact h.ok (st' := st) (d := .str (s ++ t)) (by simp [opIAdd, hl]) .refl A (.str _)
      · exact h.none (by simp [opIAdd, hl])
    | _ => exact h.none rfl
  | @tup a vs l hs r =>
    cases r2 with
    | @tup b ws m hs' r' =>
      by_cases hl : l.length + m.length < lim
      · have e : opIAdd (.tup l) (.tup m) st = some (.ok (.tup (l ++ m)), st) := by simp [opIAdd, hl]
        refine .inr ⟨a, b, vs, ws, rfl, rfl, hs, hs', by rw [r.length, r'.length]; exact lim_size hl, fun z => ?_, fun _ z => ?_, fun _ _ p n => ?_⟩
        · have zl : l = [] := r.nil_iff.mp z
          refine h.ok e .refl A ?_
          rw [zl]; exact .tup hs' r'
        · have zl : m = [] := r'.nil_iff.mp z
          refine h.ok e .refl A ?_
          rw [zl, List.append_nil]; exact .tup hs r
        · exact rest_tup A (r.append r') h e p n
      · exact h.none (by simp [opIAdd, hl])
    | _ => exact h.none rfl
  | _ => exact h.none rfl
end

section
variable {X : Cx} {cl : Nat → Addr} {E : EX} {c : MI.Ctx} {a b e : Expr} {ga gb ge : SE} {pos : Pos} {ss : List Stmt} {gs gr : SS} {t : MI.ST}
/-! ### a[i] op= e -/
theorem ms_subaug {op : Operator} {fo : D → D → MI.R D} {r : R2} {tpos : Pos} (ho : OpR X (inplaceOp op) r) (hs : OpS X.K cl E fo r) (ha : ME X cl E c a ga) (hb : ME X cl E c b gb) (he : ME X cl E c e ge)
    (hq : ∀ ov iv new, augStore b ov iv new = (do holding [new, ov, iv] (setItem ov iv new); release [new, ov, iv] []; pure .next) := by intros; rfl) : MST X cl E c (.AugAssign (.Subscript a b tpos) op e pos) (sSubAug ga gb fo ge) :=
  psI (ps_augS ha hb pget_list he ho set_list hq) fun D σ H ⟨ρ, env, st, A, e, h⟩ => by
    refine (RestS.step (x := ga c) (rV X.K) A e h).imp fun v1 H1 ⟨ρ1, st1, d1, g1, A1, r1, h1⟩ => ?_
    refine (RestS.step (x := gb c) (rV X.K) A1 (e.grow A g1) h1).imp fun v2 H2 ⟨ρ2, st2, d2, g2, A2, r2, h2⟩ => ?_
    have e2 := (e.grow A g1).grow A1 g2
    have r1' := r1.grow A1 g2
    have bad : opIxL d1 d2 st2 = none → ∀ {P : Prop}, P := fun q => by
      unfold sBnd at h2
      rw [q] at h2; exact h2.elim
    cases r1' with
    | @loc p n hp =>
      cases r2 with
      | int i =>
        cases e1 : st2[n]? with
        | none => exact bad (by simp [opIxL, opIx, e1])
        | some o =>
          have q1 := A2.get hp e1
          cases q1 with
          | @lst vs l z1 r =>
            cases q : (MI.ixN l.length i).bind fun k => l[k]? with
            | none => exact bad (by simp [opIxL, opIx, e1, q])
            | some d =>
              obtain ⟨v, y1, y2⟩ := atI_of r q
              have eo : opIxL (.loc n) (.int i) st2 = some (.ok d, st2) := by simp [opIxL, opIx, e1, q]
              have h3 : RestS X.K cl E D (sBnd (ge c env) env (fun z => sBnd (fo d z) env fun u st => endIx env (.loc n) (.int i) u st) st2) ρ2 H2 := by
                unfold sBnd at h2
                rw [eo] at h2; exact h2
              refine ⟨p, vs, i, v, rfl, rfl, SqL.of z1, y1, ?_⟩
              refine (RestS.step (x := ge c) (rV X.K) A2 e2 h3).imp fun v4 H4 ⟨ρ4, st4, d4, g4, A4, r4, h4⟩ => ?_
              have e4 := e2.grow A2 g4
              refine hs A4 (y2.grow A2 g4) r4 ((RestS.rest (rV X.K) A4 e4 h4).imp fun v5 H5 ⟨ρ5, st5, d5, g5, A5, r5, h5⟩ => ?_)
              have hp5 : ρ5[n]? = some p := by
                obtain ⟨x1, rfl⟩ := g4.ext
                obtain ⟨x2, rfl⟩ := g5.ext
                exact getElem?_app (getElem?_app hp)
              unfold endIx at h5
              cases qq : setIx n i d5 st5 with
              | none => simp only [qq] at h5; exact h5.elim
              | some st6 =>
                simp only [qq] at h5
                obtain ⟨xs, j, w1, w2, A6, g6⟩ := setIx_at A5 hp5 r5 qq
                exact ⟨p, xs, i, j, rfl, rfl, w1, w2, h5 _ _ σ g6 A6 ((e4.grow A4 g5).grow A5 g6)⟩
          | _ => exact bad (by simp [opIxL, opIx, e1])
      | _ => exact bad (by simp [opIxL, opIx])
    | _ => exact bad rfl

/-! ### while -/
theorem ms_while (hp : PassesOwn (model X.prog X.w) X.A X.env X.xe) (ht : MT X cl E c e t) (hb : MSS X cl E c ss gs) : MST X cl E c (.While e ss [] pos) (sWhile t gs) := psI (ps_while hp ht hb) fun D σ H ⟨ρ, env, st, A, e, h⟩ => by
  refine ⟨fun m σ H => ∃ ρ env st, At X.K cl ρ H st ∧ RvE X.K H ρ σ env ∧ RestS X.K cl E D (whileL (t c) (gs c) m env st) ρ H, ⟨c.fuel, ρ, env, st, A, e, h⟩, ?_⟩
  rintro m σ H ⟨ρ, env, st, A, e, h⟩
  cases m with
  | zero => exact h.elim
  | succ m =>
    refine ⟨ρ, env, st, A, e, ?_⟩
    unfold whileL at h
    cases q : t c env st with
    | none => simp only [q] at h; exact h.elim
    | some p =>
      obtain ⟨rs, st1⟩ := p
      cases rs with
      | exc k fs =>
        simp only [q] at h
        exact .inr ⟨k, fs, st1, q, fun ρ1 H1 g1 A1 => h ρ1 H1 σ g1 A1 (e.grow A g1)⟩
      | ok b =>
        refine .inl ⟨b, st1, q, fun ρ1 H1 v1 g1 A1 r1 => ?_⟩
        have r1' : v1 = b := r1
        subst r1'
        have e1 := e.grow A g1
        cases v1 with
        | false =>
          simp only [q] at h
          exact iteF (h ρ1 H1 σ g1 A1 e1)
        | true =>
          simp only [q] at h
          refine iteT ⟨fun σ' H' => ∃ ρ env st, At X.K cl ρ H' st ∧ RvE X.K H' ρ σ' env ∧ RestS X.K cl E D (whileL (t c) (gs c) m env st) ρ H', fun σ' H' w => ⟨m, Nat.lt_succ_self m, w⟩, ρ1, env, st1, A1, e1, ?_⟩
          match qq : gs c env st1, h with
          | none, h => simp only [qq] at h; exact h.elim
          | some (.nx, env', st'), h => simp only [qq] at h; exact fun ρ' H' σ' g' A' e' => ⟨ρ', env', st', A', e', RestS.base h (g1.trans g')⟩
          | some (.ct, env', st'), h => simp only [qq] at h; exact fun ρ' H' σ' g' A' e' => ⟨ρ', env', st', A', e', RestS.base h (g1.trans g')⟩
          | some (.bk, env', st'), h => simp only [qq] at h; exact fun ρ' H' σ' g' A' e' => h ρ' H' σ' (g1.trans g') A' e'
          | some (.rt d, env', st'), h => simp only [qq] at h; exact fun ρ' H' σ' g' A' e' => h ρ' H' σ' (g1.trans g') A' e'
          | some (.ex k fs, env', st'), h => simp only [qq] at h; exact fun ρ' H' σ' g' A' e' => h ρ' H' σ' (g1.trans g') A' e'

/-! ### for -/
/-- J walks what s gives -/
structure SrcOk (K : PySem.W.Frag) (cl : Nat → Addr) (s : Src) (J : It) (ρ0 : List Addr) (H0 : Hp) : Prop where
  go : ∀ ρ H st i d, Grow ρ0 H0 ρ H → At K cl ρ H st → srcAt s i st = some (some d) → J.go i H ∧ ∀ x H', J.yld i H x H' → ∃ ρ', Grow ρ H ρ' H' ∧ At K cl ρ' H' st ∧ Rv K H' ρ' x d
  stop : ∀ ρ H st i, Grow ρ0 H0 ρ H → At K cl ρ H st → srcAt s i st = some none → J.stop i H
abbrev rS (K : PySem.W.Frag) (cl : Nat → Addr) : Hp → List Addr → It → Src → Prop := fun H ρ J s => SrcOk K cl s J ρ H
abbrev MI_ (X : Cx) (cl : Nat → Addr) (E : EX) (c : MI.Ctx) (tg e : Expr) (g : SI) : Prop := PI X tg e (TM X.K cl E (rS X.K cl) (g c))
theorem piI {tg : Expr} {t t' : TI} (h : PI X tg e t) (i : ∀ σ H R, t' σ H R → t σ H R) : PI X tg e t' := ⟨fun pins s σ H R I q => h.run pins s σ H R I (i σ H R q)⟩
theorem ms_for {tg : Expr} {g : SG} {gi : SI} (hp : PassesOwn (model X.prog X.w) X.A X.env X.xe) (hc : X.calm = true) (hi : MI_ X cl E c tg e gi) (hg : MG X cl c tg g) (hb : MSS X cl E c ss gs)
    (hs : ∀ x, foldedSetIterable e X.env x = pure x := by intro _; rfl) : MST X cl E c (.For tg e ss [] pos) (sFor g gi gs) := psI (ps_for hp hc hi hg hb hs) fun D σ H ⟨ρ, env, st, A, e, h⟩ => by
  refine (RestS.step (x := gi c) (rS X.K cl) A e h).imp fun J H1 ⟨ρ1, st1, s, g1, A1, S, h1⟩ => ?_
  refine ⟨fun i m σ H => ∃ ρ env st, Grow ρ1 H1 ρ H ∧ At X.K cl ρ H st ∧ RvE X.K H ρ σ env ∧ RestS X.K cl E D (forL s (turnOf g gs c) m i env st) ρ H, ⟨c.fuel, ρ1, env, st1, .refl, A1, e.grow A g1, h1⟩, ?_⟩
  rintro i m σ H ⟨ρ, env, st, gg, A, e, h⟩
  cases m with
  | zero => exact h.elim
  | succ m =>
    unfold forL at h
    cases q : srcAt s i st with
    | none => simp only [q] at h; exact h.elim
    | some o =>
      cases o with
      | none =>
        simp only [q] at h
        exact .inl ⟨S.stop ρ H st i gg A q, h ρ H σ .refl A e⟩
      | some d =>
        simp only [q] at h
        obtain ⟨go, yl⟩ := S.go ρ H st i d gg A q
        refine .inr ⟨go, fun σ' H' => ∃ ρ env st, Grow ρ1 H1 ρ H' ∧ At X.K cl ρ H' st ∧ RvE X.K H' ρ σ' env ∧ RestS X.K cl E D (forL s (turnOf g gs c) m (i + 1) env st) ρ H', fun σ' H' w => ⟨m, Nat.lt_succ_self m, w⟩, fun x H' y => ?_⟩
        obtain ⟨ρ2, g2, A2, r2⟩ := yl x H' y
        refine ⟨ρ2, env, st, d, A2, e.grow A g2, r2, ?_⟩
        unfold turnOf at h
        match qq : g c d env st, h with
        | none, h => simp only [qq] at h; exact h.elim
        | some (env', st'), h =>
          simp only [qq] at h
          refine fun ρ3 H3 σ3 g3 A3 e3 => ⟨ρ3, env', st', A3, e3, ?_⟩
          have g13 := g2.trans g3
          match q3 : gs c env' st', h with
          | none, h => simp only [q3] at h; exact h.elim
          | some (.nx, env', st'), h => simp only [q3] at h; exact fun ρ' H' σ' g' A' e' => ⟨ρ', env', st', gg.trans (g13.trans g'), A', e', RestS.base h (g13.trans g')⟩
          | some (.ct, env', st'), h => simp only [q3] at h; exact fun ρ' H' σ' g' A' e' => ⟨ρ', env', st', gg.trans (g13.trans g'), A', e', RestS.base h (g13.trans g')⟩
          | some (.bk, env', st'), h => simp only [q3] at h; exact fun ρ' H' σ' g' A' e' => h ρ' H' σ' (g13.trans g') A' e'
          | some (.rt d, env', st'), h => simp only [q3] at h; exact fun ρ' H' σ' g' A' e' => h ρ' H' σ' (g13.trans g') A' e'
          | some (.ex k fs, env', st'), h => simp only [q3] at h; exact fun ρ' H' σ' g' A' e' => h ρ' H' σ' (g13.trans g') A' e'

/-! ### what is walked -/
theorem src_list {K : PySem.W.Frag} {ρ0 : List Addr} {H0 : Hp} {n : Nat} {p : Addr} (hp : ρ0[n]? = some p) : SrcOk K cl (.live n) (Itl K p) ρ0 H0 := by
  have at_ : ∀ {ρ H st}, Grow ρ0 H0 ρ H → At K cl ρ H st → ∀ {l}, st[n]? = some (.lst l) → ∃ vs, H p = some (.lst vs) ∧ RvL K H ρ vs l := fun {ρ H st} g A {l} e1 => by
    have hp' : ρ[n]? = some p := by obtain ⟨x, rfl⟩ := g.ext; exact getElem?_app hp
    have q1 := A.get hp' e1
    cases q1 with
    | lst z r => exact ⟨_, z, r⟩
  refine ⟨fun ρ H st i d g A h => ?_, fun ρ H st i g A h => ?_⟩
  · unfold srcAt at h
    cases e1 : st[n]? with
    | none => simp only [e1] at h; cases h
    | some o =>
      cases o with
      | lst l =>
        simp only [e1] at h
        obtain ⟨vs, z, r⟩ := at_ g A e1
        obtain ⟨v, hv, rv⟩ := r.get (Option.some.inj h)
        refine ⟨⟨vs, v, SqL.of z, hv⟩, fun x H' y => ?_⟩
        obtain ⟨rfl, y⟩ := y
        have := y vs (SqL.of z)
        rw [hv] at this; cases this
        exact ⟨ρ, .refl, A, rv⟩
      | _ => simp only [e1] at h; cases h
  · unfold srcAt at h
    cases e1 : st[n]? with
    | none => simp only [e1] at h; cases h
    | some o =>
      cases o with
      | lst l =>
        simp only [e1] at h
        obtain ⟨vs, z, r⟩ := at_ g A e1
        refine ⟨vs, SqL.of z, ?_⟩
        rw [r.length]
        exact List.getElem?_eq_none_iff.mp (Option.some.inj h)
      | _ => simp only [e1] at h; cases h
theorem src_tup {K : PySem.W.Frag} {ρ0 : List Addr} {H0 : Hp} {st0 : Stt} {p : Addr} {vs : List V} {l : List D} (A0 : At K cl ρ0 H0 st0) (hs : SqT K H0 p vs) (r : RvL K H0 ρ0 vs l) : SrcOk K cl (.items l) (Itt K p) ρ0 H0 := by
  refine ⟨fun ρ H st i d g A h => ?_, fun ρ H st i g A h => ?_⟩
  · have s1 := (A0.keep g).t _ _ hs
    obtain ⟨v, hv, rv⟩ := (r.grow A0 g).get (Option.some.inj h)
    refine ⟨⟨vs, v, s1, hv⟩, fun x H' y => ?_⟩
    obtain ⟨rfl, y⟩ := y
    have := y vs s1
    rw [hv] at this; cases this
    exact ⟨ρ, .refl, A, rv⟩
  · refine ⟨vs, (A0.keep g).t _ _ hs, ?_⟩
    rw [r.length]
    exact List.getElem?_eq_none_iff.mp (Option.some.inj h)
theorem src_frz {K : PySem.W.Frag} {ρ0 : List Addr} {H0 : Hp} {st0 : Stt} {p : Addr} {vs : List V} {l : List D} (A0 : At K cl ρ0 H0 st0) (hs : FrL K H0 p vs) (r : RvL K H0 ρ0 vs l) : SrcOk K cl (.items l) (Itl K p) ρ0 H0 := by
  refine ⟨fun ρ H st i d g A h => ?_, fun ρ H st i g A h => ?_⟩
  · have s1 := ((A0.keep g).f _ _ hs).seq
    obtain ⟨v, hv, rv⟩ := (r.grow A0 g).get (Option.some.inj h)
    refine ⟨⟨vs, v, s1, hv⟩, fun x H' y => ?_⟩
    obtain ⟨rfl, y⟩ := y
    have := y vs s1
    rw [hv] at this; cases this
    exact ⟨ρ, .refl, A, rv⟩
  · refine ⟨vs, ((A0.keep g).f _ _ hs).seq, ?_⟩
    rw [r.length]
    exact List.getElem?_eq_none_iff.mp (Option.some.inj h)
theorem mi_seq {tg : Expr} (ha : ME X cl E c a ga) : MI_ X cl E c tg a (iSeq ga) := piI (pi_seqA ha) fun σ H R ⟨ρ, env, st, A, e, h⟩ => by
  refine (Rest.step (g := ga c) (rV X.K) A e h).imp fun v1 H1 ⟨ρ1, st1, d1, g1, A1, r1, h1⟩ => ?_
  cases r1 with
  | @tup p vs l hs r => exact ⟨p, rfl, .inr ⟨⟨vs, hs⟩, h1.ok (st' := st1) (d := .items l) rfl .refl A1 (src_tup A1 hs r)⟩⟩
  | @xtup p vs l hs r => exact ⟨p, rfl, .inr ⟨⟨vs, hs.seq⟩, h1.ok (st' := st1) (d := .items l) rfl .refl A1 (src_tup A1 hs.seq r)⟩⟩
  | @frz p vs l hs r => exact ⟨p, rfl, .inl ⟨⟨vs, hs.seq⟩, h1.ok (st' := st1) (d := .items l) rfl .refl A1 (src_frz A1 hs r)⟩⟩
  | @loc p n hp =>
    cases e1 : st1[n]? with
    | none => exact h1.none (by simp [e1])
    | some o =>
      have q1 := A1.get hp e1
      cases q1 with
      | @lst vs l z r => exact ⟨p, rfl, .inl ⟨⟨vs, SqL.of z⟩, h1.ok (st' := st1) (d := .live n) (by simp [e1]) .refl A1 (src_list hp)⟩⟩
      | _ => exact h1.none (by simp [e1])
  | _ => exact h1.none rfl
/-! ### range -/
theorem rangeL_get {lo hi : Int} {i : Nat} : (rangeL lo hi)[i]? = if i < (hi - lo).toNat then some (.int (lo + i)) else none := by
  unfold rangeL
  by_cases h : i < (hi - lo).toNat
  · simp [h]
  · simp [h]
theorem src_range {K : PySem.W.Frag} {ρ0 : List Addr} {H0 : Hp} {lo hi : Int} : SrcOk K cl (.items (rangeL lo hi)) (Itr lo (hi - lo).toNat) ρ0 H0 := by
  refine ⟨fun ρ H st i d g A h => ?_, fun ρ H st i g A h => ?_⟩
  · have h' := Option.some.inj h
    rw [rangeL_get] at h'
    by_cases hi' : i < (hi - lo).toNat
    · rw [if_pos hi'] at h'
      cases h'
      refine ⟨hi', fun x H' y => ?_⟩
      obtain ⟨rfl, rfl⟩ := y
      exact ⟨ρ, .refl, A, .int _⟩
    · rw [if_neg hi'] at h'; cases h'
  · have h' := Option.some.inj h
    rw [rangeL_get] at h'
    by_cases hi' : i < (hi - lo).toNat
    · rw [if_pos hi'] at h'; cases h'
    · exact Nat.le_of_not_lt hi'
theorem lim_eq : (lim : Int) = 16777216 := rfl
theorem mi_range1 {tg : Expr} {p : Pos} (hg : Gl X "range") (hm : X.mg "range" = none) (ha : ME X cl E c a ga) (hs : starEach [a] X.env = [(false, eval a X.env)] := by rfl) : MI_ X cl E c tg (.Call (.Name "range" p) [a] [] pos) (iRange1 ga) :=
  piI (pi_range1 (ta := tCons (TM X.K cl E (rV X.K) (ga c)) tNil) hg hm (pa_cons ha pa_nil hs) hs) fun σ H R ⟨ρ, env, st, A, e, h⟩ => by
    refine (Rest.step (g := ga c) (rV X.K) A e h).imp fun v1 H1 ⟨ρ1, st1, d1, g1, A1, r1, h1⟩ => ?_
    cases r1 with
    | int n =>
      by_cases hb : -(lim : Int) < n ∧ n < lim
      · have e1 := lim_eq
        refine ⟨n, rfl, by omega, by omega, h1.ok (st' := st1) (d := .items (rangeL 0 n)) (by show (if -(lim : Int) < n ∧ n < lim then MI.ret (Src.items (rangeL 0 n)) else MI.fail) st1 = _; rw [if_pos hb]; rfl) .refl A1 ?_⟩
        have := src_range (K := X.K) (cl := cl) (ρ0 := ρ1) (H0 := H1) (lo := 0) (hi := n)
        simpa using this
      · exact h1.none (by show (if -(lim : Int) < n ∧ n < lim then MI.ret (Src.items (rangeL 0 n)) else MI.fail) st1 = _; rw [if_neg hb]; rfl)
    | _ => exact h1.none rfl
theorem mi_range2 {tg : Expr} {p : Pos} (hg : Gl X "range") (hm : X.mg "range" = none) (ha : ME X cl E c a ga) (hb : ME X cl E c b gb) (hs : starEach [a, b] X.env = [(false, eval a X.env), (false, eval b X.env)] := by rfl) (hs2 : starEach [b] X.env = [(false, eval b X.env)] := by rfl) : MI_ X cl E c tg (.Call (.Name "range" p) [a, b] [] pos) (iRange2 ga gb) :=
  piI (pi_range2 (ta := tCons (TM X.K cl E (rV X.K) (ga c)) (tCons (TM X.K cl E (rV X.K) (gb c)) tNil)) hg hm (pa_cons ha (pa_cons hb pa_nil hs2) (by rw [hs, hs2])) hs hs2) fun σ H R ⟨ρ, env, st, A, e, h⟩ => by
    refine (Rest.step (g := ga c) (rV X.K) A e h).imp fun v1 H1 ⟨ρ1, st1, d1, g1, A1, r1, h1⟩ => ?_
    refine (Rest.step (g := gb c) (rV X.K) A1 (e.grow A g1) h1).imp fun v2 H2 ⟨ρ2, st2, d2, g2, A2, r2, h2⟩ => ?_
    cases r1 with
    | int m =>
      cases r2 with
      | int n =>
        have e1 := lim_eq
        by_cases hb : -(lim : Int) < m ∧ m < lim ∧ -(lim : Int) < n ∧ n < lim
        · refine ⟨m, n, rfl, by omega, h2.ok (st' := st2) (d := .items (rangeL m n)) (by show (if -(lim : Int) < m ∧ m < lim ∧ -(lim : Int) < n ∧ n < lim then MI.ret (Src.items (rangeL m n)) else MI.fail) st2 = _; rw [if_pos hb]; rfl) .refl A2 src_range⟩
        · exact h2.none (by show (if -(lim : Int) < m ∧ m < lim ∧ -(lim : Int) < n ∧ n < lim then MI.ret (Src.items (rangeL m n)) else MI.fail) st2 = _; rw [if_neg hb]; rfl)
      | _ => exact h2.none rfl
    | _ => exact h2.none (by cases r2 <;> rfl)
theorem everyOther_get {α : Type} : ∀ (l : List α) (i : Nat), (everyOther l)[i]? = l[2 * i]?
  | [], _ => rfl
  | [x], 0 => rfl
  | [x], i + 1 => by simp [everyOther]
  | x :: y :: r, 0 => rfl
  | x :: y :: r, i + 1 => by
    have e : 2 * (i + 1) = (2 * i + 1) + 1 := by omega
    rw [e]
    simp only [everyOther, List.getElem?_cons_succ]
    exact everyOther_get r i
theorem mi_range3 {tg : Expr} {p p1 p2 : Pos} {j1 j2 : Nat} (hg : Gl X "range") (hm : X.mg "range" = none) (ha : ME X cl E c a ga)
    (hs : starEach [Expr.Constant (.int 0) j1 p1, a, .Constant (.int 2) j2 p2] X.env = (false, eval (Expr.Constant (.int 0) j1 p1) X.env) :: starEach [a, .Constant (.int 2) j2 p2] X.env := by rfl)
    (hs2 : starEach [a, Expr.Constant (.int 2) j2 p2] X.env = (false, eval a X.env) :: starEach [Expr.Constant (.int 2) j2 p2] X.env := by rfl)
    (hs3 : starEach [Expr.Constant (.int 2) j2 p2] X.env = (false, eval (Expr.Constant (.int 2) j2 p2) X.env) :: starEach [] X.env := by rfl) (hpl : (backTo pos (starEach [a, Expr.Constant (.int 2) j2 p2] X.env)).any (·.1) = false := by rfl) :
    MI_ X cl E c tg (.Call (.Name "range" p) [.Constant (.int 0) j1 p1, a, .Constant (.int 2) j2 p2] [] pos) (iRange3 ga) :=
  piI (pi_range3 (ta := tCons (tC (.int 0)) (tCons (TM X.K cl E (rV X.K) (ga c)) (tCons (tC (.int 2)) tNil))) hg hm (pa_cons pe_int (pa_cons ha (pa_cons pe_int pa_nil hs3) hs2) hs) hs hpl) fun σ H R ⟨ρ, env, st, A, e, h⟩ => by
    show TM X.K cl E (rV X.K) (ga c) σ H _
    refine (Rest.step (g := ga c) (rV X.K) A e h).imp fun v1 H1 ⟨ρ1, st1, d1, g1, A1, r1, h1⟩ => ?_
    cases r1 with
    | int n =>
      have e1 := lim_eq
      by_cases hb : -(lim : Int) < n ∧ n < lim
      · have hsz : Builtin.Range.rangeSize 0 n 2 = (((n + 1) / 2).toNat : Nat) := by
          unfold Builtin.Range.rangeSize
          simp only [show (2 : Int) > 0 by decide, if_true]
          split <;> omega
        refine ⟨0, n, 2, ((n + 1) / 2).toNat, rfl, ⟨by decide, by decide, ?_, hsz⟩, h1.ok (st' := st1) (d := .items (everyOther (rangeL 0 n))) (by show (if -(lim : Int) < n ∧ n < lim then MI.ret (Src.items (everyOther (rangeL 0 n))) else MI.fail) st1 = _; rw [if_pos hb]; rfl) .refl A1 ?_⟩
        · unfold Builtin.Range.small
          rw [hsz]
          simp only [Builtin.Range.rangeFitsLong, Bool.and_eq_true, Bool.or_eq_true, decide_eq_true_eq, beq_iff_eq, show (2 : Int) > 0 by decide, if_true]
          omega
        · refine ⟨fun ρ H st i d g A h => ?_, fun ρ H st i g A h => ?_⟩
          · have h' := Option.some.inj h
            rw [everyOther_get, rangeL_get] at h'
            by_cases hi' : 2 * i < (n - 0).toNat
            · rw [if_pos hi'] at h'
              cases h'
              refine ⟨(show i < ((n + 1) / 2).toNat by omega), fun x H' y => ?_⟩
              obtain ⟨rfl, rfl⟩ := y
              refine ⟨ρ, .refl, A, ?_⟩
              have : (0 : Int) + (2 * i : Nat) = 0 + (i : Nat) * 2 := by omega
              rw [this]; exact .int _
            · rw [if_neg hi'] at h'; cases h'
          · have h' := Option.some.inj h
            rw [everyOther_get, rangeL_get] at h'
            by_cases hi' : 2 * i < (n - 0).toNat
            · rw [if_pos hi'] at h'; cases h'
            · show ((n + 1) / 2).toNat ≤ i
              omega
      · exact h1.none (by show (if -(lim : Int) < n ∧ n < lim then MI.ret (Src.items (everyOther (rangeL 0 n))) else MI.fail) st1 = _; rw [if_neg hb]; rfl)
    | _ => exact h1.none rfl

/-! ### list(range(..)), tuple(range(..)) -/
theorem rg_rel {K : PySem.W.Frag} {H : Hp} {ρ : List Addr} (lo hi : Int) : RvL K H ρ (rgV lo hi) (rangeL lo hi) := by
  unfold rgV rangeL
  generalize List.range (hi - lo).toNat = l
  induction l with
  | nil => exact .nil
  | cons x xs ih => exact .cons (.int _) ih
theorem rangeL_length (lo hi : Int) : (rangeL lo hi).length = (hi - lo).toNat := by unfold rangeL; simp
theorem bnd_assoc {α β γ : Type} (x : MI.R α) (f : α → MI.R β) (g : β → MI.R γ) : bnd (bnd x f) g = bnd x fun a => bnd (f a) g := by
  funext st
  unfold bnd
  cases x st with
  | none => rfl
  | some p =>
    obtain ⟨rs, st1⟩ := p
    cases rs <;> rfl
theorem tm_rg1 {σ : L2.St} {H : Hp} {Q : VK} {k : Src → MI.R D} (h : TM X.K cl E (rV X.K) (fun env => bnd (iRange1 ga c env) k) σ H Q) :
    tRg1 (TM X.K cl E (rV X.K) (ga c)) σ H fun lo hi H1 => (-(lim : Int) < lo ∧ lo < lim ∧ -(lim : Int) < hi ∧ hi < lim) ∧ ∃ ρ1 st1, At X.K cl ρ1 H1 st1 ∧ Rest X.K cl E (rV X.K) σ Q (k (.items (rangeL lo hi))) ρ1 H1 st1 := by
  obtain ⟨ρ, env, st, A, e, h⟩ := h
  have h' : Rest X.K cl E (rV X.K) σ Q (bnd (ga c env) fun x => bnd (match x with | .int n => if -(lim : Int) < n ∧ n < lim then MI.ret (Src.items (rangeL 0 n)) else MI.fail | _ => MI.fail) k) ρ H st := by
    rw [← bnd_assoc]; exact h
  refine (Rest.step (g := ga c) (rV X.K) A e h').imp fun v1 H1 ⟨ρ1, st1, d1, g1, A1, r1, h1⟩ => ?_
  cases r1 with
  | int n =>
    by_cases hb : -(lim : Int) < n ∧ n < lim
    · refine ⟨n, rfl, ⟨by decide, by decide, hb.1, hb.2⟩, ρ1, st1, A1, h1.eq ?_⟩
      show bnd (if -(lim : Int) < n ∧ n < lim then MI.ret (Src.items (rangeL 0 n)) else MI.fail) k st1 = _
      rw [if_pos hb]; rfl
    · refine h1.none ?_
      show bnd (if -(lim : Int) < n ∧ n < lim then MI.ret (Src.items (rangeL 0 n)) else MI.fail) k st1 = _
      rw [if_neg hb]; rfl
  | _ => exact h1.none rfl
theorem tm_rg2 {σ : L2.St} {H : Hp} {Q : VK} {k : Src → MI.R D} (h : TM X.K cl E (rV X.K) (fun env => bnd (iRange2 ga gb c env) k) σ H Q) :
    tRg2 (TM X.K cl E (rV X.K) (ga c)) (TM X.K cl E (rV X.K) (gb c)) σ H fun lo hi H1 => (-(lim : Int) < lo ∧ lo < lim ∧ -(lim : Int) < hi ∧ hi < lim) ∧ ∃ ρ1 st1, At X.K cl ρ1 H1 st1 ∧ Rest X.K cl E (rV X.K) σ Q (k (.items (rangeL lo hi))) ρ1 H1 st1 := by
  obtain ⟨ρ, env, st, A, e, h⟩ := h
  have h' : Rest X.K cl E (rV X.K) σ Q (bnd (ga c env) fun x => bnd (gb c env) fun y => bnd (match x, y with | .int m, .int n => if -(lim : Int) < m ∧ m < lim ∧ -(lim : Int) < n ∧ n < lim then MI.ret (Src.items (rangeL m n)) else MI.fail | _, _ => MI.fail) k) ρ H st := by
    have h2 : Rest X.K cl E (rV X.K) σ Q (bnd (bnd (ga c env) fun x => bnd (gb c env) fun y => match x, y with | .int m, .int n => if -(lim : Int) < m ∧ m < lim ∧ -(lim : Int) < n ∧ n < lim then MI.ret (Src.items (rangeL m n)) else MI.fail | _, _ => MI.fail) k) ρ H st := h
    rw [bnd_assoc] at h2
    have e3 : ∀ (x : D), bnd (bnd (gb c env) fun y => match x, y with | .int m, .int n => if -(lim : Int) < m ∧ m < lim ∧ -(lim : Int) < n ∧ n < lim then MI.ret (Src.items (rangeL m n)) else MI.fail | _, _ => MI.fail) k = bnd (gb c env) fun y => bnd (match x, y with | .int m, .int n => if -(lim : Int) < m ∧ m < lim ∧ -(lim : Int) < n ∧ n < lim then MI.ret (Src.items (rangeL m n)) else MI.fail | _, _ => MI.fail) k := fun x => bnd_assoc _ _ _
    simp only [e3] at h2
    exact h2
  refine (Rest.step (g := ga c) (rV X.K) A e h').imp fun v1 H1 ⟨ρ1, st1, d1, g1, A1, r1, h1⟩ => ?_
  refine (Rest.step (g := gb c) (rV X.K) A1 (e.grow A g1) h1).imp fun v2 H2 ⟨ρ2, st2, d2, g2, A2, r2, h2⟩ => ?_
  cases r1 with
  | int m =>
    cases r2 with
    | int n =>
      by_cases hb : -(lim : Int) < m ∧ m < lim ∧ -(lim : Int) < n ∧ n < lim
      · refine ⟨m, n, rfl, rfl, hb, ρ2, st2, A2, h2.eq ?_⟩
        show bnd (if -(lim : Int) < m ∧ m < lim ∧ -(lim : Int) < n ∧ n < lim then MI.ret (Src.items (rangeL m n)) else MI.fail) k st2 = _
        rw [if_pos hb]; rfl
      · refine h2.none ?_
        show bnd (if -(lim : Int) < m ∧ m < lim ∧ -(lim : Int) < n ∧ n < lim then MI.ret (Src.items (rangeL m n)) else MI.fail) k st2 = _
        rw [if_neg hb]; rfl
    | _ => exact h2.none rfl
  | _ => exact h2.none (by cases r2 <;> rfl)
theorem rgok {lo hi : Int} (h : -(lim : Int) < lo ∧ lo < lim ∧ -(lim : Int) < hi ∧ hi < lim) (hl : (rangeL lo hi).length < lim) : RgOk lo hi := by
  have e1 := lim_eq
  rw [rangeL_length] at hl
  have e2 : lim = 16777216 := rfl
  exact ⟨by omega, by omega, by omega, by omega, by omega⟩
theorem end_lstRg {σ : L2.St} {Q : VK} {lo hi : Int} {ρ : List Addr} {H : Hp} {st : Stt} (hb : -(lim : Int) < lo ∧ lo < lim ∧ -(lim : Int) < hi ∧ hi < lim) (A : At X.K cl ρ H st)
    (h : Rest X.K cl E (rV X.K) σ Q (if (rangeL lo hi).length < lim then MI.new (.lst (rangeL lo hi)) else MI.fail) ρ H st) : RgOk lo hi ∧ ∀ q, H q = none → Q (.ref q) (upd H q (.lst (rgV lo hi))) := by
  by_cases hl : (rangeL lo hi).length < lim
  · rw [if_pos hl] at h
    exact ⟨rgok hb hl, fun q n => rest_lst A (rg_rel lo hi) h rfl q n⟩
  · rw [if_neg hl] at h; exact h.none rfl
theorem end_lstRgF {σ : L2.St} {Q : VK} {lo hi : Int} {ρ : List Addr} {H : Hp} {st : Stt} (hb : -(lim : Int) < lo ∧ lo < lim ∧ -(lim : Int) < hi ∧ hi < lim) (A : At X.K cl ρ H st)
    (h : Rest X.K cl E (rV X.K) σ Q (if (rangeL lo hi).length < lim then MI.ret (.frz (rangeL lo hi)) else MI.fail) ρ H st) : RgOk lo hi ∧ ∀ q, H q = none → fz Q (.ref q) (upd H q (.lst (rgV lo hi))) := by
  by_cases hl : (rangeL lo hi).length < lim
  · rw [if_pos hl] at h
    exact ⟨rgok hb hl, fun q n => rest_frz A (rg_rel lo hi) h rfl q n⟩
  · rw [if_neg hl] at h; exact h.none rfl
theorem end_tupRg {σ : L2.St} {Q : VK} {lo hi : Int} {ρ : List Addr} {H : Hp} {st : Stt} (hb : -(lim : Int) < lo ∧ lo < lim ∧ -(lim : Int) < hi ∧ hi < lim) (A : At X.K cl ρ H st)
    (h : Rest X.K cl E (rV X.K) σ Q (if (rangeL lo hi).length < lim then MI.ret (.tup (rangeL lo hi)) else MI.fail) ρ H st) : RgOk lo hi ∧ ∀ q, H q = none → Q (.ref q) (upd H q (.tup (rgV lo hi))) := by
  by_cases hl : (rangeL lo hi).length < lim
  · rw [if_pos hl] at h
    exact ⟨rgok hb hl, fun q n => rest_tup A (rg_rel lo hi) h rfl q n⟩
  · rw [if_neg hl] at h; exact h.none rfl
end
section
variable {X : Cx} {cl : Nat → Addr} {E : EX} {c : MI.Ctx} {a b e : Expr} {ga gb ge : SE} {pos p q qos : Pos}
theorem prgI {e : Expr} {t t' : L2.St → Hp → (Int → Int → Hp → Prop) → Prop} (h : PRg X e t) : PRg X e t := h
theorem me_lstRg1 (hc : X.calm = true) (hg : Gl X "list") (hm : X.mg "list" = none) (hg' : Gl X "range") (hm' : X.mg "range" = none) (ha : ME X cl E c a ga) (na : starEach [a] X.env = (false, eval a X.env) :: starEach [] X.env := by rfl)
    (nb : starEach [Expr.Call (.Name "range" q) [a] [] qos] X.env = (false, eval (Expr.Call (.Name "range" q) [a] [] qos) X.env) :: starEach [] X.env := by rfl) : ME X cl E c (.Call (.Name "list" p) [.Call (.Name "range" q) [a] [] qos] [] pos) (eListOf (iRange1 ga)) :=
  peI (pe_listRg hc hg hm (prg_1 hg' hm' ha na) nb) fun σ H Q h => by
    obtain ⟨ρ, env, st, A, e, h⟩ := tm_rg1 h
    exact ⟨ρ, env, st, A, e, h.imp fun v1 H1 ⟨n, e1, hb, ρ1, st1, A1, h1⟩ => ⟨n, e1, end_lstRg hb A1 h1⟩⟩
theorem me_lstRg2 (hc : X.calm = true) (hg : Gl X "list") (hm : X.mg "list" = none) (hg' : Gl X "range") (hm' : X.mg "range" = none) (ha : ME X cl E c a ga) (hb : ME X cl E c b gb) (na : starEach [a, b] X.env = (false, eval a X.env) :: starEach [b] X.env := by rfl) (na2 : starEach [b] X.env = (false, eval b X.env) :: starEach [] X.env := by rfl)
    (hpl : (backTo qos (starEach [b] X.env)).any (·.1) = false := by rfl) (nb : starEach [Expr.Call (.Name "range" q) [a, b] [] qos] X.env = (false, eval (Expr.Call (.Name "range" q) [a, b] [] qos) X.env) :: starEach [] X.env := by rfl) : ME X cl E c (.Call (.Name "list" p) [.Call (.Name "range" q) [a, b] [] qos] [] pos) (eListOf (iRange2 ga gb)) :=
  peI (pe_listRg hc hg hm (prg_2 hg' hm' ha hb na na2 hpl) nb) fun σ H Q h => by
    obtain ⟨ρ, env, st, A, e, h⟩ := tm_rg2 h
    exact ⟨ρ, env, st, A, e, h.imp fun v1 H1 h1 => h1.imp fun v2 H2 ⟨m, n, e1, e2, hb, ρ1, st1, A1, h1⟩ => ⟨m, n, e1, e2, end_lstRg hb A1 h1⟩⟩
theorem me_lstRgF1 (hc : X.calm = true) (hg : Gl X "list") (hm : X.mg "list" = none) (hg' : Gl X "range") (hm' : X.mg "range" = none) (ha : ME X cl E c a ga) (na : starEach [a] X.env = (false, eval a X.env) :: starEach [] X.env := by rfl)
    (nb : starEach [Expr.Call (.Name "range" q) [a] [] qos] X.env = (false, eval (Expr.Call (.Name "range" q) [a] [] qos) X.env) :: starEach [] X.env := by rfl) : ME X cl E c (.Call (.Name "list" p) [.Call (.Name "range" q) [a] [] qos] [] pos) (eListOfF (iRange1 ga)) :=
  peI (pe_fz (pe_listRg hc hg hm (prg_1 hg' hm' ha na) nb)) fun σ H Q h => by
    obtain ⟨ρ, env, st, A, e, h⟩ := tm_rg1 h
    exact ⟨ρ, env, st, A, e, h.imp fun v1 H1 ⟨n, e1, hb, ρ1, st1, A1, h1⟩ => ⟨n, e1, end_lstRgF hb A1 h1⟩⟩
theorem me_lstRgF2 (hc : X.calm = true) (hg : Gl X "list") (hm : X.mg "list" = none) (hg' : Gl X "range") (hm' : X.mg "range" = none) (ha : ME X cl E c a ga) (hb : ME X cl E c b gb) (na : starEach [a, b] X.env = (false, eval a X.env) :: starEach [b] X.env := by rfl) (na2 : starEach [b] X.env = (false, eval b X.env) :: starEach [] X.env := by rfl)
    (hpl : (backTo qos (starEach [b] X.env)).any (·.1) = false := by rfl) (nb : starEach [Expr.Call (.Name "range" q) [a, b] [] qos] X.env = (false, eval (Expr.Call (.Name "range" q) [a, b] [] qos) X.env) :: starEach [] X.env := by rfl) : ME X cl E c (.Call (.Name "list" p) [.Call (.Name "range" q) [a, b] [] qos] [] pos) (eListOfF (iRange2 ga gb)) :=
  peI (pe_fz (pe_listRg hc hg hm (prg_2 hg' hm' ha hb na na2 hpl) nb)) fun σ H Q h => by
    obtain ⟨ρ, env, st, A, e, h⟩ := tm_rg2 h
    exact ⟨ρ, env, st, A, e, h.imp fun v1 H1 h1 => h1.imp fun v2 H2 ⟨m, n, e1, e2, hb, ρ1, st1, A1, h1⟩ => ⟨m, n, e1, e2, end_lstRgF hb A1 h1⟩⟩
theorem me_tupRg1 (hc : X.calm = true) (hg : Gl X "tuple") (hm : X.mg "tuple" = none) (hg' : Gl X "range") (hm' : X.mg "range" = none) (ha : ME X cl E c a ga) (na : starEach [a] X.env = (false, eval a X.env) :: starEach [] X.env := by rfl)
    (nb : starEach [Expr.Call (.Name "range" q) [a] [] qos] X.env = (false, eval (Expr.Call (.Name "range" q) [a] [] qos) X.env) :: starEach [] X.env := by rfl) : ME X cl E c (.Call (.Name "tuple" p) [.Call (.Name "range" q) [a] [] qos] [] pos) (eTupleOf (iRange1 ga)) :=
  peI (pe_tupRg hc hg hm (prg_1 hg' hm' ha na) nb) fun σ H Q h => by
    obtain ⟨ρ, env, st, A, e, h⟩ := tm_rg1 h
    exact ⟨ρ, env, st, A, e, h.imp fun v1 H1 ⟨n, e1, hb, ρ1, st1, A1, h1⟩ => ⟨n, e1, end_tupRg hb A1 h1⟩⟩
theorem me_tupRg2 (hc : X.calm = true) (hg : Gl X "tuple") (hm : X.mg "tuple" = none) (hg' : Gl X "range") (hm' : X.mg "range" = none) (ha : ME X cl E c a ga) (hb : ME X cl E c b gb) (na : starEach [a, b] X.env = (false, eval a X.env) :: starEach [b] X.env := by rfl) (na2 : starEach [b] X.env = (false, eval b X.env) :: starEach [] X.env := by rfl)
    (hpl : (backTo qos (starEach [b] X.env)).any (·.1) = false := by rfl) (nb : starEach [Expr.Call (.Name "range" q) [a, b] [] qos] X.env = (false, eval (Expr.Call (.Name "range" q) [a, b] [] qos) X.env) :: starEach [] X.env := by rfl) : ME X cl E c (.Call (.Name "tuple" p) [.Call (.Name "range" q) [a, b] [] qos] [] pos) (eTupleOf (iRange2 ga gb)) :=
  peI (pe_tupRg hc hg hm (prg_2 hg' hm' ha hb na na2 hpl) nb) fun σ H Q h => by
    obtain ⟨ρ, env, st, A, e, h⟩ := tm_rg2 h
    exact ⟨ρ, env, st, A, e, h.imp fun v1 H1 h1 => h1.imp fun v2 H2 ⟨m, n, e1, e2, hb, ρ1, st1, A1, h1⟩ => ⟨m, n, e1, e2, end_tupRg hb A1 h1⟩⟩

/-! ### enumerate -/
theorem enumD_get : ∀ (l : List D) (k i : Nat), (enumD k l)[i]? = l[i]?.map fun x => D.tup [.int ((k + i : Nat) : Int), x]
  | [], _, _ => rfl
  | x :: r, k, 0 => rfl
  | x :: r, k, i + 1 => by
    simp only [enumD, List.getElem?_cons_succ]
    rw [enumD_get r (k + 1) i]
    have : k + 1 + i = k + (i + 1) := by omega
    rw [this]
theorem mi_enum {elts : List Expr} {kk : Nat} {tpos : Pos} (hg : Gl X "enumerate") (hm : X.mg "enumerate" = none) (ha : ME X cl E c a ga) (hs : starEach [a] X.env = [(false, eval a X.env)] := by rfl) : MI_ X cl E c (.Tuple elts kk tpos) (.Call (.Name "enumerate" p) [a] [] pos) (MI.iEnum ga) :=
  piI (pi_enumA (ta := tCons (TM X.K cl E (rV X.K) (ga c)) tNil) hg hm (pa_cons ha pa_nil hs) hs) fun σ H R ⟨ρ, env, st, A, e, h⟩ => by
    refine (Rest.step (g := ga c) (rV X.K) A e h).imp fun v1 H1 ⟨ρ1, st1, d1, g1, A1, r1, h1⟩ => ?_
    cases r1 with
    | @tup p vs l hs r =>
      by_cases hl : l.length < lim
      · refine ⟨p, rfl, .inr ⟨⟨vs, hs⟩, h1.ok (st' := st1) (d := .items (enumD 0 l)) (by simp [hl]) .refl A1 ⟨fun ρ H st i d g A h => ?_, fun ρ H st i g A h => ?_⟩⟩⟩
        · have s1 := (A1.keep g).t _ _ hs
          have h' := Option.some.inj h
          rw [enumD_get] at h'
          obtain ⟨y, hy, rfl⟩ := Option.map_eq_some_iff.mp h'
          obtain ⟨v, hv, rv⟩ := (r.grow A1 g).get hy
          refine ⟨⟨vs, v, s1, hv⟩, fun x H' z => ?_⟩
          obtain ⟨T, x1, rfl, hn, rfl, z⟩ := z
          have := z vs s1
          rw [hv] at this; cases this
          obtain ⟨A', g'⟩ := A.side (o := .tup [.int (i : Nat), v]) hn
          refine ⟨ρ, g', A', .tup (SqT.of upd_same) (.cons ?_ (.cons (rv.grow A g') .nil))⟩
          rw [Nat.zero_add]; exact .int _
        · refine ⟨vs, (A1.keep g).t _ _ hs, ?_⟩
          have h' := Option.some.inj h
          rw [enumD_get] at h'
          rw [r.length]
          exact List.getElem?_eq_none_iff.mp (Option.map_eq_none_iff.mp h')
      · exact h1.none (by simp [hl])
    | @frz p vs l hs r =>
      by_cases hl : l.length < lim
      · refine ⟨p, rfl, .inl ⟨⟨vs, hs.seq⟩, h1.ok (st' := st1) (d := .items (enumD 0 l)) (by simp [hl]) .refl A1 ⟨fun ρ H st i d g A h => ?_, fun ρ H st i g A h => ?_⟩⟩⟩
        · have s1 := ((A1.keep g).f _ _ hs).seq
          have h' := Option.some.inj h
          rw [enumD_get] at h'
          obtain ⟨y, hy, rfl⟩ := Option.map_eq_some_iff.mp h'
          obtain ⟨v, hv, rv⟩ := (r.grow A1 g).get hy
          refine ⟨⟨vs, v, s1, hv⟩, fun x H' z => ?_⟩
          obtain ⟨T, x1, rfl, hn, rfl, z⟩ := z
          have := z vs s1
          rw [hv] at this; cases this
          obtain ⟨A', g'⟩ := A.side (o := .tup [.int (i : Nat), v]) hn
          refine ⟨ρ, g', A', .tup (SqT.of upd_same) (.cons ?_ (.cons (rv.grow A g') .nil))⟩
          rw [Nat.zero_add]; exact .int _
        · refine ⟨vs, ((A1.keep g).f _ _ hs).seq, ?_⟩
          have h' := Option.some.inj h
          rw [enumD_get] at h'
          rw [r.length]
          exact List.getElem?_eq_none_iff.mp (Option.map_eq_none_iff.mp h')
      · exact h1.none (by simp [hl])
    | @loc p n hp =>
      cases e1 : st1[n]? with
      | none => exact h1.none (by simp [e1])
      | some o =>
        have q1 := A1.get hp e1
        cases q1 with
        | @lst vs l z r =>
          refine ⟨p, rfl, .inl ⟨⟨vs, SqL.of z⟩, h1.ok (st' := st1) (d := .liveE n) (by simp [e1]) .refl A1 ?_⟩⟩
          have at_ : ∀ {ρ H st}, Grow ρ1 H1 ρ H → At X.K cl ρ H st → ∀ {l}, st[n]? = some (.lst l) → ∃ vs, H p = some (.lst vs) ∧ RvL X.K H ρ vs l := fun {ρ H st} g A {l} e1 => by
            have hp' : ρ[n]? = some p := by obtain ⟨x, rfl⟩ := g.ext; exact getElem?_app hp
            have q1 := A.get hp' e1
            cases q1 with
            | lst z r => exact ⟨_, z, r⟩
          refine ⟨fun ρ H st i d g A h => ?_, fun ρ H st i g A h => ?_⟩
          · unfold srcAt at h
            cases e2 : st[n]? with
            | none => simp only [e2] at h; cases h
            | some o =>
              cases o with
              | lst l =>
                simp only [e2] at h
                obtain ⟨vs, z, r⟩ := at_ g A e2
                obtain ⟨y, hy, rfl⟩ := Option.map_eq_some_iff.mp (Option.some.inj h)
                obtain ⟨v, hv, rv⟩ := r.get hy
                refine ⟨⟨vs, v, SqL.of z, hv⟩, fun x H' w => ?_⟩
                obtain ⟨T, x1, rfl, hn, rfl, w⟩ := w
                have := w vs (SqL.of z)
                rw [hv] at this; cases this
                obtain ⟨A', g'⟩ := A.side (o := .tup [.int (i : Nat), v]) hn
                exact ⟨ρ, g', A', .tup (SqT.of upd_same) (.cons (.int _) (.cons (rv.grow A g') .nil))⟩
              | _ => simp only [e2] at h; cases h
          · unfold srcAt at h
            cases e2 : st[n]? with
            | none => simp only [e2] at h; cases h
            | some o =>
              cases o with
              | lst l =>
                simp only [e2] at h
                obtain ⟨vs, z, r⟩ := at_ g A e2
                refine ⟨vs, SqL.of z, ?_⟩
                rw [r.length]
                exact List.getElem?_eq_none_iff.mp (Option.map_eq_none_iff.mp (Option.some.inj h))
              | _ => simp only [e2] at h; cases h
        | _ => exact h1.none (by simp [e1])
    | _ => exact h1.none rfl
end
end MS

set_option Elab.async false
set_option linter.all false
set_option maxRecDepth 100000
set_option maxHeartbeats 4000000
/-! MSR6: rules of our own: zip(t, u, strict=True) of two tuples. -/
namespace PySem
open Sem (wp)
open AutoSeq1 (wpAny_loadPart')
namespace F
theorem typeCall_zip_strict (a b c : Value) : checkTypeCall "zip" ⟨[a, b], [(Str.ofString "strict", c)]⟩ = pure () := by kernel_rfl
theorem newCall_zip_strict (a b c : Value) : checkBuiltinCall "zip.__new__" ⟨[.type "zip", a, b], [(Str.ofString "strict", c)]⟩ = pure () := by kernel_rfl
theorem args_object_init_strict (obj a b c : Value) : argsOk "object.__init__" ⟨[obj, a, b], [(Str.ofString "strict", c)]⟩ := by unfold argsOk; kernel_rfl
end F
theorem wpAny_iteNo {M : Model} {A : Around} {E : Value → Shared → Prop} {s : Shared} {α : Type} {c : Prop} [Decidable c] {t e : Sem α} {Q : α → Shared → Prop} (h : ¬ c) (k : wpAny M A e Q E s) : wpAny M A (if c then t else e) Q E s := by
  rw [if_neg h]; exact k
abbrev IsZipS (h : Heap) (z TI TO : Addr) (f0 : Value) : Prop :=
  h.get? z = some { cls := .type "zip", dict := none, data := .fields #[f0, .bool false, .bool true, .ref TI, .ref TO], slots := #[] }
section
variable {prog : Program} {w : World} {A : Around} {E : Value → Shared → Prop} {s : Shared}
theorem zipS_next_item {z TI TO i1 i2 l1 l2 : Addr} {k1 k2 : Nat} {xs ys : Array Value} {x y a b : Value} {Q : Value → Shared → Prop} (D : ZipApart z TI TO i1 i2 l1 l2)
    (hz : IsZipS s.heap z TI TO .none) (hTI : IsPair s.heap TI (.ref i1) (.ref i2)) (hTO : IsPair s.heap TO a b)
    (h1 : s.heap.IsTupleIter i1 l1 k1) (h2 : s.heap.IsTupleIter i2 l2 k2) (hl1 : s.heap.IsTuple l1 xs) (hl2 : s.heap.IsTuple l2 ys) (hx : xs[k1]? = some x) (hy : ys[k2]? = some y)
    (hQ : ∀ h', IsZipS h' z TI TO (rawInt s.heap.objs.size) → IsPair h' TO x y → h'.IsTupleIter i1 l1 (k1 + 1) → h'.IsTupleIter i2 l2 (k2 + 1) → IsPair h' s.heap.objs.size x y → h'.objs.size = s.heap.objs.size + 1 →
      (∀ c o, c ≠ z → c ≠ TO → c ≠ i1 → c ≠ i2 → s.heap.get? c = some o → h'.get? c = some o) → Q (.ref s.heap.objs.size) { s with heap := h' }) :
    wpAny (model prog w) A (Builtin.«zip.__next__» ⟨[.ref z], []⟩) (fun fin s' => ∃ v, fin = .done (.ret v) ∧ Q v s') E s := by
  show wpAny _ _ (field (.ref z) 2 >>= _) _ _ _
  refine wpAny_bind (wpAny_field hz rfl (x := .bool true) rfl ?_)
  show wpAny _ _ (field (.ref z) 3 >>= _) _ _ _
  refine wpAny_bind (wpAny_field hz rfl (x := .ref TI) rfl ?_)
  refine wpAny_bind (wpAny_seqItems hTI rfl ?_)
  show wpAny _ _ (Builtin.SmallTypes.ownedTupleIsFree (.ref z) >>= _) _ _ _
  refine wpAny_bind ?_
  unfold Builtin.SmallTypes.ownedTupleIsFree
  refine wpAny_bind (wpAny_field hz rfl (x := .none) rfl (wpAny_pure ?_))
  simp only [if_true]
  refine wpAny_bind (wpAny_rule ?_)
  refine wpAny_bind (wpAny_field hz rfl (x := .ref TO) rfl ?_)
  refine wpAny_bind (wpAny_setField_rec hz (by simp) fun h₁ hz₁ hs₁ => ?_)
  replace hz₁ : IsZipS h₁ z TI TO .ellipsis := hz₁
  refine wpAny_bind ?_
  simp only [List.zipIdx_cons, List.zipIdx_nil, List.forIn_cons, List.forIn_nil]

  refine wpAny_bind (wpAny_bind (wpAny_onRaise ?_))
  show wpAny _ _ (Builtin.SmallTypes.nextOrEnd (.ref i1)) _ _ _
  unfold Builtin.SmallTypes.nextOrEnd
  refine wpAny_bind (wpAny_attempt (wpAny_nextOf_tuple_item (h1.extBut hs₁.extBut D.i1z) (hl1.extBut hs₁.extBut D.l1z) hx fun h₂ h1₂ hs₂ => wpAny_pure ?_))
  have hTO₂ : IsPair h₂ TO a b := hs₂.extBut _ _ D.TOi1 (hs₁.extBut _ _ D.TOz hTO)
  refine wpAny_bind (wpAny_seqItems hTO₂ rfl ?_)
  refine wpAny_bind (wpAny_updateSeq_pair hTO₂ fun h₃ hTO₃ hs₃ => ?_)
  replace hTO₃ : IsPair h₃ TO x b := hTO₃
  refine wpAny_bind (wpAny_letGo (wpAny_pure ?_))

  refine wpAny_bind (wpAny_bind (wpAny_onRaise ?_))
  show wpAny _ _ (Builtin.SmallTypes.nextOrEnd (.ref i2)) _ _ _
  unfold Builtin.SmallTypes.nextOrEnd
  refine wpAny_bind (wpAny_attempt (wpAny_nextOf_tuple_item (((h2.extBut hs₁.extBut D.i2z).extBut hs₂.extBut D.i12.symm).extBut hs₃.extBut D.TOi2.symm)
    (((hl2.extBut hs₁.extBut D.l2z).extBut hs₂.extBut D.l2i1).extBut hs₃.extBut D.l2TO) hy fun h₄ h2₄ hs₄ => wpAny_pure ?_))
  have hTO₄ : IsPair h₄ TO x b := hs₄.extBut _ _ D.TOi2 hTO₃
  refine wpAny_bind (wpAny_seqItems hTO₄ rfl ?_)
  refine wpAny_bind (wpAny_updateSeq_pair hTO₄ fun h₅ hTO₅ hs₅ => ?_)
  replace hTO₅ : IsPair h₅ TO x y := hTO₅
  refine wpAny_bind (wpAny_letGo (wpAny_pure (wpAny_pure ?_)))

  refine wpAny_bind (wpAny_seqItems hTO₅ rfl ?_)
  refine wpAny_bind (wpAny_newTuple ?_)
  have hsz : h₅.objs.size = s.heap.objs.size := by rw [hs₅.1, hs₄.1, hs₃.1, hs₂.1, hs₁.1]
  have hz₅ : IsZipS h₅ z TI TO .ellipsis := hs₅.extBut _ _ D.TOz.symm (hs₄.extBut _ _ D.i2z.symm (hs₃.extBut _ _ D.TOz.symm (hs₂.extBut _ _ D.i1z.symm hz₁)))
  have hk₅ : ∀ c o, c ≠ z → c ≠ TO → c ≠ i1 → c ≠ i2 → s.heap.get? c = some o → h₅.get? c = some o := fun c o c1 c2 c3 c4 e =>
    hs₅.extBut _ _ c2 (hs₄.extBut _ _ c4 (hs₃.extBut _ _ c2 (hs₂.extBut _ _ c3 (hs₁.extBut _ _ c1 e))))
  have h1₅ : h₅.IsTupleIter i1 l1 (k1 + 1) := ((h1₂.extBut hs₃.extBut D.TOi1.symm).extBut hs₄.extBut D.i12).extBut hs₅.extBut D.TOi1.symm
  have h2₅ : h₅.IsTupleIter i2 l2 (k2 + 1) := h2₄.extBut hs₅.extBut D.TOi2.symm
  have hzlt : z < h₅.objs.size := Heap.lt_size hz₅
  have hTOlt : TO < h₅.objs.size := Heap.lt_size hTO₅
  have hi1lt : i1 < h₅.objs.size := by obtain ⟨_, e, _⟩ := h1₅; exact Heap.lt_size e
  have hi2lt : i2 < h₅.objs.size := by obtain ⟨_, e, _⟩ := h2₅; exact Heap.lt_size e
  show wpAny _ _ (Builtin.SmallTypes.ownedTupleHandOut (.ref z) (.ref h₅.objs.size) >>= _) _ _ _
  refine wpAny_bind ?_
  unfold Builtin.SmallTypes.ownedTupleHandOut
  have hz₆ : IsZipS (h₅.push { cls := .type "tuple", data := .seq #[x, y] }) z TI TO .ellipsis := Heap.get?_push_of_some _ hz₅
  refine wpAny_bind (wpAny_setField_rec hz₆ (by simp) fun h₇ hz₇ hs₇ => ?_)
  replace hz₇ : IsZipS h₇ z TI TO (rawInt h₅.objs.size) := hz₇
  refine wpAny_setField_rec hz₇ (by simp) fun h₈ hz₈ hs₈ => ?_
  replace hz₈ : IsZipS h₈ z TI TO (rawInt h₅.objs.size) := hz₈
  have up : ∀ c o, c ≠ z → h₅.get? c = some o → h₈.get? c = some o := fun c o c1 e => hs₈.extBut _ _ c1 (hs₇.extBut _ _ c1 (Heap.get?_push_of_some _ e))
  have hT₈ : IsPair h₈ h₅.objs.size x y := hs₈.extBut _ _ (Nat.ne_of_gt hzlt) (hs₇.extBut _ _ (Nat.ne_of_gt hzlt) (Heap.get?_push_size _ rfl))
  have hz8 : h₈.objs.size = h₅.objs.size + 1 := by rw [hs₈.1, hs₇.1, Heap.size_push]
  rw [hsz] at hz₈ hT₈ hz8
  refine wpAny_pure ⟨_, rfl, ?_⟩
  show Q (.ref h₅.objs.size) _
  rw [hsz]
  exact hQ h₈ hz₈ (up _ _ D.TOz hTO₅) (h1₅.at fun o e => up _ o D.i1z e) (h2₅.at fun o e => up _ o D.i2z e) hT₈ hz8 fun c o c1 c2 c3 c4 e => up c o c1 (hk₅ c o c1 c2 c3 c4 e)


theorem zipS_next_end {z TI TO i1 i2 l1 l2 : Addr} {k1 k2 : Nat} {xs ys : Array Value} {a b : Value} {Q : Fin → Shared → Prop} (hh : A.handled = none) (D : ZipApart z TI TO i1 i2 l1 l2)
    (hz : IsZipS s.heap z TI TO .none) (hTI : IsPair s.heap TI (.ref i1) (.ref i2)) (hTO : IsPair s.heap TO a b)
    (h1 : s.heap.IsTupleIter i1 l1 k1) (h2 : s.heap.IsTupleIter i2 l2 k2) (hl1 : s.heap.IsTuple l1 xs) (hl2 : s.heap.IsTuple l2 ys) (hx : xs[k1]? = none) (hy : ys[k2]? = none)
    (hE : ∀ h' e, (∀ c o, c ≠ z → c ≠ TO → c ≠ i1 → c ≠ i2 → s.heap.get? c = some o → h'.get? c = some o) → (∃ o, h'.get? e = some o ∧ o.cls = .type "StopIteration") → E (.ref e) { s with heap := h' }) :
    wpAny (model prog w) A (Builtin.«zip.__next__» ⟨[.ref z], []⟩) Q E s := by
  show wpAny _ _ (field (.ref z) 2 >>= _) _ _ _
  refine wpAny_bind (wpAny_field hz rfl (x := .bool true) rfl ?_)
  show wpAny _ _ (field (.ref z) 3 >>= _) _ _ _
  refine wpAny_bind (wpAny_field hz rfl (x := .ref TI) rfl ?_)
  refine wpAny_bind (wpAny_seqItems hTI rfl ?_)
  show wpAny _ _ (Builtin.SmallTypes.ownedTupleIsFree (.ref z) >>= _) _ _ _
  refine wpAny_bind ?_
  unfold Builtin.SmallTypes.ownedTupleIsFree
  refine wpAny_bind (wpAny_field hz rfl (x := .none) rfl (wpAny_pure ?_))
  simp only [if_true]
  refine wpAny_bind (wpAny_rule ?_)
  refine wpAny_bind (wpAny_field hz rfl (x := .ref TO) rfl ?_)
  refine wpAny_bind (wpAny_setField_rec hz (by simp) fun h₁ hz₁ hs₁ => ?_)
  replace hz₁ : IsZipS h₁ z TI TO .ellipsis := hz₁
  refine wpAny_bind ?_
  simp only [List.zipIdx_cons, List.zipIdx_nil, List.forIn_cons, List.forIn_nil]
  refine wpAny_bind (wpAny_bind (wpAny_onRaise ?_))
  show wpAny _ _ (Builtin.SmallTypes.nextOrEnd (.ref i1)) _ _ _
  unfold Builtin.SmallTypes.nextOrEnd
  refine wpAny_bind (wpAny_attempt (wpAny_nextOf_tuple_end hh (h1.extBut hs₁.extBut D.i1z) (hl1.extBut hs₁.extBut D.l1z) hx fun h₂ e hs₂ he => ?_))
  obtain ⟨oe, hoe, hce⟩ := he
  refine wpAny_bind (wpAny_isInstance (T := "StopIteration") (b := true) ⟨oe, hoe, hce⟩ isSubtype_stop ?_)
  refine wpAny_pure ?_
  have hz₂ : IsZipS h₂ z TI TO .ellipsis := hs₂ _ _ D.i1z.symm hz₁
  refine wpAny_bind (wpAny_setField_rec hz₂ (by simp) fun h₃ _ hs₃ => ?_)
  have h2₃ : h₃.IsTupleIter i2 l2 k2 := (h2.at fun o q => hs₁.extBut _ _ D.i2z q).at fun o q => hs₃.extBut _ _ D.i2z (hs₂ _ _ D.i12.symm q)
  have hl2₃ : h₃.IsTuple l2 ys := (hl2.at fun o q => hs₁.extBut _ _ D.l2z q).at fun o q => hs₃.extBut _ _ D.l2z (hs₂ _ _ D.l2i1 q)
  refine wpAny_bind ?_
  refine wpAny_bind ?_
  simp only [List.drop_succ_cons, List.drop_zero, List.zipIdx_cons, List.zipIdx_nil, List.forIn_cons, List.forIn_nil]
  refine wpAny_bind (wpAny_bind ?_)
  unfold Builtin.SmallTypes.nextOrEnd
  refine wpAny_bind (wpAny_attempt (wpAny_nextOf_tuple_end hh h2₃ hl2₃ hy fun h₄ e' hs₄ he' => ?_))
  obtain ⟨oe', hoe', hce'⟩ := he'
  refine wpAny_bind (wpAny_isInstance (T := "StopIteration") (b := true) ⟨oe', hoe', hce'⟩ isSubtype_stop ?_)
  refine wpAny_pure (wpAny_pure (wpAny_pure (wpAny_bind (wpAny_rule ?_))))
  unfold Builtin.SmallTypes.stopIteration
  show wpAny _ _ (newExc (.type "StopIteration") [] >>= _) _ _ _
  refine wpAny_bind ?_
  simp only [newExc, newTuple]
  refine wpAny_bind (wpAny_newObj_type ?_ (by size_fits))
  refine wpAny_bind (m := firstArgMember _ _) (wpAny_of_eq (a := Value.none) (by first | rfl | (simp only [firstArgMember]; rfl)) ?_)
  refine wpAny_newObj_type ?_ (by size_fits)
  simp only [raiseNew]
  refine wpAny_bind (wpAny_handled ?_)
  first | rw [show A.in1.handled = none from hh] | rw [hh]
  refine wpAny_bind (wpAny_pure (wpAny_throw ?_))
  have up : ∀ c o, c ≠ z → c ≠ TO → c ≠ i1 → c ≠ i2 → s.heap.get? c = some o → h₄.get? c = some o := fun c o c1 c2 c3 c4 q => hs₄ _ _ c4 (hs₃.extBut _ _ c1 (hs₂ _ _ c3 (hs₁.extBut _ _ c1 q)))
  exact hE _ _ (fun c o c1 c2 c3 c4 q => Heap.get?_push_of_some _ (Heap.get?_push_of_some _ (up c o c1 c2 c3 c4 q))) ⟨_, Heap.get?_push_size _ rfl, rfl⟩

theorem wpAny_pyNext_zipS_item {z TI TO i1 i2 l1 l2 : Addr} {k1 k2 : Nat} {xs ys : Array Value} {x y a b : Value} {Q : Option Value → Shared → Prop} (D : ZipApart z TI TO i1 i2 l1 l2)
    (hz : IsZipS s.heap z TI TO .none) (hTI : IsPair s.heap TI (.ref i1) (.ref i2)) (hTO : IsPair s.heap TO a b)
    (h1 : s.heap.IsTupleIter i1 l1 k1) (h2 : s.heap.IsTupleIter i2 l2 k2) (hl1 : s.heap.IsTuple l1 xs) (hl2 : s.heap.IsTuple l2 ys) (hx : xs[k1]? = some x) (hy : ys[k2]? = some y)
    (hQ : ∀ h', IsZipS h' z TI TO (rawInt s.heap.objs.size) → IsPair h' TO x y → h'.IsTupleIter i1 l1 (k1 + 1) → h'.IsTupleIter i2 l2 (k2 + 1) → IsPair h' s.heap.objs.size x y → h'.objs.size = s.heap.objs.size + 1 →
      (∀ c o, c ≠ z → c ≠ TO → c ≠ i1 → c ≠ i2 → s.heap.get? c = some o → h'.get? c = some o) → Q (some (.ref s.heap.objs.size)) { s with heap := h' }) :
    wpAny (model prog w) A (pyNext (.ref z)) Q E s := by
  have hT : s.TypeIs (.ref z) "zip" := ⟨_, hz, rfl⟩
  unfold pyNext
  exact wpAny_bind (wpAny_attempt (wpAny_callSpecial?_slot (name := Str.ofString "__next__") hT F.slot_zip_next
    (wpAny_call_entry F.slot_zip_next hT F.entry_zip_next
      (zipS_next_item D hz hTI hTO h1 h2 hl1 hl2 hx hy fun h' a1 a2 a3 a4 a5 a6 a7 => wpAny_pure (hQ h' a1 a2 a3 a4 a5 a6 a7)) (F.args_zip_next_1 _))))
theorem wpAny_pyNext_zipS_end {z TI TO i1 i2 l1 l2 : Addr} {k1 k2 : Nat} {xs ys : Array Value} {a b : Value} {Q : Option Value → Shared → Prop} (hh : A.handled = none) (D : ZipApart z TI TO i1 i2 l1 l2)
    (hz : IsZipS s.heap z TI TO .none) (hTI : IsPair s.heap TI (.ref i1) (.ref i2)) (hTO : IsPair s.heap TO a b)
    (h1 : s.heap.IsTupleIter i1 l1 k1) (h2 : s.heap.IsTupleIter i2 l2 k2) (hl1 : s.heap.IsTuple l1 xs) (hl2 : s.heap.IsTuple l2 ys) (hx : xs[k1]? = none) (hy : ys[k2]? = none)
    (hQ : ∀ h', (∀ c o, c ≠ z → c ≠ TO → c ≠ i1 → c ≠ i2 → s.heap.get? c = some o → h'.get? c = some o) → Q none { s with heap := h' }) : wpAny (model prog w) A (pyNext (.ref z)) Q E s := by
  have hT : s.TypeIs (.ref z) "zip" := ⟨_, hz, rfl⟩
  unfold pyNext
  refine wpAny_bind (wpAny_attempt (wpAny_callSpecial?_slot (name := Str.ofString "__next__") hT F.slot_zip_next
    (wpAny_call_entry F.slot_zip_next hT F.entry_zip_next (zipS_next_end hh D hz hTI hTO h1 h2 hl1 hl2 hx hy fun h' e hk he => ?_) (F.args_zip_next_1 _))))
  obtain ⟨o, ho, hc⟩ := he
  refine wpAny_bind (wpAny_isInstance (T := "StopIteration") (b := true) ⟨o, ho, hc⟩ isSubtype_stop ?_)
  exact wpAny_pure (hQ _ hk)
theorem wpAny_letOwnedTupleGo_zipS {elts : List Expr} {x1} {pos : Pos} {z TI TO T : Addr} {Q : Unit → Shared → Prop} (hz : IsZipS s.heap z TI TO (rawInt T))
    (hQ : ∀ h', IsZipS h' z TI TO .none → Heap.SameBut z s.heap h' → Q () { s with heap := h' }) :
    wpAny (model prog w) A (letOwnedTupleGo (.Tuple elts x1 pos) (.ref z) (.ref T)) Q E s := by
  unfold letOwnedTupleGo
  refine wpAny_bind (wpAny_load hz ?_)
  show wpAny _ _ (if (["enumerate", "zip", "dict_itemiterator", "dict_reverseitemiterator", "odict_iterator", "itertools.zip_longest", "itertools.pairwise"].contains "zip" &&
      (#[rawInt T, .bool false, .bool true, .ref TI, .ref TO] : Array Value)[0]? == some (rawInt T)) = true then _ else _) Q E s
  rw [if_pos (by simp)]
  refine wpAny_bind (wpAny_rule ?_)
  show wpAny _ _ (setField (.ref z) 0 .none) Q E s
  exact wpAny_setField_rec hz (by simp) fun h' hz' hs' => hQ h' hz' hs'
theorem wpAny_pyIter_zipS {z TI TO : Addr} {f0 : Value} {Q : Value → Shared → Prop} (hz : IsZipS s.heap z TI TO f0) (h : Q (.ref z) s) : wpAny (model prog w) A (pyIter (.ref z)) Q E s := by
  have hT : s.TypeIs (.ref z) "zip" := ⟨_, hz, rfl⟩
  refine wpAny_pyIter_slot hT F.slot_zip_iter (wpAny_call_entry F.slot_zip_iter hT F.entry_zip_iter ?_ (F.args_zip_iter_1 _))
  show wpAny _ _ (ret (.ref z)) _ _ s
  exact wpAny_pure ⟨_, rfl, "zip", _, hT, F.slot_zip_next.lookup, h⟩
end
abbrev zipS1 (h : Heap) (l1 : Addr) : Heap := h.push { cls := .type "tuple_iterator", data := .fields #[.ref l1, .int 0 0] }
abbrev zipS2 (h : Heap) (l1 l2 : Addr) : Heap := (zipS1 h l1).push { cls := .type "tuple_iterator", data := .fields #[.ref l2, .int 0 0] }
abbrev zipS3 (h : Heap) (l1 l2 : Addr) : Heap := (zipS2 h l1 l2).push { cls := .type "tuple", data := .seq #[.ref h.objs.size, .ref (zipS1 h l1).objs.size] }
abbrev zipS4 (h : Heap) (l1 l2 : Addr) : Heap := (zipS3 h l1 l2).push { cls := .type "tuple", data := .seq #[.none, .none] }
abbrev zipS5 (h : Heap) (l1 l2 : Addr) : Heap := (zipS4 h l1 l2).push { cls := .type "zip", data := .fields #[.none, .bool false, .bool true, .ref (zipS2 h l1 l2).objs.size, .ref (zipS3 h l1 l2).objs.size] }
theorem meets_zipS_new (l1 l2 : Addr) (xs ys : Array Value) :
    Meets (Builtin.«zip.__new__» ⟨[.type "zip", .ref l1, .ref l2], [(Str.ofString "strict", .bool true)]⟩) (fun _ R s => s.heap.IsTuple l1 xs ∧ s.heap.IsTuple l2 ys ∧
      R (.ok (.ret (.ref (zipS4 s.heap l1 l2).objs.size))) { s with heap := zipS5 s.heap l1 l2 }) :=
  .of_wp fun prog w A R s h => by
    obtain ⟨hp, g, d, tk, os⟩ := s; obtain ⟨hl1, hl2, h⟩ := h
    have hsub := sub_zip
    have hL1 : Heap.IsTuple (Shared.heap ⟨hp, g, d, tk, os⟩) l1 xs := hl1
    have hL2 : Heap.IsTuple (Shared.heap ⟨hp.push { cls := .type "tuple_iterator", data := .fields #[.ref l1, .int 0 0] }, g, d, tk, os⟩) l2 ys := hl2.at fun o q => Heap.get?_push_of_some _ q
    have e1 : (Str.ofString "strict" == ("strict" : Str)) = true := by decide +kernel
    have e2 : (Str.ofString "strict" != ("strict" : Str)) = false := by decide +kernel
    wp_walk using wpAny_pyIter_tuple hL1, wpAny_pyIter_tuple hL2
    exact ⟨_, rfl, h⟩
section
variable {prog : Program} {w : World} {A : Around} {E : Value → Shared → Prop} {s : Shared}
theorem call_zipS_2 {l1 l2 : Addr} {xs ys : Array Value} {Q : Value → Shared → Prop} (hl1 : s.heap.IsTuple l1 xs) (hl2 : s.heap.IsTuple l2 ys)
    (h : ∀ h', IsZipS h' (s.heap.objs.size + 4) (s.heap.objs.size + 2) (s.heap.objs.size + 3) .none → IsPair h' (s.heap.objs.size + 2) (.ref s.heap.objs.size) (.ref (s.heap.objs.size + 1)) →
      IsPair h' (s.heap.objs.size + 3) .none .none → h'.IsTupleIter s.heap.objs.size l1 0 → h'.IsTupleIter (s.heap.objs.size + 1) l2 0 → h'.objs.size = s.heap.objs.size + 5 →
      (∀ c o, s.heap.get? c = some o → h'.get? c = some o) → Q (.ref (s.heap.objs.size + 4)) { s with heap := h' }) :
    wpAny (model prog w) A (call (.type "zip") [.ref l1, .ref l2] [(Str.ofString "strict", .bool true)]) Q E s := by
  refine callType_newKw F.called_zip (by decide) (F.typeCall_zip_strict _ _ _) (F.newCall_zip_strict _ _ _) (fun obj => F.args_object_init_strict obj _ _ _) F.entry_zip_new
    (meets_zipS_new l1 l2 xs ys) ⟨hl1, hl2, ?_⟩
  have z1 : (zipS1 s.heap l1).objs.size = s.heap.objs.size + 1 := Heap.size_push ..
  have z2 : (zipS2 s.heap l1 l2).objs.size = s.heap.objs.size + 2 := by rw [Heap.size_push, z1]
  have z3 : (zipS3 s.heap l1 l2).objs.size = s.heap.objs.size + 3 := by rw [Heap.size_push, z2]
  have z4 : (zipS4 s.heap l1 l2).objs.size = s.heap.objs.size + 4 := by rw [Heap.size_push, z3]
  have z5 : (zipS5 s.heap l1 l2).objs.size = s.heap.objs.size + 5 := by rw [Heap.size_push, z4]
  have g5 : (zipS5 s.heap l1 l2).get? (zipS4 s.heap l1 l2).objs.size = some _ := Heap.get?_push_size _ rfl
  have g4 : (zipS5 s.heap l1 l2).get? (zipS3 s.heap l1 l2).objs.size = some _ := Heap.get?_push_of_some _ (Heap.get?_push_size _ rfl)
  have g3 : (zipS5 s.heap l1 l2).get? (zipS2 s.heap l1 l2).objs.size = some _ := Heap.get?_push_of_some _ (Heap.get?_push_of_some _ (Heap.get?_push_size _ rfl))
  have g2 : (zipS5 s.heap l1 l2).get? (zipS1 s.heap l1).objs.size = some _ := Heap.get?_push_of_some _ (Heap.get?_push_of_some _ (Heap.get?_push_of_some _ (Heap.get?_push_size _ rfl)))
  have g1 : (zipS5 s.heap l1 l2).get? s.heap.objs.size = some _ := Heap.get?_push_of_some _ (Heap.get?_push_of_some _ (Heap.get?_push_of_some _ (Heap.get?_push_of_some _ (Heap.get?_push_size _ rfl))))
  show _ ∧ _
  rw [z2, z3, z4] at g5
  rw [z1, z2] at g3
  rw [z3] at g4
  rw [z1] at g2
  rw [z4]
  exact ⟨⟨_, g5, rfl⟩, h _ g5 g3 g4 ⟨_, g1, rfl, rfl⟩ ⟨_, g2, rfl, rfl⟩ z5 fun c o x =>
    Heap.get?_push_of_some _ (Heap.get?_push_of_some _ (Heap.get?_push_of_some _ (Heap.get?_push_of_some _ (Heap.get?_push_of_some _ x))))⟩
theorem callWith_typeKW {env : Env} {pos : Pos} {T : String} {e : Expr} {rest : List Expr} {kws : List Keyword} {Q : Value → Shared → Prop} {M : Model}
    (h : wpAny M A (spliced (backTo pos (starEach (e :: rest) env))) (fun vs s₁ => wpAny M A (evalAll ((backToKw pos (keywordEach kws env)).map (·.2)))
      (fun kvs s₂ => wpAny M A (call (.type T) vs (((backToKw pos (keywordEach kws env)).filterMap (·.1)).zip kvs)) Q E s₂) E s₁) E s)
    (he : backTo pos (starEach (e :: rest) env) = (false, eval e env) :: backTo pos (starEach rest env) := by rfl)
    (hplain : (backTo pos (starEach (e :: rest) env)).any (·.1) = false := by rfl)
    (hall : (backToKw pos (keywordEach kws env)).all (·.1.isSome) = true := by rfl)
    (hkw : (backToKw pos (keywordEach kws env)).any (·.1.isNone) = false := by rfl) :
    wpAny M A (callWith pos (.type T) [] (backTo pos (starEach (e :: rest) env)) (backToKw pos (keywordEach kws env))) Q E s := by
  have h' : wpAny M A (evalArgs (.type T) true (backTo pos (starEach (e :: rest) env)) (backToKw pos (keywordEach kws env))) (fun a s₁ => wpAny M A (call (.type T) ([] ++ a.pos) a.kw) Q E s₁) E s := by
    rw [he] at h ⊢
    exact PyProof.Rows.evalArgs_kwB hall h
  unfold callWith
  refine wpAny_bind (wpAny_holding (wpAny_mono h' (fun a s₁ h₁ => wpAny_bind (wpAny_standAt ?_)) fun _ _ x => x))
  simp only [hplain, hkw, Bool.or_false]
  refine wpAny_bind (wpAny_pure ?_)
  exact wpAny_bind (wpAny_mono h₁ (fun r s₂ hr => wpAny_bind (wpAny_holding (wpAny_point (wpAny_pure hr)))) fun _ _ x => x)
end
end PySem
namespace MS
open PySem PySem.Spec PyProof.Rows L2
/-- two tuples, the items in new pairs -/
def ItzT (K : PySem.W.Frag) (a b : Addr) : It :=
  ⟨fun i H => ∃ (xs ys : List V) (x y : V), SqT K H a xs ∧ SqT K H b ys ∧ xs[i]? = some x ∧ ys[i]? = some y,
    fun i H v H' => ∃ T x y, v = .ref T ∧ H T = none ∧ H' = upd H T (.tup [x, y]) ∧ (∀ xs, SqT K H a xs → xs[i]? = some x) ∧ ∀ ys, SqT K H b ys → ys[i]? = some y,
    fun i H => ∃ xs ys : List V, SqT K H a xs ∧ SqT K H b ys ∧ xs.length ≤ i ∧ ys.length ≤ i⟩
theorem turn_zipS {P : Program} {w : World} {K : PySem.W.Frag} {elts : List Expr} {kk : Nat} {tpos : Pos} {a b z TI TO i1 i2 : Addr} (D : ZipApart z TI TO i1 i2 a b) :
    Turn P w K (.Tuple elts kk tpos) (ItzT K a b) [z, TI, TO, i1, i2] z (fun i h => IsZipS h z TI TO .none ∧ IsPair h TI (.ref i1) (.ref i2) ∧ (∃ x y, IsPair h TO x y) ∧ h.IsTupleIter i1 a i ∧ h.IsTupleIter i2 b i) where
  mem := by simp
  obj := fun i h st c hc => by
    obtain ⟨hz, hTI, ⟨x, y, hTO⟩, ⟨o1, e1, _, d1⟩, ⟨o2, e2, _, d2⟩⟩ := st
    have e' : c = z ∨ c = TI ∨ c = TO ∨ c = i1 ∨ c = i2 := by simpa using hc
    rcases e' with q | q | q | q | q
    · rw [q]; exact ⟨_, hz, fun v q => nomatch q⟩
    · rw [q]; exact ⟨_, hTI, fun v q => nomatch q⟩
    · rw [q]; exact ⟨_, hTO, fun v q => nomatch q⟩
    · rw [q]; exact ⟨o1, e1, fun v q => by rw [d1] at q; cases q⟩
    · rw [q]; exact ⟨o2, e2, fun v q => by rw [d2] at q; cases q⟩
  keep := fun i h h' st k => by
    obtain ⟨hz, hTI, ⟨x, y, hTO⟩, h1, h2⟩ := st
    exact ⟨k z (by simp) _ hz, k TI (by simp) _ hTI, ⟨x, y, k TO (by simp) _ hTO⟩, h1.at fun o q => k i1 (by simp) o q, h2.at fun o q => k i2 (by simp) o q⟩
  item := by
    intro X hP hw hK hc i pins s σ H E I hf st hg
    subst hP hw hK
    obtain ⟨hz, hTI, ⟨x0, y0, hTO⟩, h1, h2⟩ := st
    obtain ⟨xs, ys, x, y, hqx, hqy, hx, hy⟩ := hg
    obtain ⟨its, rv, p, _⟩ := I.tuple hqx
    obtain ⟨its2, rv2, p2, _⟩ := I.tuple hqy
    obtain ⟨u, hu, ru⟩ := rv.get hx
    obtain ⟨u2, hu2, ru2⟩ := rv2.get hy
    have hzl : z < s.heap.objs.size := Heap.lt_size hz
    refine wpAny_pyNext_zipS_item D hz hTI hTO h1 h2 (show s.heap.IsTuple a its.toArray from p) (show s.heap.IsTuple b its2.toArray from p2) (x := u) (y := u2) (by simpa using hu) (by simpa using hu2) fun h' z' TO' h1' h2' hT hsz hk => ?_
    refine ⟨_, rfl, wpAny_letOwnedTupleGo_zipS (s := { s with heap := h' }) z' fun h'' z'' sb => ?_⟩
    have hT2 : h''.get? s.heap.objs.size = some { cls := .type "tuple", data := .seq #[u, u2] } := (sb.2 _ (Nat.ne_of_gt hzl)).trans hT
    have new : ObjOk X.prog X.w (upd H s.heap.objs.size (.tup [x, y])) h'' s.heap.objs.size (.tup [x, y]) :=
      ⟨by show 2 ≤ sizeLine; decide, [u, u2], .cons ru (.cons ru2 .nil), ⟨_, hT2, rfl, _, rfl⟩⟩
    have I1 : Inv X pins σ (upd H s.heap.objs.size (.tup [x, y])) { s with heap := h'' } :=
      I.turnedNew (t' := s.toks) (ch := [z, TI, TO, i1, i2]) (fun c o hb q => (sb.2 c (fun q' => hb (by simp [q']))).trans (hk c o (fun q' => hb (by simp [q'])) (fun q' => hb (by simp [q'])) (fun q' => hb (by simp [q'])) (fun q' => hb (by simp [q'])) q)) hf (Nat.le_refl _) new
    refine ⟨.ref s.heap.objs.size, _, I1, rfl, ⟨_, x, y, rfl, I.hok.fresh (Nat.le_refl _), rfl, fun l hl => by rw [I.tuple_inj hl hqx]; exact hx, fun l hl => by rw [I.tuple_inj hl hqy]; exact hy⟩, ⟨z'', ?_, ⟨u, u2, ?_⟩, ?_, ?_⟩, fun c hcm => ?_⟩
    · exact (sb.2 _ D.TIz).trans (hk _ _ D.TIz D.TITO D.TIi1 D.TIi2 hTI)
    · exact (sb.2 _ D.TOz).trans TO'
    · exact h1'.at fun o q => (sb.2 _ D.i1z).trans q
    · exact h2'.at fun o q => (sb.2 _ D.i2z).trans q
    · have hlt : c < s.heap.objs.size := by
        have e' : c = z ∨ c = TI ∨ c = TO ∨ c = i1 ∨ c = i2 := by simpa using hcm
        rcases e' with q | q | q | q | q
        · rw [q]; exact hzl
        · rw [q]; exact Heap.lt_size hTI
        · rw [q]; exact Heap.lt_size hTO
        · rw [q]; obtain ⟨_, e1, _⟩ := h1; exact Heap.lt_size e1
        · rw [q]; obtain ⟨_, e2, _⟩ := h2; exact Heap.lt_size e2
      rw [upd_ne (Nat.ne_of_lt hlt)]
      exact (hf c hcm).1
  done := by
    intro X hP hw hK hc i pins s σ H E I hf st hg
    subst hP hw hK
    obtain ⟨hz, hTI, ⟨x0, y0, hTO⟩, h1, h2⟩ := st
    obtain ⟨xs, ys, hqx, hqy, he1, he2⟩ := hg
    obtain ⟨its, rv, p, _⟩ := I.tuple hqx
    obtain ⟨its2, rv2, p2, _⟩ := I.tuple hqy
    have l1 := rv.length
    have l2 := rv2.length
    exact wpAny_pyNext_zipS_end (I.ok.hd hc) D hz hTI hTO h1 h2 (show s.heap.IsTuple a its.toArray from p) (show s.heap.IsTuple b its2.toArray from p2) (by simp; omega) (by simp; omega) fun h' hk => ⟨rfl, I.turnedL (t' := s.toks) (ch := [z, TI, TO, i1, i2]) (fun c o hb q =>
      hk c o (fun q' => hb (by simp [q'])) (fun q' => hb (by simp [q'])) (fun q' => hb (by simp [q'])) (fun q' => hb (by simp [q'])) q) hf⟩
  self := fun A i s Q E st h => wpAny_pyIter_zipS st.1 h
def iZipS (K : PySem.W.Frag) (ta : TA) : TI := fun σ H R => ta σ H fun vs H1 => ∃ a b xs ys, vs = [.ref a, .ref b] ∧ SqT K H1 a xs ∧ SqT K H1 b ys ∧ R (ItzT K a b) H1
theorem pi_zipS {X : Cx} {e e2 : Expr} {ta : TA} {p pos tpos kp cp : Pos} {cj : Nat} {elts : List Expr} {kk : Nat} (hg : Gl X "zip") (hm : X.mg "zip" = none) (ha : PA X [e, e2] ta)
    (he : backTo pos (starEach [e, e2] X.env) = (false, eval e X.env) :: backTo pos (starEach [e2] X.env) := by rfl) (hpl : (backTo pos (starEach [e, e2] X.env)).any (·.1) = false := by rfl) :
    PI X (.Tuple elts kk tpos) (.Call (.Name "zip" p) [e, e2] [⟨some "strict", .Constant (.bool true) cj cp, kp⟩] pos) (iZipS X.K ta) := by
  refine ⟨fun pins s σ H R I h => ?_⟩
  refine wpAny_Call_Name_kw (ld_blt I hg hm PyProof.Rows.boot_zip ?_)
  refine callWith_typeKW (thn (ha.run pos pins s σ H _ I h) fun us s1 ⟨vs, H1, I1, r1, q1⟩ => ?_) he hpl
  obtain ⟨a, b, xs, ys, ex, hqx, hqy, q⟩ := q1
  subst ex
  refine PyProof.Rows.kws_cons (PyProof.Rows.Constant_bool (PyProof.Rows.kws_nil ?_))
  cases r1 with
  | cons r rr =>
    cases rr with
    | cons r' rr =>
      cases rr
      cases r
      cases r'
      obtain ⟨its, rv, p1, _⟩ := I1.tuple hqx
      obtain ⟨its2, rv2, p2, _⟩ := I1.tuple hqy
      have la : a < s1.heap.objs.size := by obtain ⟨_, q, _⟩ := p1; exact Heap.lt_size q
      have lb : b < s1.heap.objs.size := by obtain ⟨_, q, _⟩ := p2; exact Heap.lt_size q
      refine call_zipS_2 (show s1.heap.IsTuple a its.toArray from p1) (show s1.heap.IsTuple b its2.toArray from p2) fun h' hz hTI hTO h1 h2 hsz hk => wpAny_pyIter_zipS hz ?_
      have I2 : Inv X pins σ H1 { s1 with heap := h' } := I1.kept (t' := s1.toks) hk
      refine ⟨s1.heap.objs.size + 4, [s1.heap.objs.size + 4, s1.heap.objs.size + 2, s1.heap.objs.size + 3, s1.heap.objs.size, s1.heap.objs.size + 1], _, _, H1, rfl, I2, turn_zipS (PySem.W.ktu_apart s1.heap.objs.size a b la lb), ⟨hz, hTI, ⟨_, _, hTO⟩, h1, h2⟩, fun c hcm => ?_, q⟩
      have e' : c = s1.heap.objs.size + 4 ∨ c = s1.heap.objs.size + 2 ∨ c = s1.heap.objs.size + 3 ∨ c = s1.heap.objs.size ∨ c = s1.heap.objs.size + 1 := by simpa using hcm
      have hle : s1.heap.objs.size ≤ c := by
        rcases e' with z | z | z | z | z
        · rw [z]; exact Nat.le_add_right _ _
        · rw [z]; exact Nat.le_add_right _ _
        · rw [z]; exact Nat.le_add_right _ _
        · rw [z]; exact Nat.le_refl _
        · rw [z]; exact Nat.le_add_right _ _
      exact I1.fpOk hle (I1.hok.fresh hle)
end MS

set_option Elab.async false
set_option linter.all false
set_option maxRecDepth 100000
set_option maxHeartbeats 4000000
/-! MS11: comprehensions, zip, a written dict's get. -/
namespace MS
open PySem PySem.Spec PyProof.Rows L2 MI

section
variable {X : Cx} {cl : Nat → Addr} {E : EX} {c : MI.Ctx} {a b e : Expr} {ga gb ge : SE} {pos p : Pos}
theorem zipD_get : ∀ (l m : List D) (i : Nat) (x y : D), l[i]? = some x → m[i]? = some y → (zipD l m)[i]? = some (.tup [x, y])
  | _ :: _, _ :: _, 0, _, _, h1, h2 => by simp at h1 h2; subst h1 h2; rfl
  | _ :: l, _ :: m, i + 1, x, y, h1, h2 => by
    simp only [zipD, List.getElem?_cons_succ] at h1 h2 ⊢
    exact zipD_get l m i x y h1 h2
  | [], _, _, _, _, h1, _ => by simp at h1
  | _ :: _, [], _, _, _, _, h2 => by simp at h2
theorem zipD_len : ∀ (l m : List D), (zipD l m).length = min l.length m.length
  | [], _ => by simp [zipD]
  | _ :: _, [] => by simp [zipD]
  | _ :: l, _ :: m => by simp [zipD, zipD_len l m]
theorem mi_zip {tpos kp cp : Pos} {cj : Nat} {elts : List Expr} {kk : Nat} (hg : Gl X "zip") (hm : X.mg "zip" = none) (ha : ME X cl E c a ga) (hb : ME X cl E c b gb)
    (he : starEach [a, b] X.env = (false, eval a X.env) :: starEach [b] X.env := by rfl) (he2 : starEach [b] X.env = (false, eval b X.env) :: starEach [] X.env := by rfl)
    (hb1 : backTo pos (starEach [a, b] X.env) = (false, eval a X.env) :: backTo pos (starEach [b] X.env) := by rfl) (hpl : (backTo pos (starEach [a, b] X.env)).any (·.1) = false := by rfl) :
    MI_ X cl E c (.Tuple elts kk tpos) (.Call (.Name "zip" p) [a, b] [⟨some "strict", .Constant (.bool true) cj cp, kp⟩] pos) (MI.iZip ga gb) :=
  piI (pi_zipS (ta := tCons (TM X.K cl E (rV X.K) (ga c)) (tCons (TM X.K cl E (rV X.K) (gb c)) tNil)) hg hm (pa_cons ha (pa_cons hb pa_nil he2) he) hb1 hpl) fun σ H R ⟨ρ, env, st, A, e, h⟩ => by
    refine (Rest.step (g := ga c) (rV X.K) A e h).imp fun v1 H1 ⟨ρ1, st1, d1, g1, A1, r1, h1⟩ => ?_
    refine (Rest.step (g := gb c) (rV X.K) A1 (e.grow A g1) h1).imp fun v2 H2 ⟨ρ2, st2, d2, g2, A2, r2, h2⟩ => ?_
    have r1' := r1.grow A1 g2
    cases r1' with
    | @tup p vs l hs r =>
      cases r2 with
      | @tup q ws m hs' r' =>
        by_cases hl : l.length = m.length
        · refine ⟨p, q, vs, ws, rfl, hs, hs', h2.ok (st' := st2) (d := .items (zipD l m)) (by simp [hl, MI.ret]) .refl A2 ⟨fun ρ H st i d g A h => ?_, fun ρ H st i g A h => ?_⟩⟩
          · have s1 := (A2.keep g).t _ _ hs
            have s2 := (A2.keep g).t _ _ hs'
            have h' := Option.some.inj h
            have hlt : i < (zipD l m).length := (List.getElem?_eq_some_iff.mp h').1
            rw [zipD_len] at hlt
            have hi1 : i < l.length := by omega
            have hi2 : i < m.length := by omega
            have z1 : l[i]? = some l[i] := List.getElem?_eq_getElem hi1
            have z2 : m[i]? = some m[i] := List.getElem?_eq_getElem hi2
            rw [zipD_get l m i _ _ z1 z2] at h'
            cases h'
            obtain ⟨v, hv, rv⟩ := (r.grow A2 g).get z1
            obtain ⟨w, hw, rw'⟩ := (r'.grow A2 g).get z2
            refine ⟨⟨vs, ws, v, w, s1, s2, hv, hw⟩, fun x H' z => ?_⟩
            obtain ⟨T, x1, y1, rfl, hn, rfl, z, z'⟩ := z
            have q1 := z vs s1
            have q2 := z' ws s2
            rw [hv] at q1; cases q1
            rw [hw] at q2; cases q2
            obtain ⟨A', g'⟩ := A.side (o := .tup [v, w]) hn
            exact ⟨ρ, g', A', .tup (SqT.of upd_same) (.cons (rv.grow A g') (.cons (rw'.grow A g') .nil))⟩
          · have h' := Option.some.inj h
            have hge := List.getElem?_eq_none_iff.mp h'
            rw [zipD_len] at hge
            exact ⟨vs, ws, (A2.keep g).t _ _ hs, (A2.keep g).t _ _ hs', by rw [r.length]; omega, by rw [r'.length]; omega⟩
        · exact h2.none (by simp [hl, MI.fail])
      | _ => exact h2.none rfl
    | _ => exact h2.none (by cases r2 <;> rfl)
end

/-! ### comprehensions -/
theorem wipe_idem (σ : L2.St) : ∀ vs : List Nat, L2.wipe (L2.wipe σ vs) vs = L2.wipe σ vs := by
  have key : ∀ (us vs : List Nat), (∀ v ∈ us, v ∈ vs) → L2.wipe (L2.wipe σ vs) us = L2.wipe σ vs := by
    intro us
    induction us with
    | nil => intro vs _; rfl
    | cons u us ih =>
      intro vs h
      show (L2.wipe (L2.wipe σ vs) us).set u none = _
      rw [ih vs fun v hv => h v (List.mem_cons_of_mem _ hv)]
      have hu := h u List.mem_cons_self
      clear ih h
      induction vs with
      | nil => cases hu
      | cons v vs ih =>
        show ((L2.wipe σ vs).set v none).set u none = (L2.wipe σ vs).set v none
        by_cases e : v = u
        · subst e; rw [List.set_set]
        · rcases List.mem_cons.mp hu with q | q
          · exact absurd q.symm e
          · rw [List.set_comm _ _ e, ih q]
  exact fun vs => key vs vs fun _ h => h
theorem wipe_set {σ : L2.St} {x : Option V} {i : Nat} : ∀ {vs : List Nat}, i ∈ vs → L2.wipe (σ.set i x) vs = L2.wipe σ vs
  | [], h => by cases h
  | v :: vs, h => by
    show (L2.wipe (σ.set i x) vs).set v none = (L2.wipe σ vs).set v none
    by_cases e : i ∈ vs
    · rw [wipe_set e]
    · have hv : i = v := by
        rcases List.mem_cons.mp h with q | q
        · exact q
        · exact absurd q e
      subst hv
      have out : ∀ (us : List Nat) (τ : L2.St), i ∉ us → L2.wipe (τ.set i x) us = (L2.wipe τ us).set i x := by
        intro us
        induction us with
        | nil => intro τ _; rfl
        | cons u us ih =>
          intro τ hn
          have hn1 : i ∉ us := fun q => hn (List.mem_cons_of_mem _ q)
          have hn2 : i ≠ u := fun q => hn (q ▸ List.mem_cons_self)
          show (L2.wipe (τ.set i x) us).set u none = ((L2.wipe τ us).set u none).set i x
          rw [ih τ hn1, List.set_comm _ _ hn2]
      rw [out vs σ e, List.set_set]
section
variable (K : PySem.W.Frag) (cl : Nat → Addr)
/-- a target of a comprehension's own names -/
def TGw (vs : List Nat) (g : D → MI.Env → Stt → Option (MI.Env × Stt)) : TG := fun v σ H Q => ∃ ρ env st d, At K cl ρ H st ∧ RvE K H ρ σ env ∧ Rv K H ρ v d ∧ RestG K cl (fun σ' H' => L2.wipe σ' vs = L2.wipe σ vs → Q σ' H') (g d env st) ρ H
def TGws (vs : List Nat) (g : List D → MI.Env → Stt → Option (MI.Env × Stt)) : TGs := fun us σ H Q => ∃ ρ env st ds, At K cl ρ H st ∧ RvE K H ρ σ env ∧ RvL K H ρ us ds ∧ RestG K cl (fun σ' H' => L2.wipe σ' vs = L2.wipe σ vs → Q σ' H') (g ds env st) ρ H
end
section
variable {X : Cx} {cl : Nat → Addr} {c : MI.Ctx} {vs : List Nat} {pos : Pos} {e : Expr} {es : List Expr} {g : SG} {gg : SGs}
theorem mw_name {i : Nat} {x : Str} (hN : X.N.Nodup) (hm : i ∈ vs := by decide) (hi : X.N[i]? = some x := by rfl) (hx : Loc X.env.scope x := by first | exact Or.inl rfl | exact Or.inr rfl) (hf : X.fn x = true ∨ X.env.scope.names.lookup x = some .local := by first | exact .inl rfl | exact .inr rfl | assumption) : PG X (.Name x pos) (TGw X.K cl vs (gVar i c)) :=
  pgI (pg_name hN hi hx hf) fun v σ H Q ⟨ρ, env, st, d, A, e, r, h⟩ => by
    unfold gVar at h
    by_cases hl : i < env.length
    · rw [if_pos hl] at h
      exact h ρ H _ .refl A (RvE.set r i e) (wipe_set hm)
    · rw [if_neg hl] at h; exact h.elim
theorem mws_nil : PGs X [] (TGws X.K cl vs (MI.gNil c)) := pgsI pgs_nil fun us σ H Q ⟨ρ, env, st, ds, A, e, r, h⟩ => by
  cases r with
  | nil => exact ⟨rfl, h ρ H σ .refl A e rfl⟩
  | cons _ _ => exact h.elim
theorem mws_cons (h1 : PG X e (TGw X.K cl vs (g c))) (h2 : PGs X es (TGws X.K cl vs (gg c))) (hs : (assignEach (e :: es) X.env).map (·.2) = assign e X.env :: (assignEach es X.env).map (·.2) := by rfl) : PGs X (e :: es) (TGws X.K cl vs (MI.gCons g gg c)) :=
  pgsI (pgs_cons h1 h2 hs) fun us σ H Q ⟨ρ, env, st, ds, A, e, r, h⟩ => by
    cases r with
    | nil => exact h.elim
    | @cons v us d ds r rr =>
      refine ⟨v, us, rfl, ρ, env, st, d, A, e, r, ?_⟩
      match q : g c d env st, h with
      | none, h => simp only [MI.gCons, q] at h; exact h.elim
      | some (env', st'), h =>
        simp only [MI.gCons, q] at h
        refine fun ρ' H' σ' g' A' e' hw => ⟨ρ', env', st', ds, A', e', rr.grow A g', ?_⟩
        revert h
        cases gg c ds env' st' with
        | none => exact fun h => h.elim
        | some p =>
          obtain ⟨env2, st2⟩ := p
          exact fun h ρ2 H2 σ2 g2 A2 e2 hw2 => h ρ2 H2 σ2 (g'.trans g2) A2 e2 (hw2.trans hw)
theorem mw_tup {k n : Nat} (hc : X.calm = true) (h : PGs X es (TGws X.K cl vs (gg c))) (hn : (assignEach es X.env).length = n := by rfl) (hst : (assignEach es X.env).findIdx? (·.1) = none := by rfl) : PG X (.Tuple es k pos) (TGw X.K cl vs (MI.gTup n gg c)) :=
  pgI (pg_tup hc h hn hst) fun v σ H Q ⟨ρ, env, st, d, A, e, r, h⟩ => by
    cases r with
    | @tup a us l hs r =>
      have h : RestG X.K cl (fun σ' H' => L2.wipe σ' vs = L2.wipe σ vs → Q σ' H') (if l.length = n then gg c l env st else none) ρ H := h
      by_cases hl : l.length = n
      · rw [if_pos hl] at h
        exact ⟨a, us, rfl, hs, by rw [r.length]; exact hl, ρ, env, st, l, A, e, r, h⟩
      · rw [if_neg hl] at h; exact h.elim
    | _ => exact h.elim
end
theorem takesF {X : Cx} : Takes X (fun _ _ _ _ => False) := fun _ _ x => by
  obtain ⟨_, _, _, _, _, _, _, _, _, _, _, _, _, _, _, _, z⟩ := x
  exact z.elim
theorem Good.blk {X : Cx} {W : WX} {cl : Nat → Addr} {c : MI.Ctx} {lv : Nat} (G : Good X W cl c lv) (s : Shared) (H : Hp) (scope : Scope) (ce : PySem.Env) (fp : List Addr) : Good (X.blk s H scope ce fp) (fun _ _ _ _ => False) cl c lv :=
  ⟨takesF, G.room, G.calm, G.nd, G.flds, G.meth⟩
/-! ### the tests of a comprehension -/
section
variable {X : Cx} {cl : Nat → Addr} {E : EX} {c : MI.Ctx} {e : Expr} {t : MI.ST}
theorem ptsI {ifs : List Expr} {t t' : TT} (h : PTs X ifs t) (i : ∀ σ H Q, t' σ H Q → t σ H Q) : PTs X ifs t' := ⟨fun pins s σ H Q I q => h.run pins s σ H Q I (i σ H Q q)⟩
theorem mts_nil : PTs X [] (TM X.K cl E rB (cYes c)) := ptsI pts_nil fun σ H Q ⟨ρ, env, st, A, e, h⟩ => h.ok (st' := st) (d := true) rfl .refl A rfl
theorem mts_one (h : MT X cl E c e t) : PTs X [e] (TM X.K cl E rB (t c)) := pts_one h
end
theorem compL_noexc (s : Src) (T : D → MI.R (Option D)) : ∀ (m i : Nat) (acc : List D) (st : Stt) k fs st', compL s T m i acc st ≠ some (.exc k fs, st')
  | 0, _, _, _, _, _, _ => by simp [compL, MI.fail]
  | m + 1, i, acc, st, k, fs, st' => by
    intro h
    unfold compL at h
    split at h
    · cases h
    · cases h
    · split at h
      · split at h
        · exact compL_noexc s T m _ _ _ k fs st' h
        · cases h
      · exact compL_noexc s T m _ _ _ k fs st' h
      · cases h
theorem compL_step {s : Src} {T : D → MI.R (Option D)} {m i : Nat} {acc l : List D} {st st' : Stt} (h : compL s T (m + 1) i acc st = some (.ok l, st')) :
    (srcAt s i st = some none ∧ l = acc ∧ st' = st) ∨ ∃ d o st2, srcAt s i st = some (some d) ∧ T d st = some (.ok o, st2) ∧ (o = none → compL s T m (i + 1) acc st2 = some (.ok l, st')) ∧ ∀ x, o = some x → acc.length < lim - 1 ∧ compL s T m (i + 1) (acc ++ [x]) st2 = some (.ok l, st') := by
  unfold compL at h
  split at h
  · cases h
  · rename_i q
    cases h
    exact .inl ⟨q, rfl, rfl⟩
  · rename_i d q
    split at h
    · rename_i x st2 q2
      by_cases hl : acc.length < lim - 1
      · rw [if_pos hl] at h
        exact .inr ⟨d, some x, st2, q, q2, (fun z => nomatch z), (fun y z => by cases z; exact ⟨hl, h⟩)⟩
      · rw [if_neg hl] at h; cases h
    · rename_i st2 q2
      exact .inr ⟨d, none, st2, q, q2, (fun _ => h), (fun y z => nomatch z)⟩
    · cases h
theorem compT_step {g : SG} {t : MI.ST} {ge : SE} {c : MI.Ctx} {env : MI.Env} {d : D} {st st2 : Stt} {o : Option D} (h : compT g t ge c env d st = some (.ok o, st2)) :
    ∃ env' st3 b st4, g c d env st = some (env', st3) ∧ t c env' st3 = some (.ok b, st4) ∧ (b = false → o = none ∧ st2 = st4) ∧ (b = true → ∃ y, ge c env' st4 = some (.ok y, st2) ∧ o = some y) := by
  unfold compT at h
  split at h
  · rename_i env' st3 q
    unfold bnd at h
    split at h
    · rename_i b st4 q2
      refine ⟨env', st3, b, st4, q, q2, fun hb => ?_, fun hb => ?_⟩
      · subst hb
        simp only [Bool.false_eq_true, if_false, MI.ret] at h
        cases h; exact ⟨rfl, rfl⟩
      · subst hb
        simp only [if_true] at h
        split at h
        · rename_i y st5 q3
          cases h
          exact ⟨y, q3, rfl⟩
        · cases h
        · cases h
    · cases h
    · cases h
  · cases h
section
variable {K : PySem.W.Frag} {cl : Nat → Addr}
/-- a list laid beside ours becomes ours -/
theorem At.adopt {ρ : List Addr} {H : Hp} {st : Stt} {p : Addr} {vs : List V} {ds : List D} (A : At K cl ρ H st) (np : p ∉ ρ) (h : H p = some (.lst vs)) (r : RvL K H ρ vs ds) : At K cl (ρ ++ [p]) H (st ++ [.lst ds]) := by
  have k : Keep K H H := ⟨fun _ _ h => h, fun _ _ h => h, fun _ _ h => h⟩
  refine ⟨by simp [A.len], ?_, fun i a u h1 h2 => ?_⟩
  · rw [List.nodup_append]
    refine ⟨A.nd, by simp, fun a ha b hb => ?_⟩
    have : b = p := by simpa using hb
    subst this; exact fun e => np (e ▸ ha)
  · by_cases hi : i < ρ.length
    · rw [List.getElem?_append_left hi] at h1
      rw [List.getElem?_append_left (by rw [← A.len]; exact hi)] at h2
      exact (A.obj i a u h1 h2).keep k [p] rfl
    · have hi' : i = ρ.length := by
        have := (List.getElem?_eq_some_iff.mp h1).1
        simp at this; omega
      subst hi'
      simp at h1
      rw [A.len] at h2; simp at h2
      subst h1 h2; exact .lst h (r.keep k [p])
/-- a write beside ours -/
theorem At.beside {ρ : List Addr} {H : Hp} {st : Stt} {p : Addr} {vs ws : List V} (A : At K cl ρ H st) (np : p ∉ ρ) (h : H p = some (.lst vs)) : At K cl ρ (upd H p (.lst ws)) st ∧ Keep K H (upd H p (.lst ws)) := by
  have k : Keep K H (upd H p (.lst ws)) := ⟨fun b us h' => by
      rcases h' with (h' | ⟨o, h'⟩) | h'
      · exact .inl (.inl (by rw [upd_ne (fun e => by rw [e, h] at h'; cases h')]; exact h'))
      · exact .inl (.inr ⟨o, by rw [upd_ne (fun e => by rw [e, h] at h'; cases h')]; exact h'⟩)
      · exact .inr h', fun b us h' => by
      rcases h' with ⟨o, h'⟩ | h'
      · exact .inl ⟨o, by rw [upd_ne (fun e => by rw [e, h] at h'; cases h')]; exact h'⟩
      · exact .inr h', fun b us ⟨o, h', q⟩ => ⟨o, by rw [upd_ne (fun e => by rw [e, h] at h'; cases h')]; exact h', q⟩⟩
  refine ⟨⟨A.len, A.nd, fun i a u h1 h2 => ?_⟩, k⟩
  have := (A.obj i a u h1 h2).keep k [] (upd_ne fun e => np (e ▸ List.mem_of_getElem? h1))
  simpa using this
/-- a lock beside ours -/
theorem At.besideF {ρ : List Addr} {H : Hp} {st : Stt} {p : Addr} {vs : List V} {od : Obj} (A : At K cl ρ H st) (np : p ∉ ρ) (h : H p = some (.lst vs)) : At K cl ρ (upd H p (.frz od (.lst vs))) st ∧ Keep K H (upd H p (.frz od (.lst vs))) := by
  have k : Keep K H (upd H p (.frz od (.lst vs))) := ⟨fun b us h' => by
      rcases h' with (h' | ⟨o, h'⟩) | h'
      · exact .inl (.inl (by rw [upd_ne (fun e => by rw [e, h] at h'; cases h')]; exact h'))
      · exact .inl (.inr ⟨o, by rw [upd_ne (fun e => by rw [e, h] at h'; cases h')]; exact h'⟩)
      · exact .inr h', fun b us h' => by
      rcases h' with ⟨o, h'⟩ | h'
      · exact .inl ⟨o, by rw [upd_ne (fun e => by rw [e, h] at h'; cases h')]; exact h'⟩
      · exact .inr h', fun b us ⟨o, h', q⟩ => ⟨o, by rw [upd_ne (fun e => by rw [e, h] at h'; cases h')]; exact h', q⟩⟩
  refine ⟨⟨A.len, A.nd, fun i a u h1 h2 => ?_⟩, k⟩
  have := (A.obj i a u h1 h2).keep k [] (upd_ne fun e => np (e ▸ List.mem_of_getElem? h1))
  simpa using this
end
section
variable {X : Cx} {W : WX} {cl : Nat → Addr} {E : EX} {c : MI.Ctx} {lv : Nat} {pos : Pos} {elt tg iter : Expr} {ifs : List Expr} {scope : Scope} {own : List (Str × Nat)} {gi : SI} {g : SG} {t : MI.ST} {ge : SE}
theorem tm_comp {E' : EX} {vs : List Nat} {σ : L2.St} {H : Hp} {Q : VK} (h : TM X.K cl E (rV X.K) (eComp vs g gi t ge c) σ H Q) :
    tLc (TM X.K cl E (rS X.K cl) (gi c)) (TGw X.K cl vs (g c)) (TM X.K cl E' rB (t c)) (TM X.K cl E' (rV X.K) (ge c)) vs σ H Q := by
  obtain ⟨ρ, env, st, A, e, h⟩ := h
  refine (Rest.step (g := gi c) (rS X.K cl) A e h).imp fun J H1 ⟨ρ1, st1, s, g1, A1, S, h1⟩ => ?_
  have e1 := e.grow A g1
  have ew : RvE X.K H1 ρ1 (L2.wipe σ vs) (wipeE env vs) := RvE.wipe vs e1
  intro D hD
  have nD : D ∉ ρ1 := fun hm => A1.there hm hD
  obtain ⟨l, st', run, K1⟩ : ∃ l st', compL s (compT g t ge c (wipeE env vs)) c.fuel 0 [] st1 = some (.ok l, st') ∧ ∀ ρ' H' v, Grow ρ1 H1 ρ' H' → At X.K cl ρ' H' (st' ++ [.lst l]) → Rv X.K H' ρ' v (.loc st'.length) → Q v H' := by
    rcases h1 with ⟨d, st2, q, k⟩ | ⟨kc, fs, st2, q, k⟩
    · unfold bnd at q
      cases qq : compL s (compT g t ge c (wipeE env vs)) c.fuel 0 [] st1 with
      | none => rw [qq] at q; cases q
      | some pr =>
        obtain ⟨rs, st3⟩ := pr
        cases rs with
        | exc kc fs => exact absurd qq (compL_noexc _ _ _ _ _ _ _ _ _)
        | ok l =>
          rw [qq] at q
          cases q
          exact ⟨l, st3, rfl, k⟩
    · unfold bnd at q
      cases qq : compL s (compT g t ge c (wipeE env vs)) c.fuel 0 [] st1 with
      | none => rw [qq] at q; cases q
      | some pr =>
        obtain ⟨rs, st3⟩ := pr
        cases rs with
        | exc kc fs => exact absurd qq (compL_noexc _ _ _ _ _ _ _ _ _)
        | ok l => rw [qq] at q; cases q
  obtain ⟨A2, g2⟩ := A1.side (o := .lst []) hD
  refine ⟨fun i m H => ∃ ρ st acc us, Grow ρ1 H1 ρ H ∧ At X.K cl ρ H st ∧ RvE X.K H ρ (L2.wipe σ vs) (wipeE env vs) ∧ H D = some (.lst us) ∧ D ∉ ρ ∧ RvL X.K H ρ us acc ∧ compL s (compT g t ge c (wipeE env vs)) m i acc st = some (.ok l, st'),
    ⟨c.fuel, ρ1, st1, [], [], g2, A2, ew.grow A1 g2, upd_same, nD, .nil, run⟩, ?_⟩
  rintro i m H ⟨ρ, st, acc, us, gg, A, ee, hDu, nD, rl, run⟩
  cases m with
  | zero => cases run
  | succ m =>
    rcases compL_step run with ⟨q, z1, z2⟩ | ⟨d, o, stE, q, runT, runN, runS⟩
    · subst z1 z2
      refine .inl ⟨S.stop ρ H _ i gg A q, ?_⟩
      refine K1 (ρ ++ [D]) H (.ref D) ?_ (A.adopt nD hDu rl) (.loc (by rw [← A.len]; simp))
      refine ⟨?_, fun x hx => ?_, fun x o ho hn => gg.frame x o ho hn⟩
      · obtain ⟨z, rfl⟩ := gg.ext
        exact ⟨z ++ [D], by rw [List.append_assoc]⟩
      · rcases List.mem_append.mp hx with hx | hx
        · exact gg.new x hx
        · have : x = D := by simpa using hx
          subst this; exact .inr hD
    · obtain ⟨env', st3, b, st4, qg, qt, hf, ht⟩ := compT_step runT
      obtain ⟨go, yl⟩ := S.go ρ H st i d gg A q
      refine .inr ⟨go, fun H => ∃ ρ st acc us, Grow ρ1 H1 ρ H ∧ At X.K cl ρ H st ∧ RvE X.K H ρ (L2.wipe σ vs) (wipeE env vs) ∧ H D = some (.lst us) ∧ D ∉ ρ ∧ RvL X.K H ρ us acc ∧ compL s (compT g t ge c (wipeE env vs)) m (i + 1) acc st = some (.ok l, st'), fun H' w => ⟨m, Nat.lt_succ_self m, w⟩, fun x H' y => ?_⟩
      obtain ⟨ρ2, g2, A2, r2⟩ := yl x H' y
      have out : ∀ {ρ H ρ' H'}, Grow ρ H ρ' H' → H D ≠ none → D ∉ ρ → D ∉ ρ' := fun {ρ H ρ' H'} g h n m => by
        rcases g.new D m with z | z
        · exact n z
        · exact h z
      have e2 := ee.grow A g2
      have nD2 := out g2 (by rw [hDu]; simp) nD
      have hD2 := g2.frame D _ hDu nD
      refine ⟨ρ2, wipeE env vs, st, d, A2, e2, r2, ?_⟩
      rw [qg]
      refine fun ρ3 H3 σ3 g3 A3 e3 hw => ⟨by rw [hw, wipe_idem], ?_⟩
      have nD3 := out g3 (by rw [hD2]; simp) nD2
      have hD3 := g3.frame D _ hD2 nD2
      refine ⟨ρ3, env', st3, A3, e3, .inl ⟨b, st4, qt, fun ρ4 H4 b' g4 A4 rb => ?_⟩⟩
      have rb' : b' = b := rb
      subst rb'
      have nD4 := out g4 (by rw [hD3]; simp) nD3
      have hD4 := g4.frame D _ hD3 nD3
      have e4 := e3.grow A3 g4
      cases b' with
      | false =>
        obtain ⟨z1, z2⟩ := hf rfl
        subst z2
        exact iteF ⟨ρ4, stE, acc, us, gg.trans (g2.trans (g3.trans g4)), A4, (e2.grow A2 (g3.trans g4)), hD4, nD4, rl.grow A (g2.trans (g3.trans g4)), runN z1⟩
      | true =>
        obtain ⟨y, qe, z1⟩ := ht rfl
        obtain ⟨hl, run'⟩ := runS y z1
        refine iteT ⟨ρ4, env', st4, A4, e4, .inl ⟨y, stE, qe, fun ρ5 H5 v5 g5 A5 r5 => ?_⟩⟩
        have nD5 := out g5 (by rw [hD4]; simp) nD4
        have hD5 := g5.frame D _ hD4 nD4
        have g25 := g2.trans (g3.trans (g4.trans g5))
        refine ⟨us, hD5, by rw [rl.length]; have := sizeLine_eq; have e2 : lim = 16777216 := rfl; omega, ?_⟩
        obtain ⟨A6, k6⟩ := A5.beside (ws := us ++ [v5]) nD5 hD5
        have lift : ∀ {v : V} {d : MI.D}, Rv X.K H5 ρ5 v d → Rv X.K (upd H5 D (.lst (us ++ [v5]))) ρ5 v d := fun h => by
          have := h.keep k6 []; simpa using this
        have liftL : ∀ {v : List V} {d : List MI.D}, RvL X.K H5 ρ5 v d → RvL X.K (upd H5 D (.lst (us ++ [v5]))) ρ5 v d := fun h => by
          have := h.keep k6 []; simpa using this
        have liftE : ∀ {v : L2.St} {d : MI.Env}, RvE X.K H5 ρ5 v d → RvE X.K (upd H5 D (.lst (us ++ [v5]))) ρ5 v d := fun h => by
          have := h.keep k6 []; simpa using this
        have g15 := gg.trans g25
        refine ⟨ρ5, stE, acc ++ [y], us ++ [v5], ⟨g15.ext, g15.new, fun x o ho hn => ?_⟩, A6, liftE (ee.grow A g25), upd_same, nD5, (liftL (rl.grow A g25)).append (.cons (lift r5) .nil), run'⟩
        rw [upd_ne fun z => by rw [z, hD] at ho; cases ho]
        exact g15.frame x o ho hn
theorem me_comp {E' : EX} (vs : List Nat) (hv : own.map (·.2) = vs) (hc : X.calm = true) (hN : X.N.Nodup) (ok : BlkOk X.N X.env.scope scope own) (hi : MI_ X cl E c tg iter gi)
    (hg : ∀ (s : Shared) (H : Hp) (C : Addr) (cls : List (Str × Addr)) (fp : List Addr), PG (X.blk s H scope (compEnvC scope cls C X.env) fp) tg (TGw X.K cl vs (g c)))
    (ht : ∀ (s : Shared) (H : Hp) (C : Addr) (cls : List (Str × Addr)) (fp : List Addr), PTs (X.blk s H scope (compEnvC scope cls C X.env) fp) ifs (TM X.K cl E' rB (t c)))
    (he : ∀ (s : Shared) (H : Hp) (C : Addr) (cls : List (Str × Addr)) (fp : List Addr), PE (X.blk s H scope (compEnvC scope cls C X.env) fp) elt (TM X.K cl E' (rV X.K) (ge c)))
    (hs : ∀ x, foldedSetIterable iter X.env x = pure x := by intro _; rfl) : ME X cl E c (.ListComp elt [⟨tg, iter, ifs, 0⟩] scope pos) (eComp vs g gi t ge) :=
  peI (pe_lc hc hN hi ok hg ht he hs) fun σ H Q h => by
    subst hv
    exact tm_comp h
theorem tm_compF {E' : EX} {vs : List Nat} {σ : L2.St} {H : Hp} {Q : VK} (h : TM X.K cl E (rV X.K) (eCompF vs g gi t ge c) σ H Q) :
    tLc (TM X.K cl E (rS X.K cl) (gi c)) (TGw X.K cl vs (g c)) (TM X.K cl E' rB (t c)) (TM X.K cl E' (rV X.K) (ge c)) vs σ H (fz Q) := by
  obtain ⟨ρ, env, st, A, e, h⟩ := h
  refine (Rest.step (g := gi c) (rS X.K cl) A e h).imp fun J H1 ⟨ρ1, st1, s, g1, A1, S, h1⟩ => ?_
  have e1 := e.grow A g1
  have ew : RvE X.K H1 ρ1 (L2.wipe σ vs) (wipeE env vs) := RvE.wipe vs e1
  intro D hD
  have nD : D ∉ ρ1 := fun hm => A1.there hm hD
  obtain ⟨l, st', run, K1⟩ : ∃ l st', compL s (compT g t ge c (wipeE env vs)) c.fuel 0 [] st1 = some (.ok l, st') ∧ ∀ ρ' H' v, Grow ρ1 H1 ρ' H' → At X.K cl ρ' H' st' → Rv X.K H' ρ' v (.frz l) → Q v H' := by
    rcases h1 with ⟨d, st2, q, k⟩ | ⟨kc, fs, st2, q, k⟩
    · unfold bnd at q
      cases qq : compL s (compT g t ge c (wipeE env vs)) c.fuel 0 [] st1 with
      | none => rw [qq] at q; cases q
      | some pr =>
        obtain ⟨rs, st3⟩ := pr
        cases rs with
        | exc kc fs => exact absurd qq (compL_noexc _ _ _ _ _ _ _ _ _)
        | ok l =>
          rw [qq] at q
          cases q
          exact ⟨l, _, rfl, k⟩
    · unfold bnd at q
      cases qq : compL s (compT g t ge c (wipeE env vs)) c.fuel 0 [] st1 with
      | none => rw [qq] at q; cases q
      | some pr =>
        obtain ⟨rs, st3⟩ := pr
        cases rs with
        | exc kc fs => exact absurd qq (compL_noexc _ _ _ _ _ _ _ _ _)
        | ok l => rw [qq] at q; cases q
  obtain ⟨A2, g2⟩ := A1.side (o := .lst []) hD
  refine ⟨fun i m H => ∃ ρ st acc us, Grow ρ1 H1 ρ H ∧ At X.K cl ρ H st ∧ RvE X.K H ρ (L2.wipe σ vs) (wipeE env vs) ∧ H D = some (.lst us) ∧ D ∉ ρ ∧ RvL X.K H ρ us acc ∧ compL s (compT g t ge c (wipeE env vs)) m i acc st = some (.ok l, st'),
    ⟨c.fuel, ρ1, st1, [], [], g2, A2, ew.grow A1 g2, upd_same, nD, .nil, run⟩, ?_⟩
  rintro i m H ⟨ρ, st, acc, us, gg, A, ee, hDu, nD, rl, run⟩
  cases m with
  | zero => cases run
  | succ m =>
    rcases compL_step run with ⟨q, z1, z2⟩ | ⟨d, o, stE, q, runT, runN, runS⟩
    · subst z1 z2
      refine .inl ⟨S.stop ρ H _ i gg A q, ?_⟩
      refine .inr ⟨D, us, rfl, hDu, fun od => ?_⟩
      obtain ⟨A6, k6⟩ := A.besideF (od := od) nD hDu
      refine K1 ρ _ (.ref D) ⟨gg.ext, gg.new, fun x o ho hn => ?_⟩ A6 (.frz (.inl ⟨od, upd_same⟩) (by have := rl.keep k6 []; simpa using this))
      rw [upd_ne fun z => by rw [z, hD] at ho; cases ho]
      exact gg.frame x o ho hn
    · obtain ⟨env', st3, b, st4, qg, qt, hf, ht⟩ := compT_step runT
      obtain ⟨go, yl⟩ := S.go ρ H st i d gg A q
      refine .inr ⟨go, fun H => ∃ ρ st acc us, Grow ρ1 H1 ρ H ∧ At X.K cl ρ H st ∧ RvE X.K H ρ (L2.wipe σ vs) (wipeE env vs) ∧ H D = some (.lst us) ∧ D ∉ ρ ∧ RvL X.K H ρ us acc ∧ compL s (compT g t ge c (wipeE env vs)) m (i + 1) acc st = some (.ok l, st'), fun H' w => ⟨m, Nat.lt_succ_self m, w⟩, fun x H' y => ?_⟩
      obtain ⟨ρ2, g2, A2, r2⟩ := yl x H' y
      have out : ∀ {ρ H ρ' H'}, Grow ρ H ρ' H' → H D ≠ none → D ∉ ρ → D ∉ ρ' := fun {ρ H ρ' H'} g h n m => by
        rcases g.new D m with z | z
        · exact n z
        · exact h z
      have e2 := ee.grow A g2
      have nD2 := out g2 (by rw [hDu]; simp) nD
      have hD2 := g2.frame D _ hDu nD
      refine ⟨ρ2, wipeE env vs, st, d, A2, e2, r2, ?_⟩
      rw [qg]
      refine fun ρ3 H3 σ3 g3 A3 e3 hw => ⟨by rw [hw, wipe_idem], ?_⟩
      have nD3 := out g3 (by rw [hD2]; simp) nD2
      have hD3 := g3.frame D _ hD2 nD2
      refine ⟨ρ3, env', st3, A3, e3, .inl ⟨b, st4, qt, fun ρ4 H4 b' g4 A4 rb => ?_⟩⟩
      have rb' : b' = b := rb
      subst rb'
      have nD4 := out g4 (by rw [hD3]; simp) nD3
      have hD4 := g4.frame D _ hD3 nD3
      have e4 := e3.grow A3 g4
      cases b' with
      | false =>
        obtain ⟨z1, z2⟩ := hf rfl
        subst z2
        exact iteF ⟨ρ4, stE, acc, us, gg.trans (g2.trans (g3.trans g4)), A4, (e2.grow A2 (g3.trans g4)), hD4, nD4, rl.grow A (g2.trans (g3.trans g4)), runN z1⟩
      | true =>
        obtain ⟨y, qe, z1⟩ := ht rfl
        obtain ⟨hl, run'⟩ := runS y z1
        refine iteT ⟨ρ4, env', st4, A4, e4, .inl ⟨y, stE, qe, fun ρ5 H5 v5 g5 A5 r5 => ?_⟩⟩
        have nD5 := out g5 (by rw [hD4]; simp) nD4
        have hD5 := g5.frame D _ hD4 nD4
        have g25 := g2.trans (g3.trans (g4.trans g5))
        refine ⟨us, hD5, by rw [rl.length]; have := sizeLine_eq; have e2 : lim = 16777216 := rfl; omega, ?_⟩
        obtain ⟨A6, k6⟩ := A5.beside (ws := us ++ [v5]) nD5 hD5
        have lift : ∀ {v : V} {d : MI.D}, Rv X.K H5 ρ5 v d → Rv X.K (upd H5 D (.lst (us ++ [v5]))) ρ5 v d := fun h => by
          have := h.keep k6 []; simpa using this
        have liftL : ∀ {v : List V} {d : List MI.D}, RvL X.K H5 ρ5 v d → RvL X.K (upd H5 D (.lst (us ++ [v5]))) ρ5 v d := fun h => by
          have := h.keep k6 []; simpa using this
        have liftE : ∀ {v : L2.St} {d : MI.Env}, RvE X.K H5 ρ5 v d → RvE X.K (upd H5 D (.lst (us ++ [v5]))) ρ5 v d := fun h => by
          have := h.keep k6 []; simpa using this
        have g15 := gg.trans g25
        refine ⟨ρ5, stE, acc ++ [y], us ++ [v5], ⟨g15.ext, g15.new, fun x o ho hn => ?_⟩, A6, liftE (ee.grow A g25), upd_same, nD5, (liftL (rl.grow A g25)).append (.cons (lift r5) .nil), run'⟩
        rw [upd_ne fun z => by rw [z, hD] at ho; cases ho]
        exact g15.frame x o ho hn
theorem me_compF {E' : EX} (vs : List Nat) (hv : own.map (·.2) = vs) (hc : X.calm = true) (hN : X.N.Nodup) (ok : BlkOk X.N X.env.scope scope own) (hi : MI_ X cl E c tg iter gi)
    (hg : ∀ (s : Shared) (H : Hp) (C : Addr) (cls : List (Str × Addr)) (fp : List Addr), PG (X.blk s H scope (compEnvC scope cls C X.env) fp) tg (TGw X.K cl vs (g c)))
    (ht : ∀ (s : Shared) (H : Hp) (C : Addr) (cls : List (Str × Addr)) (fp : List Addr), PTs (X.blk s H scope (compEnvC scope cls C X.env) fp) ifs (TM X.K cl E' rB (t c)))
    (he : ∀ (s : Shared) (H : Hp) (C : Addr) (cls : List (Str × Addr)) (fp : List Addr), PE (X.blk s H scope (compEnvC scope cls C X.env) fp) elt (TM X.K cl E' (rV X.K) (ge c)))
    (hs : ∀ x, foldedSetIterable iter X.env x = pure x := by intro _; rfl) : ME X cl E c (.ListComp elt [⟨tg, iter, ifs, 0⟩] scope pos) (eCompF vs g gi t ge) :=
  peI (pe_fz (pe_lc hc hN hi ok hg ht he hs)) fun σ H Q h => by
    subst hv
    exact tm_compF h
theorem ps_fz {X : Cx} {s : Stmt} {t : TS} (h : PS X s t) : PS X s (fun D σ H => t { D with nx := fun σ' H' => D.nx σ' H' ∨ ∃ a vs, H' a = some (.lst vs) ∧ ∀ od, D.nx σ' (upd H' a (.frz od (.lst vs))) } σ H) := ⟨fun pins s σ H D I q => thn (h.run pins s σ H _ I q) fun f s1 z => by
  cases f with
  | next =>
    obtain ⟨σ', H', I', q | ⟨a, vs, hl, q⟩⟩ := z
    · exact ⟨σ', H', I', q⟩
    · obtain ⟨od, I2⟩ := I'.lock hl trivial
      exact ⟨σ', _, I2, q od⟩
  | ret v => exact z
  | brk => exact z
  | cont => exact z⟩
theorem tLc_imp {wi : TI} {g : TG} {tt : TT} {te : TE} {vs : List Nat} {σ : L2.St} {H : Hp} {Q Q' : VK} (h : tLc wi g tt te vs σ H Q) (mono : ∀ σ H (R R' : It → Hp → Prop), (∀ J H, R J H → R' J H) → wi σ H R → wi σ H R') (i : ∀ v H, Q v H → Q' v H) : tLc wi g tt te vs σ H Q' := by
  refine mono _ _ _ _ (fun J H1 q => ?_) h
  intro D hD
  obtain ⟨W, w0, turn⟩ := q D hD
  refine ⟨W, w0, fun k m H w => ?_⟩
  rcases turn k m H w with ⟨a, b⟩ | r
  · exact .inl ⟨a, i _ _ b⟩
  · exact .inr r
theorem ms_setLc {E' : EX} {i : Nat} {y : Str} {py spos : Pos} (vs : List Nat) (hv : own.map (·.2) = vs) (hc : X.calm = true) (hN : X.N.Nodup) (ok : BlkOk X.N X.env.scope scope own) (hi : MI_ X cl E c tg iter gi)
    (hg : ∀ (s : Shared) (H : Hp) (C : Addr) (cls : List (Str × Addr)) (fp : List Addr), PG (X.blk s H scope (compEnvC scope cls C X.env) fp) tg (TGw X.K cl vs (g c)))
    (ht : ∀ (s : Shared) (H : Hp) (C : Addr) (cls : List (Str × Addr)) (fp : List Addr), PTs (X.blk s H scope (compEnvC scope cls C X.env) fp) ifs (TM X.K cl E' rB (t c)))
    (he : ∀ (s : Shared) (H : Hp) (C : Addr) (cls : List (Str × Addr)) (fp : List Addr), PE (X.blk s H scope (compEnvC scope cls C X.env) fp) elt (TM X.K cl E' (rV X.K) (ge c)))
    (hsw : swapsWith (.ListComp elt [⟨tg, iter, ifs, 0⟩] scope pos) (some (.Name y py)) spos.line X.env = pure true) (hy : X.N[i]? = some y := by rfl) (hyl : X.env.scope.names.lookup y = some .local := by rfl)
    (hs : ∀ x, foldedSetIterable iter X.env x = pure x := by intro _; rfl) : MST X cl E c (.Assign [.Name y py] (.ListComp elt [⟨tg, iter, ifs, 0⟩] scope pos) spos) (sSet i (eComp vs g gi t ge)) :=
  psI (ps_setLc hc hN hy hyl hsw hi ok hg ht he hs) fun D σ H ⟨ρ, env, st, A, e, h⟩ => by
    subst hv
    refine tm_comp ((RestS.step (x := eComp (own.map (·.2)) g gi t ge c) (rV X.K) A e h).imp fun v1 H1 ⟨ρ1, st1, d1, g1, A1, r1, h1⟩ => ?_)
    by_cases hl : i < env.length
    · rw [if_pos hl] at h1
      exact h1 ρ1 H1 _ .refl A1 (RvE.set r1 i (e.grow A g1))
    · rw [if_neg hl] at h1; exact h1.elim
theorem ms_setLcF {E' : EX} {i : Nat} {y : Str} {py spos : Pos} (vs : List Nat) (hv : own.map (·.2) = vs) (hc : X.calm = true) (hN : X.N.Nodup) (ok : BlkOk X.N X.env.scope scope own) (hi : MI_ X cl E c tg iter gi)
    (hg : ∀ (s : Shared) (H : Hp) (C : Addr) (cls : List (Str × Addr)) (fp : List Addr), PG (X.blk s H scope (compEnvC scope cls C X.env) fp) tg (TGw X.K cl vs (g c)))
    (ht : ∀ (s : Shared) (H : Hp) (C : Addr) (cls : List (Str × Addr)) (fp : List Addr), PTs (X.blk s H scope (compEnvC scope cls C X.env) fp) ifs (TM X.K cl E' rB (t c)))
    (he : ∀ (s : Shared) (H : Hp) (C : Addr) (cls : List (Str × Addr)) (fp : List Addr), PE (X.blk s H scope (compEnvC scope cls C X.env) fp) elt (TM X.K cl E' (rV X.K) (ge c)))
    (hsw : swapsWith (.ListComp elt [⟨tg, iter, ifs, 0⟩] scope pos) (some (.Name y py)) spos.line X.env = pure true) (hy : X.N[i]? = some y := by rfl) (hyl : X.env.scope.names.lookup y = some .local := by rfl)
    (hs : ∀ x, foldedSetIterable iter X.env x = pure x := by intro _; rfl) : MST X cl E c (.Assign [.Name y py] (.ListComp elt [⟨tg, iter, ifs, 0⟩] scope pos) spos) (sSet i (eCompF vs g gi t ge)) :=
  psI (ps_fz (ps_setLc hc hN hy hyl hsw hi ok hg ht he hs)) fun D σ H ⟨ρ, env, st, A, e, h⟩ => by
    subst hv
    have h' : tLc _ _ _ _ (own.map (·.2)) σ H (fz fun v1 H1 => D.nx (σ.set i (some v1)) H1) := tm_compF (E' := E') ((RestS.step (x := eCompF (own.map (·.2)) g gi t ge c) (rV X.K) A e h).imp fun v1 H1 ⟨ρ1, st1, d1, g1, A1, r1, h1⟩ => by
      by_cases hl : i < env.length
      · rw [if_pos hl] at h1
        exact h1 ρ1 H1 _ .refl A1 (RvE.set r1 i (e.grow A g1))
      · rw [if_neg hl] at h1; exact h1.elim)
    refine tLc_imp h' (fun σ H R R' im w => w.imp im) fun v H1 q => ?_
    rcases q with q | ⟨a, us, rfl, hl, q⟩
    · exact .inl q
    · exact .inr ⟨a, us, hl, q⟩
end
end MS

set_option Elab.async false
set_option linter.all false
set_option maxRecDepth 100000
set_option maxHeartbeats 4000000
/-! MS12: a written dict's get; a def does what its text does. -/
namespace MS
open PySem PySem.Spec PyProof.Rows L2 MI

section
variable {X : Cx} {cl : Nat → Addr} {E : EX} {c : MI.Ctx} {a b e : Expr} {ga gb ge : SE} {pos dpos apos cpos : Pos}
/-! ### {'a': 1, ..}.get(x, y) -/
def kvT (kvs : List (List Nat × Int)) : List (TE × TE) := kvs.map fun p => (tC (.str (sD p.1)), tC (.int p.2))
def kvK (kvs : List (List Nat × Int)) : List (Key × V) := kvs.map fun p => (.inr (sD p.1), .int p.2)
theorem pairs_const (kvs : List (List Nat × Int)) : ∀ (σ : L2.St) (H : Hp) (Q : List (V × V) → Hp → Prop), Q (kvs.map fun p => (.str (sD p.1), .int p.2)) H → tPairs (kvT kvs) σ H Q := by
  induction kvs with
  | nil => exact fun _ _ _ q => q
  | cons p r ih => exact fun σ H Q q => ih σ H _ q
theorem valV_merge (k : Key) : ∀ (more acc : List (Key × V)), (more.map (·.1)).Nodup → valV (mergeK acc more) k = (valV more k).or (valV acc k)
  | [], acc, _ => by show valV acc k = _; rw [valV_nil]; rfl
  | p :: r, acc, h => by
    rw [List.map_cons, List.nodup_cons] at h
    show valV (mergeK (putK acc p.1 p.2) r) k = _
    rw [valV_merge k r _ h.2, valV_put]
    by_cases e : p.1 = k
    · have hn : valV r k = none := by
        unfold valV
        rw [Option.map_eq_none_iff, List.find?_eq_none]
        intro q hq hk
        have : q.1 = k := by simpa using hk
        exact h.1 (List.mem_map.mpr ⟨q, hq, this.trans e.symm⟩)
      rw [hn, valV_pos e, if_pos e.symm]; rfl
    · rw [valV_neg e, if_neg (fun z => e z.symm)]
theorem valV_kvK (s : List Nat) : ∀ kvs : List (List Nat × Int), valV (kvK kvs) (.inr (sD s)) = (lookI kvs s).map V.int
  | [] => rfl
  | p :: r => by
    show valV ((.inr (sD p.1), .int p.2) :: kvK r) (.inr (sD s)) = _
    by_cases e : p.1 = s
    · rw [valV_pos (by rw [e])]
      simp [lookI, e]
    · rw [valV_neg (fun z => e (sD_inj (Sum.inr.inj z))), valV_kvK s r]
      unfold lookI
      rw [List.find?_cons_of_neg (by simpa using e)]
theorem kvK_nodup {kvs : List (List Nat × Int)} (h : (kvs.map (·.1)).Nodup) : ((kvK kvs).map (·.1)).Nodup := by
  unfold kvK
  rw [List.map_map]
  have : (kvs.map ((fun p : Key × V => p.1) ∘ fun p : List Nat × Int => ((Sum.inr (sD p.1) : Key), V.int p.2))) = (kvs.map (·.1)).map fun s => (Sum.inr (sD s) : Key) := by
    rw [List.map_map]; rfl
  rw [this]
  exact List.Pairwise.map (fun s => (Sum.inr (sD s) : Key)) (fun x y n z => n (sD_inj (Sum.inr.inj z))) h
theorem tm_dget {kvs : List (List Nat × Int)} (nd : (kvs.map (·.1)).Nodup) (hl : kvs.length ≤ 15) {σ : L2.St} {H : Hp} {Q : VK} (h : TM X.K cl E (rV X.K) (eDGet kvs ga gb c) σ H Q) :
    tDGet2 (tDisp (kvT kvs)) (TM X.K cl E (rV X.K) (ga c)) (TM X.K cl E (rV X.K) (gb c)) σ H Q := by
  obtain ⟨ρ, env, st, A, e, h⟩ := h
  intro p hn
  refine pairs_const kvs σ _ _ ⟨upd_same, kvK kvs, ?_, by unfold kvK; rw [List.length_map]; exact hl, ?_⟩
  · unfold kvK; rw [List.map_map]; rfl
  rw [L2.upd_upd]
  obtain ⟨A', g'⟩ := A.side (o := .dK (mergeK [] (kvK kvs))) hn
  have np : p ∉ ρ := fun m => A.there m hn
  refine ⟨p, rfl, .inl ⟨_, .inl upd_same⟩, ?_⟩
  refine (Rest.step (g := ga c) (rV X.K) A' (e.grow A g') (h.base g')).imp fun v1 H1 ⟨ρ1, st1, d1, g1, A1, r1, h1⟩ => ?_
  refine (Rest.step (g := gb c) (rV X.K) A1 ((e.grow A g').grow A' g1) h1).imp fun v2 H2 ⟨ρ2, st2, d2, g2, A2, r2, h2⟩ => ?_
  have hp2 : H2 p = some (.dK (mergeK [] (kvK kvs))) := (g1.trans g2).frame p _ upd_same np
  have r1' := r1.grow A1 g2
  cases r1' with
  | str s =>
    refine ⟨(lookI kvs s).map V.int, .inl ⟨_, .inr (sD s), .inl hp2, rfl, ?_⟩, ?_⟩
    · rw [valV_merge _ _ _ (kvK_nodup nd), valV_kvK, valV_nil, Option.or_none]
    · cases q : lookI kvs s with
      | none => exact h2.ok (st' := st2) (d := d2) (by simp [q, MI.ret]) .refl A2 r2
      | some i => exact h2.ok (st' := st2) (d := .int i) (by simp [q, MI.ret]) .refl A2 (.int i)
  | _ => exact h2.none rfl
theorem me_dget (kvs : List (List Nat × Int)) {keys : List (Option Expr)} {values : List Expr} (hu : X.A.units + 1 < cLine) (hk : PPs X dpos keys values (kvT kvs)) (ha : ME X cl E c a ga) (hb : ME X cl E c b gb)
    (m : M2 X (.Dict keys values dpos) "get" apos a b cpos) (nd : (kvs.map (·.1)).Nodup := by decide +kernel) (hl : kvs.length ≤ 15 := by decide) (hall : keys.all (·.isSome) = true := by rfl) (hlen : keys.length = values.length := by rfl) (h0 : keys ≠ [] := by simp) (h15 : keys.length ≤ 15 := by decide) :
    ME X cl E c (.Call (.Attribute (.Dict keys values dpos) "get" apos) [a, b] [] cpos) (eDGet kvs ga gb) :=
  peI (pe_dget2 hu (pe_disp hk hall hlen h0 h15) ha hb m) fun σ H Q h => tm_dget nd hl h
theorem tm_dix {kvs : List (List Nat × Int)} (nd : (kvs.map (·.1)).Nodup) (hl : kvs.length ≤ 15) {σ : L2.St} {H : Hp} {Q : VK} (h : TM X.K cl E (rV X.K) (eDIx kvs ga c) σ H Q) :
    tDGet (tDisp (kvT kvs)) (TM X.K cl E (rV X.K) (ga c)) σ H Q := by
  obtain ⟨ρ, env, st, A, e, h⟩ := h
  intro p hn
  refine pairs_const kvs σ _ _ ⟨upd_same, kvK kvs, ?_, by unfold kvK; rw [List.length_map]; exact hl, ?_⟩
  · unfold kvK; rw [List.map_map]; rfl
  rw [L2.upd_upd]
  obtain ⟨A', g'⟩ := A.side (o := .dK (mergeK [] (kvK kvs))) hn
  have np : p ∉ ρ := fun m => A.there m hn
  refine (Rest.step (g := ga c) (rV X.K) A' (e.grow A g') (h.base g')).imp fun v1 H1 ⟨ρ1, st1, d1, g1, A1, r1, h1⟩ => ?_
  have hp2 : H1 p = some (.dK (mergeK [] (kvK kvs))) := g1.frame p _ upd_same np
  cases r1 with
  | str s =>
    cases q : lookI kvs s with
    | none => exact h1.none (by simp [q, MI.fail])
    | some i =>
      refine ⟨p, .int i, rfl, .inl ⟨_, .inr (sD s), .inl hp2, rfl, ?_⟩, h1.ok (st' := st1) (d := .int i) (by simp [q, MI.ret]) .refl A1 (.int i)⟩
      rw [valV_merge _ _ _ (kvK_nodup nd), valV_kvK, valV_nil, Option.or_none, q]; rfl
  | _ => exact h1.none rfl
theorem me_dix (kvs : List (List Nat × Int)) {keys : List (Option Expr)} {values : List Expr} (hu : X.A.units + 1 < cLine) (hk : PPs X dpos keys values (kvT kvs)) (ha : ME X cl E c a ga) (hs : NoSl a)
    (nd : (kvs.map (·.1)).Nodup := by decide +kernel) (hl : kvs.length ≤ 15 := by decide) (hall : keys.all (·.isSome) = true := by rfl) (hlen : keys.length = values.length := by rfl) (h0 : keys ≠ [] := by simp) (h15 : keys.length ≤ 15 := by decide) :
    ME X cl E c (.Subscript (.Dict keys values dpos) a pos) (eDIx kvs ga) :=
  peI (pe_dget hu (pe_disp hk hall hlen h0 h15) ha hs) fun σ H Q h => tm_dix nd hl h
end

/-! ### defs -/
section
variable {P : Program} {w : World} {K : PySem.W.Frag} {mg : Str → Option Value} {base : Heap} {cl : Nat → Addr}
/-- nothing is promised of the depth 0 -/
theorem fnT_fail {x qual : Str} {params : Arguments} {body : List Stmt} {scope : Scope} {f : Addr} {fd : FuncData} {ps N : List Str} (F : FunD K x qual params body scope [] [] f fd) (S : FnScope N ps scope) (hb : Binds K fd ps []) : FnT P w K mg base cl 0 f (fun _ => MI.fail) := by
  refine ⟨fd, ps, ⟨fun vs H Q E h => h.1, fun A outer s H args us vs Q E _ _ _ _ h => ?_⟩, hb, F.kp, fun ds st r h => by cases h⟩
  obtain ⟨_, ρ, ds, st, A, r, h⟩ := h
  exact h.none rfl
theorem rve_start {H : Hp} {ρ : List Addr} : ∀ {vs : List V} {ds : List D}, RvL K H ρ vs ds → ∀ n, RvE K H ρ (vs.map some ++ List.replicate n none) (ds.map some ++ List.replicate n none)
  | _, _, .nil, n => by
    simp only [List.map_nil, List.nil_append]
    induction n with
    | zero => exact .nil
    | succ n ih => exact .hole ih
  | _, _, .cons h r, n => .val h (rve_start r n)
theorem fnOk_body {x qual : Str} {params : Arguments} {body : List Stmt} {scope : Scope} {f : Addr} {fd : FuncData} {ps N : List Str} {lv : Nat} {c : MI.Ctx} (fn : MI.Fn) (F : FunD K x qual params body scope [] [] f fd) (S : FnScope N ps scope) (hb : Binds K fd ps []) (hp : fn.pars = ps.length) (hs : fn.slots = N.length)
    (flds : ∀ k f, c.flds k f = true → NoAttr K (cl k) (sD f) ∧ Cls K (cl k)) (meth : ∀ k m f, c.meth k m = some f → ∃ fA, Meth K (cl k) (sD m) fA ∧ FnT P w K mg base cl lv fA (c.call f))
    (hbody : ∀ (cdv : Value) (A : Around) (outer : List PySem.Env) (s : Shared) (H : Hp) (E : XK), Good (cxOf (L2.CX P w) P w K mg base N qual scope f cdv A outer s H E) (fun cls d _ H => E cls d H) cl c lv →
      PassesOwn (model P w) (cxOf (L2.CX P w) P w K mg base N qual scope f cdv A outer s H E).A (cxOf (L2.CX P w) P w K mg base N qual scope f cdv A outer s H E).env (cxOf (L2.CX P w) P w K mg base N qual scope f cdv A outer s H E).xe →
      MSS (cxOf (L2.CX P w) P w K mg base N qual scope f cdv A outer s H E) cl (EXW K cl fun cls d _ H => E cls d H) c body fn.body) : FnOk P w K mg base (L2.CX P w) (lv + 2) f fd ps (spOf K cl ps.length (fn.run c)) := by
  refine F.ok S (fun vs H Q E h => h.1) (fun cdv A outer s H vs Q E hr h => ?_)
  · have G : Good (cxOf (L2.CX P w) P w K mg base N qual scope f cdv A outer s H E) (fun cls d _ H => E cls d H) cl c lv := ⟨takes_of rfl rfl rfl rfl, hr, rfl, S.nd, flds, meth⟩
    refine ⟨_, hbody cdv A outer s H E G PassesOwn.leaving, ?_⟩
    obtain ⟨hl, ρ, ds, st, A0, r, h⟩ := h
    have hld : ds.length = fn.pars := by rw [hp, ← hl]; exact r.length.symm
    refine ⟨ρ, ds.map some ++ List.replicate (fn.slots - fn.pars) none, st, A0, ?_, ?_⟩
    · have := rve_start r (N.length - vs.length)
      rw [hs, hp, ← hl]
      exact this
    · have run : ∀ rr, fn.run c ds st = some rr → ∃ q, fn.body c (ds.map some ++ List.replicate (fn.slots - fn.pars) none) st = some q ∧ (match q with
          | (.rt d, _, st') => rr = (.ok d, st')
          | (.nx, _, st') => rr = (.ok .non, st')
          | (.ex k fs, _, st') => rr = (.exc k fs, st')
          | _ => False) := fun rr q => by
        unfold MI.Fn.run at q
        rw [if_pos hld] at q
        cases q2 : fn.body c (ds.map some ++ List.replicate (fn.slots - fn.pars) none) st with
        | none => rw [q2] at q; cases q
        | some p =>
          obtain ⟨fl, env', st'⟩ := p
          rw [q2] at q
          refine ⟨_, rfl, ?_⟩
          cases fl <;> first
            | (cases q; rfl)
            | (cases q)
      rcases h with ⟨d, st', q, k⟩ | ⟨kc, fs, st', q, k⟩
      · obtain ⟨q2, e2, m⟩ := run _ q
        rw [e2]
        obtain ⟨fl, env', st2⟩ := q2
        cases fl with
        | rt d' => cases m; exact fun ρ' H' v g A r => k ρ' H' v g A r
        | nx => cases m; exact fun ρ' H' σ' g A r => k ρ' H' .non g A .non
        | bk => exact m.elim
        | ct => exact m.elim
        | ex _ _ => cases m
      · obtain ⟨q2, e2, m⟩ := run _ q
        rw [e2]
        obtain ⟨fl, env', st2⟩ := q2
        cases fl with
        | rt d' => cases m
        | nx => cases m
        | bk => exact m.elim
        | ct => exact m.elim
        | ex k' fs' => cases m; exact fun ρ' H' σ' g A r => fun d x => k ρ' H' g A d x
theorem fnT_body {x qual : Str} {params : Arguments} {body : List Stmt} {scope : Scope} {f : Addr} {fd : FuncData} {ps N : List Str} {lv : Nat} {c : MI.Ctx} (fn : MI.Fn) (F : FunD K x qual params body scope [] [] f fd) (S : FnScope N ps scope) (hb : Binds K fd ps []) (hp : fn.pars = ps.length) (hs : fn.slots = N.length)
    (flds : ∀ k f, c.flds k f = true → NoAttr K (cl k) (sD f) ∧ Cls K (cl k)) (meth : ∀ k m f, c.meth k m = some f → ∃ fA, Meth K (cl k) (sD m) fA ∧ FnT P w K mg base cl lv fA (c.call f))
    (hbody : ∀ (cdv : Value) (A : Around) (outer : List PySem.Env) (s : Shared) (H : Hp) (E : XK), Good (cxOf (L2.CX P w) P w K mg base N qual scope f cdv A outer s H E) (fun cls d _ H => E cls d H) cl c lv →
      PassesOwn (model P w) (cxOf (L2.CX P w) P w K mg base N qual scope f cdv A outer s H E).A (cxOf (L2.CX P w) P w K mg base N qual scope f cdv A outer s H E).env (cxOf (L2.CX P w) P w K mg base N qual scope f cdv A outer s H E).xe →
      MSS (cxOf (L2.CX P w) P w K mg base N qual scope f cdv A outer s H E) cl (EXW K cl fun cls d _ H => E cls d H) c body fn.body) : FnT P w K mg base cl (lv + 2) f (fn.run c) :=
  ⟨fd, ps, fnOk_body fn F S hb hp hs flds meth hbody, hb, F.kp, fun ds st r h => by
    unfold MI.Fn.run at h
    by_cases e : ds.length = fn.pars
    · rw [← hp]; exact e
    · rw [if_neg e] at h; cases h⟩
end
/-! ### the module's names -/
/-- x stands for the value d -/
def ConM (K : PySem.W.Frag) (mg : Str → Option Value) (x : Str) (d : D) : Prop := ∃ u v, mg x = some u ∧ RelV v u ∧ ∀ H ρ, Rv K H ρ v d
structure Mod (P : Program) (w : World) (K : PySem.W.Frag) (mg : Str → Option Value) (base : Heap) (cl : Nat → Addr) (c : MI.Ctx) (lv : Nat) (fns : List (Str × Nat)) (clss : List (Str × Nat × Nat)) (frees : List Str) (cons : List (Str × D)) : Prop where
  fn : ∀ (i : Nat) x f, fns[i]? = some (x, f) → ∃ fA, mg x = some (.ref fA) ∧ FnT P w K mg base cl lv fA (c.call f)
  cl : ∀ (i : Nat) x k f, clss[i]? = some (x, k, f) → mg x = some (.ref (cl k)) ∧ Cls K (cl k) ∧ ∃ fA, Mk K (cl k) fA ∧ FnT P w K mg base cl lv fA (c.call f)
  fr : ∀ (i : Nat) x, frees[i]? = some x → mg x = none
  con : ∀ (i : Nat) x d, cons[i]? = some (x, d) → ConM K mg x d
theorem me_con {X : Cx} {cl : Nat → Addr} {E : EX} {c : MI.Ctx} {x : Str} {d : D} {pos : Pos} (h : ConM X.K X.mg x d) (hg : Gl X x) (hd : (x == ("__debug__" : Str)) = false := by decide +kernel) : ME X cl E c (.Name x pos) (eC d) := by
  obtain ⟨u, v, h1, h2, h3⟩ := h
  exact me_glob hg h1 h2 h3 hd
theorem call_sortedA {X : Cx} : CallR X (.builtin "sorted") (fun vs H Q => rSortedI X.K vs H Q ∨ ∃ (a : Addr) (ns : List Int), vs = [V.ref a] ∧ SqT X.K H a (ns.map V.int) ∧ ∀ (ns' : List Int) (p : Addr), ns'.Perm ns → ns'.Pairwise (· ≤ ·) → H p = none → Q (.ref p) (upd H p (.lst (ns'.map V.int)))) := by
  intro pins s σ H xs us Q I r h
  rcases h with h | h
  · exact cr_sortedI pins s σ H xs us Q I r h
  · exact cr_sortedIT pins s σ H xs us Q I r h
theorem call_sortedAF {X : Cx} : CallR X (.builtin "sorted") (fun vs H Q => rSortedI X.K vs H (fz Q) ∨ ∃ (a : Addr) (ns : List Int), vs = [V.ref a] ∧ SqT X.K H a (ns.map V.int) ∧ ∀ (ns' : List Int) (p : Addr), ns'.Perm ns → ns'.Pairwise (· ≤ ·) → H p = none → fz Q (.ref p) (upd H p (.lst (ns'.map V.int)))) := MS.CallR.fz call_sortedA
theorem call_list_ofF {X : Cx} : CallR X (.type "list") (fun xs H Q => ∃ p ys, xs = [.ref p] ∧ (SqL X.K H p ys ∨ SqT X.K H p ys) ∧ ∀ l, H l = none → fz Q (.ref l) (upd H l (.lst ys))) := MS.CallR.fz call_list_of
theorem B_len : bootBuiltins "len" = some (.builtin "len") := by decide +kernel
theorem B_int : bootBuiltins "int" = some (.type "int") := by decide +kernel
theorem B_abs : bootBuiltins "abs" = some (.builtin "abs") := by decide +kernel
theorem B_tuple : bootBuiltins "tuple" = some (.type "tuple") := by decide +kernel
theorem B_list : bootBuiltins "list" = some (.type "list") := by decide +kernel
theorem B_min : bootBuiltins "min" = some (.builtin "min") := by decide +kernel
theorem B_max : bootBuiltins "max" = some (.builtin "max") := by decide +kernel
theorem B_sum : bootBuiltins "sum" = some (.builtin "sum") := by decide +kernel
theorem B_all : bootBuiltins "all" = some (.builtin "all") := by decide +kernel
theorem B_any : bootBuiltins "any" = some (.builtin "any") := by decide +kernel
theorem B_sorted : bootBuiltins "sorted" = some (.builtin "sorted") := by decide +kernel
/-- the head's Hook: facts, defs, one more word of the written part -/
abbrev AlM : Type := He.AlD × Bool
def obsM (n : Nat) (fa : List He.Fa) (fn : List He.DefD) (ex : PySem.W.Frag → Bool) (g : Addr → Option Obj) : AlM := (He.obsD fa fn (He.frG g (He.asD g n)), ex (He.frG g (He.asD g n)))
def hookM (n : Nat) (fa : List He.Fa) (fn : List He.DefD) (ex : PySem.W.Frag → Bool) : PySem.W.Hook where
  α := AlM
  obs := fun s => obsM n fa fn ex s.heap.get?
  val := fun _ => (He.valD fn, true)
  says := fun _ h => ∃ K : PySem.W.Frag, K.In h ∧ He.SaysD fa fn K ∧ ex K = true
  of := fun _ _ e => ⟨_, He.frG_in, congrArg (fun z : AlM => z.1) e, congrArg (fun z : AlM => z.2) e⟩
  keeps := fun _ _ _ ⟨K, hK, c⟩ k => ⟨K, PySem.W.Frag.In.keeps hK k, c⟩
theorem obsM_eq {n : Nat} {fa : List He.Fa} {fn : List He.DefD} {ex : PySem.W.Frag → Bool} {g : Addr → Option Obj} {s : Shared} (h : ∀ a, g a = s.heap.get? a) : obsM n fa fn ex g = (hookM n fa fn ex).obs s := by
  have e : g = s.heap.get? := funext h
  rw [e] <;> rfl
/-- the script -/
theorem rv_script {K : PySem.W.Frag} {H : Hp} {a : Addr} {ns : List Int} (hO : Only H) (h : SqL K H a (ns.map V.int)) : RvL K H [] [V.ref a] [D.frz (ns.map D.int)] := by
  have hl : ∀ ns : List Int, RvL K H [] (ns.map V.int) (ns.map D.int) := fun ns => by
    induction ns with
    | nil => exact .nil
    | cons x xs ih => exact .cons (.int x) ih
  refine .cons (.frz ?_ (hl ns)) .nil
  rcases h with (h | h) | h
  · rcases hO a with z | ⟨o, xs, z⟩ <;> (rw [z] at h; cases h)
  · exact .inl h
  · exact .inr h
theorem at_none {K : PySem.W.Frag} {cl : Nat → Addr} {H : Hp} : At K cl [] H [] := ⟨rfl, List.nodup_nil, fun n a o h _ => by cases h⟩
/-- the law's promise, from its run -/
theorem sp_law {K : PySem.W.Frag} {cl : Nat → Addr} {g : List D → MI.R D} (pure : ∀ ns : List Int, ns.length ≤ 63 → ∃ st, g [.frz (ns.map D.int)] [] = some (.ok (.bl true), st)) {H : Hp} {a : Addr} {ns : List Int} (hl : ns.length ≤ 63) (hO : Only H) (h : SqL K H a (ns.map V.int)) :
    spOf K cl 1 g [.ref a] H (fun v _ => v = .bl true) fun _ _ _ => False := by
  obtain ⟨st, e⟩ := pure ns hl
  refine ⟨rfl, [], _, [], at_none, rv_script hO h, .inl ⟨_, st, e, fun ρ' H' v _ _ r => ?_⟩⟩
  cases r; rfl
theorem hu1 {X : Cx} {W : WX} {cl : Nat → Addr} {c : MI.Ctx} {lv : Nat} (G : Good X W cl c lv) : X.A.units + 1 < cLine := by
  have := G.hu
  omega
theorem pe_strW {X : Cx} {x : Str} {j : Nat} {pos : Pos} (s : List Nat) (hx : x = sD s := by decide +kernel) : PE X (.Constant (.str x) j pos) (tC (.str (sD s))) := by
  subst hx
  exact pe_str
theorem hu64 {X : Cx} {W : WX} {cl : Nat → Addr} {c : MI.Ctx} {lv : Nat} (G : Good X W cl c lv) : X.A.units + 64 < cLine := by
  have := G.hu
  omega

/-! ### calls that touch no store -/
section
variable {P : Program} {w : World} {K : PySem.W.Frag} {mg : Str → Option Value} {base : Heap} {cl : Nat → Addr}
mutual
theorem rv_lf {H : Hp} {ρ ρ' : List Addr} : ∀ {v : V} {d : D}, D.lf d = true → Rv K H ρ v d → Rv K H ρ' v d
  | _, _, _, .non => .non
  | _, _, _, .bl b => .bl b
  | _, _, _, .int i => .int i
  | _, _, _, .str s => .str s
  | _, _, h, .tup hs r => .tup hs (rvL_lf (by simpa [D.lf] using h) r)
  | _, _, h, .frz hs r => .frz hs (rvL_lf (by simpa [D.lf] using h) r)
  | _, _, h, .xtup hs r => .xtup hs (rvL_lf (by simpa [D.lf] using h) r)
  | _, _, h, .loc _ => by simp [D.lf] at h
theorem rvL_lf {H : Hp} {ρ ρ' : List Addr} : ∀ {vs : List V} {ds : List D}, D.lfL ds = true → RvL K H ρ vs ds → RvL K H ρ' vs ds
  | _, _, _, .nil => .nil
  | _, _, h, .cons r rr => by
    have h' := Bool.and_eq_true_iff.mp (by simpa [D.lfL] using h)
    exact .cons (rv_lf h'.1 r) (rvL_lf h'.2 rr)
end
theorem rvF_lf {H : Hp} {ρ ρ' : List Addr} : ∀ {vs : List (Str × V)} {fs : List (List Nat × D)}, D.lfL (fs.map (·.2)) = true → RvF K H ρ vs fs → RvF K H ρ' vs fs
  | _, _, _, .nil => .nil
  | _, _, h, .cons r rr => by
    have h' := Bool.and_eq_true_iff.mp (by simpa [D.lfL] using h)
    exact .cons (rv_lf h'.1 r) (rvF_lf h'.2 rr)
theorem rvF_nil {H : Hp} {ρ ρ' : List Addr} {fs : List (List Nat × D)} {d : Option Addr} (h : D.lfL (fs.map (·.2)) = true) (x : XD K d H ρ fs) : XD K d H ρ' fs := by
  cases d with
  | none => exact x
  | some a => obtain ⟨vfs, e, r⟩ := x; exact ⟨vfs, e, rvF_lf h r⟩
theorem At.still {ρ : List Addr} {H H' : Hp} {st : Stt} (A : At K cl ρ H st) (fr : ∀ a o, H a = some o → H' a = some o) : At K cl ρ H' st ∧ Grow ρ H ρ H' := by
  have k : Keep K H H' := ⟨fun b vs h => by
      rcases h with (h | ⟨o, h⟩) | h
      · exact .inl (.inl (fr _ _ h))
      · exact .inl (.inr ⟨o, fr _ _ h⟩)
      · exact .inr h, fun b vs h => by
      rcases h with ⟨o, h⟩ | h
      · exact .inl ⟨o, fr _ _ h⟩
      · exact .inr h, fun b vs ⟨o, h, q⟩ => ⟨o, fr _ _ h, q⟩⟩
  refine ⟨⟨A.len, A.nd, fun i a u h1 h2 => ?_⟩, ⟨⟨[], by simp⟩, fun _ h => .inl h, fun a o h _ => fr a o h⟩⟩
  have r := A.obj i a u h1 h2
  have e : H' a = H a := by
    rcases r.mut with ⟨vs, q⟩ | ⟨c, dx, vfs, q⟩ <;> rw [q, fr _ _ q]
  have := r.keep k [] e
  simpa using this
theorem keep_lock {H : Hp} {a : Addr} {vs : List V} {od : Obj} (h : H a = some (.lst vs)) : Keep K H (upd H a (.frz od (.lst vs))) := ⟨fun b us h' => by
    rcases h' with (h' | ⟨o, h'⟩) | h'
    · exact .inl (.inl (by rw [upd_ne (fun e => by rw [e, h] at h'; cases h')]; exact h'))
    · exact .inl (.inr ⟨o, by rw [upd_ne (fun e => by rw [e, h] at h'; cases h')]; exact h'⟩)
    · exact .inr h', fun b us h' => by
    rcases h' with ⟨o, h'⟩ | h'
    · exact .inl ⟨o, by rw [upd_ne (fun e => by rw [e, h] at h'; cases h')]; exact h'⟩
    · exact .inr h', fun b us ⟨o, h', q⟩ => ⟨o, by rw [upd_ne (fun e => by rw [e, h] at h'; cases h')]; exact h', q⟩⟩
theorem hok_lock {H : Hp} {h : Heap} {a : Addr} {vs : List V} (hok : HOk P w H h) (hl : H a = some (.lst vs)) : ∃ od, HOk P w (upd H a (.frz od (.lst vs))) h := by
  have x := hok a _ hl
  obtain ⟨z, its, n, r, e⟩ := id x
  refine ⟨{ cls := .type "list", data := .seq its.toArray n }, fun b o eb => ?_⟩
  by_cases hb : b = a
  · subst hb
    rw [upd_same] at eb
    cases eb
    refine ⟨e, x.stay (fun b v _ q => q) (fun c q => ?_) fun c xs q => ?_⟩
    · rw [upd_ne (fun z => by rw [z, hl] at q; cases q)]; exact q
    · rw [upd_ne (fun z => by rw [z, hl] at q; cases q)]; exact q
  · rw [upd_ne hb] at eb
    refine (hok b o eb).stay (fun b v _ q => q) (fun c q => ?_) fun c xs q => ?_
    · rw [upd_ne (fun z => by rw [z, hl] at q; cases q)]; exact q
    · rw [upd_ne (fun z => by rw [z, hl] at q; cases q)]; exact q
theorem un_lock {fs ex : List Addr} {H H' : Hp} {h h' : Heap} {a : Addr} {vs : List V} {od : Obj} (u : Un fs ex H H' h h') (hl : H' a = some (.lst vs)) : Un fs ex H (upd H' a (.frz od (.lst vs))) h h' where
  keep := u.keep
  slot := u.slot
  free := fun b o q n hx => by
    have z := u.free b o q n hx
    rw [upd_ne (fun e => by rw [e, hl] at z; cases z)]; exact z
  there := u.there
  tups := fun b xs q => by
    have z := u.tups b xs q
    rw [upd_ne (fun e => by rw [e, hl] at z; cases z)]; exact z
  frzs := fun b o v q => by
    have z := u.frzs b o v q
    rw [upd_ne (fun e => by rw [e, hl] at z; cases z)]; exact z
  tbls := fun b ps q => by
    obtain ⟨m, z⟩ := u.tbls b ps q
    exact ⟨m, by rw [upd_ne (fun e => by rw [e, hl] at z; cases z)]; exact z⟩
theorem fn_fz {CX : CXT} {k : Nat} {f : Addr} {fd : FuncData} {ps : List Str} {sp : Sp} (F : FnOk P w K mg base CX k f fd ps sp) : FnOk P w K mg base CX k f fd ps (fun vs H Q E => sp vs H (fz Q) E) :=
  ⟨fun vs H Q E h => F.len _ _ _ _ h, fun A outer s H args us vs Q E hr he hb hv h => codeAny_mono (F.run A outer s H args us vs _ E hr he hb hv h) fun r s' q => by
    cases r with
    | error e => exact q
    | ok fl =>
      cases fl with
      | ret u =>
        obtain ⟨v, H', e1, e2, un, hok, rv, q | ⟨a, us, rfl, hl, q⟩⟩ := q
        · exact ⟨v, H', e1, e2, un, hok, rv, q⟩
        · obtain ⟨od, hok'⟩ := hok_lock hok hl
          exact ⟨_, _, e1, e2, un_lock un hl, hok', rv, q od⟩
      | next => exact q
      | brk => exact q
      | cont => exact q⟩
theorem optC_pos {g : List D → MI.R D} {ds : List D} {st : Stt} (h : D.lfL ds = true) : optC g ds st = (match g ds [] with
  | some (.ok d, st0) => match d with
    | .loc n => match st0[n]? with
      | some (.lst l) => if D.lfL l = true then some (.ok (.frz l), st) else none
      | _ => none
    | d => if D.lf d = true then some (.ok d, st) else none
  | some (.exc k fs, _) => if D.lfL (fs.map (·.2)) = true then some (.exc k fs, st) else none
  | none => none) := by unfold optC; rw [if_pos h] <;> rfl
theorem optC_neg {g : List D → MI.R D} {ds : List D} {st : Stt} (h : ¬ D.lfL ds = true) : optC g ds st = g ds st := by unfold optC; rw [if_neg h]
theorem fnT_opt {lv : Nat} {f : Addr} {g : List D → MI.R D} (F : FnT P w K mg base cl lv f g) : FnT P w K mg base cl lv f (optC g) := by
  obtain ⟨fd, ps, F, hb, hk, ar⟩ := F
  refine ⟨fd, ps, (fn_fz F).imp fun vs H Q E h => ?_, hb, hk, fun ds st r h => ?_⟩
  · obtain ⟨hl, ρ, ds, st, A, r, h⟩ := h
    by_cases hd : D.lfL ds = true
    · refine ⟨hl, [], ds, [], ⟨rfl, List.nodup_nil, fun n a o h _ => by cases h⟩, rvL_lf hd r, ?_⟩
      have eo := optC_pos (g := g) (st := st) hd
      cases e : g ds [] with
      | none =>
        rw [e] at eo
        exact h.none eo
      | some p =>
        obtain ⟨rs, st0⟩ := p
        rw [e] at eo
        cases rs with
        | ok d =>
          refine .inl ⟨d, st0, e, fun ρ' H' v gr A' r' => ?_⟩
          have fr : ∀ a o, H a = some o → H' a = some o := fun a o h => gr.frame a o h (by simp)
          have plain : (∀ n, d ≠ .loc n) → optC g ds st = (if D.lf d = true then some (.ok d, st) else none) → fz Q v H' := fun _ eo => by
            by_cases hf : D.lf d = true
            · rw [if_pos hf] at eo
              obtain ⟨A2, g2⟩ := A.still fr
              exact .inl (h.ok eo g2 A2 (rv_lf hf r'))
            · rw [if_neg hf] at eo
              exact h.none eo
          cases r' with
          | @loc a n ha =>
            cases e1 : st0[n]? with
            | none => exact h.none (by simpa [e1] using eo)
            | some ob =>
              have q1 := A'.get ha e1
              cases q1 with
              | @lst us l hH rl =>
                by_cases hf : D.lfL l = true
                · have eo' : optC g ds st = some (.ok (.frz l), st) := by simpa [e1, hf] using eo
                  refine .inr ⟨a, us, rfl, hH, fun od => ?_⟩
                  have nH : H a = none := by
                    rcases gr.new a (List.mem_of_getElem? ha) with z | z
                    · simp at z
                    · exact z
                  obtain ⟨A2, g2⟩ := A.still (H' := upd H' a (.frz od (.lst us))) fun b o hb => by
                    rw [upd_ne (fun z => by rw [z, nH] at hb; cases hb)]; exact fr b o hb
                  have kk : Keep K H' (upd H' a (.frz od (.lst us))) := keep_lock hH
                  exact h.ok eo' g2 A2 (.frz (.inl ⟨od, upd_same⟩) (rvL_lf hf (by have := rl.keep kk []; exact this)))
                · exact h.none (by simpa [e1, hf] using eo)
              | _ => exact h.none (by simpa [e1] using eo)
          | non => exact plain (fun _ z => nomatch z) eo
          | bl _ => exact plain (fun _ z => nomatch z) eo
          | int _ => exact plain (fun _ z => nomatch z) eo
          | str _ => exact plain (fun _ z => nomatch z) eo
          | tup _ _ => exact plain (fun _ z => nomatch z) eo
          | frz _ _ => exact plain (fun _ z => nomatch z) eo
          | xtup _ _ => exact plain (fun _ z => nomatch z) eo
        | exc k fs =>
          refine .inr ⟨k, fs, st0, e, fun ρ' H' gr A' => ?_⟩
          have fr : ∀ a o, H a = some o → H' a = some o := fun a o h => gr.frame a o h (by simp)
          replace eo : optC g ds st = (if D.lfL (fs.map (·.2)) = true then some (.exc k fs, st) else none) := eo
          by_cases hf : D.lfL (fs.map (·.2)) = true
          · obtain ⟨A2, g2⟩ := A.still fr
            rw [if_pos hf] at eo
            rcases h with ⟨d, st', e2, _⟩ | ⟨k2, fs2, st', e2, kk⟩
            · rw [eo] at e2; cases e2
            · rw [eo] at e2
              cases e2
              exact fun d x => kk ρ H' g2 A2 d (rvF_nil hf x)
          · rw [if_neg hf] at eo
            exact h.none eo
    · exact ⟨hl, ρ, ds, st, A, r, (h.eq (optC_neg hd)).imp fun v H q => .inl q⟩
  · by_cases hd : D.lfL ds = true
    · rw [optC_pos hd] at h
      cases e : g ds [] with
      | none => rw [e] at h; cases h
      | some p => exact ar _ _ _ e
    · rw [optC_neg hd] at h; exact ar _ _ _ h
end
/-! ### lists of claims -/
def AllI {α : Type} (p : Nat → α → Prop) : Nat → List α → Prop
  | _, [] => True
  | k, x :: l => p k x ∧ AllI p (k + 1) l
theorem AllI.get {α : Type} {p : Nat → α → Prop} : ∀ {l : List α} {k i : Nat} {x : α}, AllI p k l → l[i]? = some x → p (k + i) x
  | [], _, _, _, _, h => by simp at h
  | y :: l, k, 0, x, h, e => by simp at e; subst e; exact h.1
  | y :: l, k, i + 1, x, h, e => by
    have := AllI.get (i := i) h.2 (by simpa using e)
    rw [show k + (i + 1) = k + 1 + i by omega]
    exact this
theorem AllI.mem {α : Type} {p : Nat → α → Prop} {l : List α} {k : Nat} (h : AllI p k l) {x : α} (m : x ∈ l) : ∃ i, p i x := by
  obtain ⟨i, hi, e⟩ := List.getElem_of_mem m
  exact ⟨k + i, h.get (i := i) (by rw [List.getElem?_eq_getElem hi, e])⟩
theorem meth_of {p : MI.Prog} {q : Nat → List Nat → Nat → Prop} (h : AllI (fun _ x => q x.1 x.2.1 x.2.2) 0 p.meths) (k : Nat) (m : List Nat) (f : Nat) (e : p.meth k m = some f) : q k m f := by
  unfold MI.Prog.meth at e
  obtain ⟨x, hx, e2⟩ := Option.map_eq_some_iff.mp e
  obtain ⟨i, hi⟩ := h.mem (List.mem_of_find?_eq_some hx)
  have h1 := List.find?_some hx
  simp only [Bool.and_eq_true, beq_iff_eq] at h1
  rw [← h1.1, ← h1.2, ← e2]; exact hi
theorem fld_of {p : MI.Prog} {q : Nat → List Nat → Prop} (h : AllI (fun _ x => q x.1 x.2) 0 p.flds) (k : Nat) (f : List Nat) (e : p.fld k f = true) : q k f := by
  unfold MI.Prog.fld at e
  obtain ⟨x, hx, e2⟩ := List.any_eq_true.mp e
  obtain ⟨i, hi⟩ := h.mem hx
  simp only [Bool.and_eq_true, beq_iff_eq] at e2
  rw [← e2.1, ← e2.2]; exact hi
theorem call_zero (p : MI.Prog) (fuel f : Nat) : p.call fuel 0 f = fun _ => MI.fail := by unfold MI.Prog.call; rfl
theorem call_some {p : MI.Prog} {fuel n f : Nat} {fn : MI.Fn} (h : p.fns[f]? = some fn) : p.call fuel (n + 1) f = (if p.pures.contains f = true then optC (fn.run ⟨p.call fuel n, p.meth, p.fld, fuel⟩) else fn.run ⟨p.call fuel n, p.meth, p.fld, fuel⟩) := by
  rw [MI.Prog.call, h]
section
variable {P : Program} {w : World} {K : PySem.W.Frag} {mg : Str → Option Value} {base : Heap} {cl : Nat → Addr}
theorem fnT_call {lv fuel n f : Nat} {p : MI.Prog} {fn : MI.Fn} {fA : Addr} (h : p.fns[f]? = some fn) (F : FnT P w K mg base cl lv fA (fn.run ⟨p.call fuel n, p.meth, p.fld, fuel⟩)) : FnT P w K mg base cl lv fA (p.call fuel (n + 1) f) := by
  rw [call_some h]
  by_cases e : p.pures.contains f = true
  · rw [if_pos e]; exact fnT_opt F
  · rw [if_neg e]; exact F
end
theorem cx_none {P : Program} {w : World} {outer : List PySem.Env} {H : Hp} {s : Shared} {e : Value} {s' : Shared} (h : L2.CX P w outer H s (fun _ _ _ => False) e s') : False := by
  obtain ⟨_, _, _, _, _, _, _, _, _, _, _, _, z⟩ := h
  exact z
theorem fnOk_none {P : Program} {w : World} {K : PySem.W.Frag} {mg : Str → Option Value} {base : Heap} {k : Nat} {f : Addr} {fd : FuncData} {ps : List Str} {sp : Sp} (F : FnOk P w K mg base (L2.CX P w) k f fd ps sp) : FnOk P w K mg base CX0 k f fd ps (fun vs H Q _ => sp vs H Q fun _ _ _ => False) :=
  ⟨fun vs H Q E h => F.len _ _ _ _ h, fun A outer s H args us vs Q E hr he hb hv h => codeAny_mono (F.run A outer s H args us vs Q _ hr he hb hv h) fun r s' q => by
    cases r with
    | error e => exact (cx_none q).elim
    | ok fl => cases fl <;> exact q⟩
end MS

set_option autoImplicit false
set_option maxRecDepth 100000
/-! PL: plain laws of MI. -/
namespace MI
theorem forL_inv {l : List D} {T : D → Env → Stt → Option (Fl × Env × Stt)} {P : Nat → Env → Stt → Prop} (step : ∀ i d env st, l[i]? = some d → P i env st → ∃ env' st', T d env st = some (.nx, env', st') ∧ P (i + 1) env' st') :
    ∀ (fuel i : Nat) (env : Env) (st : Stt), l.length < i + fuel → i ≤ l.length → P i env st → ∃ env' st', forL (.items l) T fuel i env st = some (.nx, env', st') ∧ P l.length env' st'
  | 0, i, env, st, h1, h2, _ => by omega
  | fuel + 1, i, env, st, h1, h2, p => by
    unfold forL
    by_cases hi : i < l.length
    · have e : l[i]? = some l[i] := List.getElem?_eq_getElem hi
      obtain ⟨env', st', q, p'⟩ := step i _ env st e p
      obtain ⟨env2, st2, q2, p2⟩ := forL_inv step fuel (i + 1) env' st' (by omega) (by omega) p'
      exact ⟨env2, st2, by simp only [srcAt, e, q]; exact q2, p2⟩
    · have e : l[i]? = none := List.getElem?_eq_none_iff.mpr (by omega)
      have hi' : i = l.length := by omega
      subst hi'
      exact ⟨env, st, by simp only [srcAt, e], p⟩
end MI

set_option autoImplicit false
set_option maxRecDepth 100000
/-! PL2: the laws' pen. -/
namespace MI
def q_pen : SS :=
  (sRet (eLst (lCons (eUn bListF (eSlc (eVar 0) oNone (oSome (eC (.int 63))))) (lCons (eC (.int 0)) (lCons (eC (.int 0)) lNil)))))
def fresh_body : SS := (sSeq (sSet 4 (eBin opMod (eUn bInt (eBin opAdd (eBin opAdd (eBin opMul (eVar 4) (eVar 4)) (eBin opMul (eBin opMul (eC (.int 69621)) (eBin opAdd (eVar 6) (eC (.int 1)))) (eBin opAdd (eVar 1) (eC (.int 1))))) (eVar 2))) (eVar 3)))
      (sSet 5 (eBin opAdd (eBin opMul (eVar 5) (eVar 3)) (eVar 4))))
def q_fresh : SS :=
  (sSeq (sSet 1 (eBin opIx (eVar 0) (eC (.int 1))))
  (sSeq (sAsg (gSub (eVar 0) (eC (.int 1))) (eBin opAdd (eVar 1) (eC (.int 1))))
  (sSeq (sSet 2 (eC (.int 0)))
  (sSeq (sIf (cB (eBin opNe (eBin opIx (eVar 0) (eC (.int 0))) (eLstF lNil)))
  (sSet 2 (eBin opIx (eBin opIx (eVar 0) (eC (.int 0))) (eBin opMod (eUn bInt (eVar 1)) (eUn bLen (eBin opIx (eVar 0) (eC (.int 0)))))))
  sPass)
  (sSeq (sIf (cAnd (cB (eBin opLt (eVar 1) (eUn bLen (eBin opIx (eVar 0) (eC (.int 0)))))) (cB (eBin opGe (eVar 2) (eBin opPow (eC (.int 10)) (eC (.int 18))))))
  (sRet (eBin opSub (eVar 2) (eBin opPow (eC (.int 10)) (eC (.int 18)))))
  sPass)
  (sSeq (sSet 3 (eC (.int 2305843009213693951)))
  (sSeq (sSet 4 (eBin opMod (eUn bInt (eBin opAdd (eBin opAdd (eBin opMul (eVar 2) (eC (.int 48271))) (eBin opMul (eC (.int 40692)) (eVar 1))) (eC (.int 31)))) (eVar 3)))
  (sSeq (sSet 5 (eVar 4))
  (sSeq (sFor (gVar 6) (iRange1 (eC (.int 6))) fresh_body)
  (sRet (eVar 5)))))))))))
def q_draw (F : Nat) : SS :=
  (sSeq (sIf (cB (eBin opLt (eBin opIx (eVar 0) (eC (.int 2))) (eVar 1)))
  (sAsg (gSub (eVar 0) (eC (.int 2))) (eCall F (lCons (eVar 0) lNil)))
  sPass)
  (sSeq (sSet 2 (eBin opMod (eUn bInt (eBin opIx (eVar 0) (eC (.int 2)))) (eVar 1)))
  (sSeq (sAsg (gSub (eVar 0) (eC (.int 2))) (eBin opDiv (eUn bInt (eBin opIx (eVar 0) (eC (.int 2)))) (eVar 1)))
  (sRet (eVar 2)))))
/-- the pen as it stands -/
def penO (xs : List Int) (a q : Int) : Ob := .lst [.frz (xs.map D.int), .int a, .int q]
theorem seq_nx {a b : SS} {c : Ctx} {env env' : Env} {st st' : Stt} (h : a c env st = some (.nx, env', st')) : sSeq a b c env st = b c env' st' := by unfold sSeq; rw [h]
theorem seq_rt {a b : SS} {c : Ctx} {env env' : Env} {st st' : Stt} {d : D} (h : a c env st = some (.rt d, env', st')) : sSeq a b c env st = some (.rt d, env', st') := by unfold sSeq; rw [h]
theorem okL_ints (n : Nat) : ∀ xs : List Int, D.okL n (xs.map D.int) = true
  | [] => by simp [D.okL]
  | x :: xs => by simp [D.okL, D.ok, okL_ints n xs]
theorem big_eq : big = 18446744073709551616 := rfl
theorem ixN_ofNat {n k : Nat} (h : k < n) : ixN n (k : Int) = some k := by
  unfold ixN
  rw [if_pos (by omega), if_pos (by omega)]; simp
theorem fresh_cell (c : Ctx) (xs : List Int) (hx : xs.length < lim) (a q : Int) (rest : Stt) : ∃ v, (sIf (cB (eBin opNe (eBin opIx (eVar 0) (eC (.int 0))) (eLstF lNil)))
      (sSet 2 (eBin opIx (eBin opIx (eVar 0) (eC (.int 0))) (eBin opMod (eUn bInt (eVar 1)) (eUn bLen (eBin opIx (eVar 0) (eC (.int 0)))))))
      sPass) c [some (.loc 0), some (.int a), some (.int 0), none, none, none, none] (penO xs (a + 1) q :: rest) = some (.nx, [some (.loc 0), some (.int a), some (.int v), none, none, none, none], penO xs (a + 1) q :: rest) := by
    cases xs with
    | nil => exact ⟨0, by simp [sIf, sBnd, bnd, cB, eBin, eVar, eC, ret, opIx, penO, ixN, eLstF, lNil, opNe, eqD, dat, D.ok, D.okL, D.eqv, D.eqvL, sPass]⟩
    | cons x xs =>
      have hl : 0 < ((x :: xs).length : Int) := by simp
      have hm := Int.emod_nonneg a (Int.ne_of_gt hl)
      have hm2 := Int.emod_lt_of_pos a hl
      obtain ⟨k, hk⟩ := Int.eq_ofNat_of_zero_le hm
      have hk2 : k < (x :: xs).length := by omega
      refine ⟨(x :: xs)[k], ?_⟩
      have e1 : ixN ((x :: xs).map D.int).length (a % ((x :: xs).length : Int)) = some k := by
        rw [hk, List.length_map]; exact ixN_ofNat hk2
      have e2 : ((x :: xs).map D.int)[k]? = some (.int (x :: xs)[k]) := by
        rw [List.getElem?_map, List.getElem?_eq_getElem hk2]; rfl
      have e3 : D.okL 39 ((x :: xs).map D.int) = true := okL_ints _ _
      have e4 : (x :: xs).length < lim := hx
      generalize hX : (x :: xs).map D.int = X at *
      have lX : X.length = (x :: xs).length := by rw [← hX, List.length_map]
      have hne : D.eqvL X [] = false := by rw [← hX]; rfl
      have hm0 : 0 < X.length := by rw [lX]; simp
      have hXl : X.length < lim := by rw [lX]; exact e4
      have hp : penO (x :: xs) (a + 1) q = .lst [.frz X, .int (a + 1), .int q] := by unfold penO; rw [hX]
      have e1' : ixN X.length (a % (X.length : Int)) = some k := by rw [lX]; rw [lX] at e1; exact e1
      have t1 : (cB (eBin opNe (eBin opIx (eVar 0) (eC (.int 0))) (eLstF lNil))) c [some (.loc 0), some (.int a), some (.int 0), none, none, none, none] (.lst [.frz X, .int (a + 1), .int q] :: rest) = some (.ok true, .lst [.frz X, .int (a + 1), .int q] :: rest) := by
        simp [bnd, cB, eBin, eVar, eC, ret, opIx, ixN, eLstF, lNil, opNe, eqD, dat, D.ok, e3, D.okL, D.eqv, hne, hXl]
      have t2 : (sSet 2 (eBin opIx (eBin opIx (eVar 0) (eC (.int 0))) (eBin opMod (eUn bInt (eVar 1)) (eUn bLen (eBin opIx (eVar 0) (eC (.int 0))))))) c [some (.loc 0), some (.int a), some (.int 0), none, none, none, none] (.lst [.frz X, .int (a + 1), .int q] :: rest) = some (.nx, [some (.loc 0), some (.int a), some (.int (x :: xs)[k]), none, none, none, none], .lst [.frz X, .int (a + 1), .int q] :: rest) := by
        have e0 : ixN 3 0 = some 0 := rfl
        simp [sSet, sBnd, bnd, eBin, eUn, eVar, eC, ret, opIx, bLen, bInt, opMod, hm0, e0, e1', e2]
      rw [hp]
      unfold sIf sBnd
      rw [t1]
      exact t2
theorem e18 : (10 : Int) ^ 18 = 1000000000000000000 := by decide
theorem pow18 (st : Stt) : opPow (.int 10) (.int 18) st = some (.ok (.int 1000000000000000000), st) := by
  show (if (0 : Int) ≤ 18 ∧ (18 : Int) ≤ 100 ∧ -big < (10 : Int) ∧ (10 : Int) < big then some (Rs.ok (D.int ((10 : Int) ^ (18 : Int).toNat)), st) else none) = _
  rw [if_pos (by decide)]
  show some (Rs.ok (D.int ((10 : Int) ^ 18)), st) = _
  rw [e18]
theorem pow18e (c : Ctx) (env : Env) (st : Stt) : eBin opPow (eC (.int 10)) (eC (.int 18)) c env st = some (.ok (.int 1000000000000000000), st) := pow18 st
theorem and_run {a b : ST} {c : Ctx} {env : Env} {st : Stt} {x y : Bool} (h1 : a c env st = some (.ok x, st)) (h2 : b c env st = some (.ok y, st)) : cAnd a b c env st = some (.ok (x && y), st) := by
  unfold cAnd bnd
  rw [h1]
  cases x with
  | false => rfl
  | true => exact h2
theorem fresh_tst (c : Ctx) (xs : List Int) (a q v : Int) (rest : Stt) : (cAnd (cB (eBin opLt (eVar 1) (eUn bLen (eBin opIx (eVar 0) (eC (.int 0)))))) (cB (eBin opGe (eVar 2) (eBin opPow (eC (.int 10)) (eC (.int 18)))))) c [some (.loc 0), some (.int a), some (.int v), none, none, none, none] (penO xs (a + 1) q :: rest) = some (.ok (decide (a < (xs.length : Int)) && decide ((1000000000000000000 : Int) ≤ v)), penO xs (a + 1) q :: rest) := by
  refine and_run ?_ ?_
  · simp [bnd, cB, eBin, eUn, eVar, eC, ret, opIx, penO, ixN, bLen, opLt]
  · show (bnd (bnd (eVar 2 c _) fun x => bnd (eBin opPow (eC (.int 10)) (eC (.int 18)) c _) fun y => opGe x y) fun x => match x with | .bl b => ret b | _ => fail) _ = _
    have e2 : eVar 2 c [some (.loc 0), some (.int a), some (.int v), none, none, none, none] (penO xs (a + 1) q :: rest) = some (.ok (.int v), penO xs (a + 1) q :: rest) := rfl
    unfold bnd
    rw [e2]
    simp only [pow18e]
    rfl
def fEnv (a v p s f : Int) (t : Option D) : Env := [some (.loc 0), some (.int a), some (.int v), some (.int p), some (.int s), some (.int f), t]
theorem mul_run {x y : Int} (st : Stt) (h : (-big < x ∧ x < big) ∨ (-big < y ∧ y < big)) : opMul (.int x) (.int y) st = some (.ok (.int (x * y)), st) := by
  show (if (-big < x ∧ x < big) ∨ (-big < y ∧ y < big) then _ else _) = _
  rw [if_pos h]
theorem mod_run {x y : Int} (st : Stt) (h : 0 < y) : opMod (.int x) (.int y) st = some (.ok (.int (x % y)), st) := by
  show (if 0 < y then _ else _) = _
  rw [if_pos h]
theorem bnd_ok {α β : Type} {x : R α} {f : α → R β} {st st1 : Stt} {a : α} (h : x st = some (.ok a, st1)) : bnd x f st = f a st1 := by unfold bnd; rw [h]
theorem bin_run {f : D → D → R D} {a b : SE} {c : Ctx} {env : Env} {st st1 st2 : Stt} {x y : D} {r : Option (Rs D × Stt)} (h1 : a c env st = some (.ok x, st1)) (h2 : b c env st1 = some (.ok y, st2)) (h3 : f x y st2 = r) : eBin f a b c env st = r := by
  unfold eBin
  rw [bnd_ok h1, bnd_ok h2]
  exact h3
theorem un_run {f : D → R D} {a : SE} {c : Ctx} {env : Env} {st st1 : Stt} {x : D} {r : Option (Rs D × Stt)} (h1 : a c env st = some (.ok x, st1)) (h3 : f x st1 = r) : eUn f a c env st = r := by
  unfold eUn bnd
  rw [h1]
  exact h3
theorem var_run {i : Nat} {c : Ctx} {env : Env} {st : Stt} {x : D} (h : env[i]? = some (some x)) : eVar i c env st = some (.ok x, st) := by
  unfold eVar
  rw [h]
theorem set_run {i : Nat} {e : SE} {c : Ctx} {env : Env} {st st' : Stt} {x : D} (h : e c env st = some (.ok x, st')) (hi : i < env.length) : sSet i e c env st = some (.nx, env.set i (some x), st') := by
  unfold sSet sBnd
  rw [h]
  show (if i < env.length then _ else _) = _
  rw [if_pos hi]
theorem fresh_turn (c : Ctx) (a v p s f : Int) (i : Nat) (hi : i < 6) (t : Option D) (p0 : 0 < p) (p1 : p < big) (h0 : 0 ≤ s) (h1 : s < p) (st : Stt) :
    turnOf (gVar 6) fresh_body c (.int i) (fEnv a v p s f t) st = some (.nx, fEnv a v p ((s * s + 69621 * ((i : Int) + 1) * (a + 1) + v) % p) (f * p + (s * s + 69621 * ((i : Int) + 1) * (a + 1) + v) % p) (some (.int i)), st) := by
  have hb : big = 18446744073709551616 := rfl
  show fresh_body c (fEnv a v p s f (some (.int i))) st = _
  unfold fresh_body
  refine (seq_nx (set_run (bin_run (un_run (bin_run (bin_run (bin_run (var_run rfl) (var_run rfl) (mul_run _ (.inl (by omega)))) (bin_run (bin_run (st2 := st) (x := .int 69621) rfl (bin_run (x := .int i) (y := .int 1) (var_run rfl) rfl rfl) (mul_run _ (.inl (by omega)))) (bin_run (x := .int a) (y := .int 1) (var_run rfl) rfl rfl) (mul_run _ (.inl (by omega)))) rfl) (var_run rfl) rfl) rfl) (var_run rfl) (mod_run _ p0)) (by show 4 < 7; decide))).trans ?_
  exact set_run (bin_run (bin_run (var_run rfl) (var_run rfl) (mul_run _ (.inr (by omega)))) (var_run rfl) rfl) (by show 5 < 7; decide)
theorem fresh_loop (c : Ctx) (hf : 6 < c.fuel) (a v p s0 f0 : Int) (p0 : 0 < p) (p1 : p < big) (b0 : 0 ≤ s0) (b1 : s0 < p) (t : Option D) (st : Stt) :
    ∃ s f t', sFor (gVar 6) (iRange1 (eC (.int 6))) fresh_body c (fEnv a v p s0 f0 t) st = some (.nx, fEnv a v p s f t', st) := by
  have hsrc : (iRange1 (eC (.int 6))) c (fEnv a v p s0 f0 t) st = some (.ok (.items (rangeL 0 6)), st) := by
    show (if -(lim : Int) < 6 ∧ (6 : Int) < lim then ret (Src.items (rangeL 0 6)) else fail) st = _
    rw [if_pos (by decide)]
    rfl
  unfold sFor sBnd
  rw [hsrc]
  obtain ⟨env', st', e, s, f, t, q1, q2, q3, q4⟩ := forL_inv (l := rangeL 0 6) (P := fun i env st' => ∃ s f t, 0 ≤ s ∧ s < p ∧ env = fEnv a v p s f t ∧ st' = st) (T := turnOf (gVar 6) fresh_body c) (fun i d env st' hd ⟨s, f, t, q1, q2, q3, q4⟩ => by
    subst q3 q4
    have hi : i < 6 := (List.getElem?_eq_some_iff.mp hd).1
    have hdv : d = .int (i : Int) := by
      have : (rangeL 0 6)[i]? = some (.int (i : Int)) := by
        unfold rangeL
        rw [List.getElem?_map]
        simp [hi]
      rw [this] at hd; cases hd; rfl
    subst hdv
    exact ⟨_, _, fresh_turn c a v p s f i hi t p0 p1 q1 q2 _, _, _, _, Int.emod_nonneg _ (by omega), Int.emod_lt_of_pos _ p0, rfl, rfl⟩) c.fuel 0 _ st (by show 6 < 0 + c.fuel; omega) (Nat.zero_le _) ⟨s0, f0, t, b0, b1, rfl, rfl⟩
  subst q3 q4
  exact ⟨s, f, t, e⟩
theorem fresh_run (c : Ctx) (hf : 6 < c.fuel) (xs : List Int) (hx : xs.length < lim) (a q : Int) (rest : Stt) :
    ∃ v env', q_fresh c [some (.loc 0), none, none, none, none, none, none] (penO xs a q :: rest) = some (.rt (.int v), env', penO xs (a + 1) q :: rest) := by
  unfold q_fresh
  rw [seq_nx (env' := [some (.loc 0), some (.int a), none, none, none, none, none]) (st' := penO xs a q :: rest) (by
    simp [sSet, sBnd, bnd, eBin, eVar, eC, ret, opIx, penO, ixN])]
  rw [seq_nx (env' := [some (.loc 0), some (.int a), none, none, none, none, none]) (st' := penO xs (a + 1) q :: rest) (by
    simp [sAsg, gSub, gBnd, putIx, setIx, sBnd, bnd, eBin, eVar, eC, ret, opAdd, penO, ixN])]
  rw [seq_nx (env' := [some (.loc 0), some (.int a), some (.int 0), none, none, none, none]) (st' := penO xs (a + 1) q :: rest) (by
    simp [sSet, sBnd, eC, ret])]
  obtain ⟨v, hv⟩ := fresh_cell c xs hx a q rest
  rw [seq_nx hv]
  have tst := fresh_tst c xs a q v rest
  by_cases hb : (decide (a < (xs.length : Int)) && decide ((1000000000000000000 : Int) ≤ v)) = true
  · refine ⟨v - 1000000000000000000, _, seq_rt (env' := [some (.loc 0), some (.int a), some (.int v), none, none, none, none]) ?_⟩
    unfold sIf sBnd
    rw [tst, hb]
    show sRet _ c _ _ = _
    unfold sRet sBnd eBin bnd
    have e2 : eVar 2 c [some (.loc 0), some (.int a), some (.int v), none, none, none, none] (penO xs (a + 1) q :: rest) = some (.ok (.int v), penO xs (a + 1) q :: rest) := rfl
    rw [e2]
    simp only [eC, ret, pow18]
    rfl
  · have hb' : (decide (a < (xs.length : Int)) && decide ((1000000000000000000 : Int) ≤ v)) = false := by simpa using hb
    rw [seq_nx (env' := [some (.loc 0), some (.int a), some (.int v), none, none, none, none]) (st' := penO xs (a + 1) q :: rest) (by
      unfold sIf sBnd
      rw [tst, hb']
      rfl)]
    rw [seq_nx (env' := [some (.loc 0), some (.int a), some (.int v), some (.int 2305843009213693951), none, none, none]) (st' := penO xs (a + 1) q :: rest) (by
      simp [sSet, sBnd, eC, ret])]
    have p0 : (0 : Int) < 2305843009213693951 := by decide
    have p1 : (2305843009213693951 : Int) < big := by decide
    have hb2 : -big < (48271 : Int) ∧ (48271 : Int) < big := by decide
    have hb3 : -big < (40692 : Int) ∧ (40692 : Int) < big := by decide
    generalize (2305843009213693951 : Int) = p at p0 p1 ⊢
    have b0 := Int.emod_nonneg (v * 48271 + 40692 * a + 31) (Int.ne_of_gt p0)
    have b1 := Int.emod_lt_of_pos (v * 48271 + 40692 * a + 31) p0
    generalize hs0 : (v * 48271 + 40692 * a + 31) % p = s0 at b0 b1
    rw [seq_nx (env' := [some (.loc 0), some (.int a), some (.int v), some (.int p), some (.int s0), none, none]) (st' := penO xs (a + 1) q :: rest) (by
      rw [← hs0]
      exact set_run (bin_run (un_run (bin_run (bin_run (bin_run (y := .int 48271) (var_run rfl) rfl (mul_run _ (.inr hb2))) (bin_run (x := .int 40692) rfl (var_run rfl) (mul_run _ (.inl hb3))) rfl) (y := .int 31) rfl rfl) rfl) (var_run rfl) (mod_run _ p0)) (by show 4 < 7; decide))]
    rw [seq_nx (env' := fEnv a v p s0 s0 none) (st' := penO xs (a + 1) q :: rest) (set_run (var_run rfl) (by show 5 < 7; decide))]
    obtain ⟨s, f, t, hl⟩ := fresh_loop c hf a v p s0 s0 p0 p1 b0 b1 none (penO xs (a + 1) q :: rest)
    rw [seq_nx hl]
    refine ⟨f, fEnv a v p s f t, ?_⟩
    unfold sRet sBnd
    rw [var_run (x := .int f) rfl]
/-- a call of a def: its body, run -/
theorem run_rt {fn : Fn} {c : Ctx} {ds : List D} {st st' : Stt} {d : D} {env' : Env} (hl : ds.length = fn.pars) (h : fn.body c (ds.map some ++ List.replicate (fn.slots - fn.pars) none) st = some (.rt d, env', st')) : fn.run c ds st = some (.ok d, st') := by
  unfold Fn.run
  rw [if_pos hl, h]
theorem draw_run (c : Ctx) (F : Nat) (xs : List Int) (many : Int) (h0 : 0 < many) (h1 : many < 1073741824) (a q : Int) (rest : Stt)
    (hF : ∃ v, c.call F [.loc 0] (penO xs a q :: rest) = some (.ok (.int v), penO xs (a + 1) q :: rest)) :
    ∃ m a' q' env', 0 ≤ m ∧ m < many ∧ q_draw F c [some (.loc 0), some (.int many), none] (penO xs a q :: rest) = some (.rt (.int m), env', penO xs a' q' :: rest) := by
  unfold q_draw
  have first : ∃ a' q', (sIf (cB (eBin opLt (eBin opIx (eVar 0) (eC (.int 2))) (eVar 1)))
      (sAsg (gSub (eVar 0) (eC (.int 2))) (eCall F (lCons (eVar 0) lNil))) sPass) c [some (.loc 0), some (.int many), none] (penO xs a q :: rest) = some (.nx, [some (.loc 0), some (.int many), none], penO xs a' q' :: rest) := by
    by_cases h : q < many
    · obtain ⟨v, hv⟩ := hF
      refine ⟨a + 1, v, ?_⟩
      have t1 : (cB (eBin opLt (eBin opIx (eVar 0) (eC (.int 2))) (eVar 1))) c [some (.loc 0), some (.int many), none] (penO xs a q :: rest) = some (.ok true, penO xs a q :: rest) := by
        simp [bnd, cB, eBin, eVar, eC, ret, opIx, penO, ixN, opLt, h]
      have t2 : (eCall F (lCons (eVar 0) lNil)) c [some (.loc 0), some (.int many), none] (penO xs a q :: rest) = some (.ok (.int v), penO xs (a + 1) q :: rest) := by
        simp [eCall, lCons, lNil, bnd, eVar, ret]
        exact hv
      unfold sIf sBnd
      rw [t1]
      show sAsg _ _ c _ _ = _
      unfold sAsg sBnd
      rw [t2]
      simp [gSub, gBnd, putIx, setIx, eVar, eC, ret, penO, ixN]
    · refine ⟨a, q, ?_⟩
      have t1 : (cB (eBin opLt (eBin opIx (eVar 0) (eC (.int 2))) (eVar 1))) c [some (.loc 0), some (.int many), none] (penO xs a q :: rest) = some (.ok false, penO xs a q :: rest) := by
        simp [bnd, cB, eBin, eVar, eC, ret, opIx, penO, ixN, opLt, h]
      unfold sIf sBnd
      rw [t1]
      rfl
  obtain ⟨a', q', hf⟩ := first
  rw [seq_nx hf]
  rw [seq_nx (env' := [some (.loc 0), some (.int many), some (.int (q' % many))]) (st' := penO xs a' q' :: rest) (by
    simp [sSet, sBnd, bnd, eBin, eUn, eVar, eC, ret, opIx, penO, ixN, bInt, opMod, h0])]
  rw [seq_nx (env' := [some (.loc 0), some (.int many), some (.int (q' % many))]) (st' := penO xs a' (q' / many) :: rest) (by
    simp [sAsg, gSub, gBnd, putIx, setIx, sBnd, bnd, eBin, eUn, eVar, eC, ret, opIx, opDiv, bInt, penO, ixN, h0, h1])]
  exact ⟨q' % many, a', q' / many, [some (.loc 0), some (.int many), some (.int (q' % many))], Int.emod_nonneg _ (by omega), Int.emod_lt_of_pos _ h0, by simp [sRet, sBnd, eVar]⟩
theorem pen_run (c : Ctx) (xs : List Int) (hx : xs.length ≤ 63) : q_pen c [some (.frz (xs.map D.int))] [] = some (.rt (.loc 0), [some (.frz (xs.map D.int))], [penO xs 0 0]) := by
  have e : cut (xs.map D.int) none (some 63) = xs.map D.int := by
    unfold cut clampI
    simp only [Option.map_none, Option.getD_none, Option.map_some, Option.getD_some, List.length_map, List.drop_zero]
    rw [if_neg (by decide)]
    exact List.take_of_length_le (by rw [List.length_map]; show xs.length ≤ min 63 xs.length; omega)
  have hl : xs.length < lim := by have : lim = 16777216 := rfl; omega
  have h3 : 3 < lim := by decide
  simp [q_pen, sRet, sBnd, eLst, lCons, lNil, bnd, eUn, bListF, eSlc, eVar, oNone, oSome, eC, ret, opSlc, e, seqOf, hl, h3, new, penO]
end MI

set_option autoImplicit false
/-! MI1: more of the pure interpreter. -/
namespace MI
def dedI : List Int → List Int
  | [] => []
  | x :: r => if x ∈ r then dedI r else x :: dedI r
/-- sorted(set(ints)), a list that nobody changes -/
def bSorS (x : D) : R D := bnd (seqOf x) fun l => match ints? l with
  | some r => if r.length < 64 then ret (.frz ((sortI (dedI r)).map D.int)) else fail
  | none => fail
theorem mem_dedI {k : Int} : ∀ {l : List Int}, k ∈ dedI l ↔ k ∈ l
  | [] => Iff.rfl
  | x :: r => by
    unfold dedI
    split
    · rename_i h
      rw [mem_dedI, List.mem_cons]
      exact ⟨.inr, fun h' => h'.elim (fun e => e ▸ h) id⟩
    · rw [List.mem_cons, List.mem_cons, mem_dedI]
theorem nodup_dedI : ∀ l : List Int, (dedI l).Nodup
  | [] => List.nodup_nil
  | x :: r => by
    unfold dedI
    split
    · exact nodup_dedI r
    · rename_i h
      exact List.nodup_cons.mpr ⟨fun z => h (mem_dedI.mp z), nodup_dedI r⟩
end MI

set_option Elab.async false
set_option linter.all false
set_option maxRecDepth 100000
set_option maxHeartbeats 4000000
/-! MS13: three names at once. -/
namespace MS
open PySem PySem.Spec PyProof.Rows L2 MI

theorem sBnd_bnd {α β : Type} (x : MI.R α) (f : α → MI.R β) (env : MI.Env) (g : β → Stt → Option (Fl × MI.Env × Stt)) : sBnd (bnd x f) env g = sBnd x env fun a st => sBnd (f a) env g st := by
  funext st
  simp only [sBnd, bnd]
  cases x st with
  | none => rfl
  | some r => obtain ⟨r, st'⟩ := r; cases r <;> rfl
def tPar3 (i j k : Nat) (ta : TA) : TS := fun D σ H => ta σ H fun vs H1 => ∃ v w u, vs = [v, w, u] ∧ D.nx (((σ.set i (some v)).set j (some w)).set k (some u)) H1
theorem ps_par3 {X : Cx} {i j k : Nat} {x y z : Str} {a b d : Expr} {ta : TA} {pos px py pz pt : Pos} {kt k2 pt2} (hc : X.calm = true) (hN : X.N.Nodup) (hi : X.N[i]? = some x) (hj : X.N[j]? = some y) (hk : X.N[k]? = some z) (hij : i ≠ j) (hik : i ≠ k) (hjk : j ≠ k)
    (hx : X.env.scope.names.lookup x = some .local) (hy : X.env.scope.names.lookup y = some .local) (hz : X.env.scope.names.lookup z = some .local) (ha : PA X [a, b, d] ta)
    (hw : swappedStores [.Tuple [.Name x px, .Name y py, .Name z pz] kt pt] (.Tuple [a, b, d] k2 pt2) X.env = pure (some [x, y, z]))
    (hs : swapsWithSole [.Tuple [.Name x px, .Name y py, .Name z pz] kt pt] (.Tuple [a, b, d] k2 pt2) pos.line X.env = pure false := by rfl) :
    PS X (.Assign [.Tuple [.Name x px, .Name y py, .Name z pz] kt pt] (.Tuple [a, b, d] k2 pt2) pos) (tPar3 i j k ta) := by
  refine ⟨fun pins s σ H D I h => ?_⟩
  rw [exec_Assign_arm]
  refine wpAny_bind (wpAny_standAt ?_)
  rw [hs]
  refine wpAny_bind (wpAny_pure ?_)
  rw [if_neg (by decide)]
  refine wpAny_bind (Tuple_ (thn (ha.run _ pins s σ H _ I h) fun us s1 ⟨vs, H1, I1, r1, q1⟩ => ?_))
  obtain ⟨v, w, u, e1, q1⟩ := q1
  subst e1
  obtain ⟨u1, u2, u3, rfl, rv, rw', ru⟩ : ∃ u1 u2 u3, us = [u1, u2, u3] ∧ RelV v u1 ∧ RelV w u2 ∧ RelV u u3 := by
    cases r1 with
    | cons p q =>
      cases q with
      | cons p' q' =>
        cases q' with
        | cons p2 q2 =>
          cases q2
          exact ⟨_, _, _, rfl, p, p', p2⟩
  refine wpAny_newObj_type ?_ (by show 3 ≤ sizeLine; decide)
  have I2 : Inv X pins σ H1 { s1 with heap := s1.heap.push { cls := .type "tuple", data := .seq [u1, u2, u3].toArray } } := I1.kept (t' := s1.toks) fun b o e => Heap.get?_push_of_some _ e
  rw [hw]
  refine wpAny_bind (wpAny_pure ?_)
  show wpAny (model X.prog X.w) X.A (do rule "assign.swapped-stores"; let items ← unpackItems (.ref s1.heap.objs.size) 3 none; assignInOrder [fun v => bindName X.env z v, fun v => bindName X.env y v, fun v => bindName X.env x v] items.reverse; pure Flow.next) _ _ _
  refine wpAny_bind (wpAny_rule (wpAny_bind (unpackItems_tuple (items := #[u1, u2, u3]) (I.ok.hd hc) (IsTup.new s1.heap _) fun h' hx' => ?_)))
  have I3 := I2.kept (h' := h') (t' := s1.toks) fun b o e => hx' b o (Nat.ne_of_lt (Heap.lt_size e)) e
  show wpAny _ _ (assignInOrder [fun v => bindName X.env z v, fun v => bindName X.env y v, fun v => bindName X.env x v] [u3, u2, u1] >>= fun _ => pure Flow.next) _ _ _
  refine wpAny_bind (assignInOrder_cons (wpAny_bindName (store_ok I3 hN hk (.inl hz) ru (fun s2 I4 => ?_) (.inr hz))))
  refine assignInOrder_cons (wpAny_bindName (store_ok I4 hN hj (.inl hy) rw' (fun s3 I5 => ?_) (.inr hy)))
  refine assignInOrder_cons (wpAny_bindName (store_ok I5 hN hi (.inl hx) rv (fun s4 I6 => assignInOrder_nil (wpAny_pure ?_)) (.inr hx)))
  rw [List.set_comm _ _ (Ne.symm hjk), List.set_comm _ _ (Ne.symm hik), List.set_comm _ _ (Ne.symm hij)] at I6
  exact ⟨_, H1, I6, q1⟩

section
variable {X : Cx} {cl : Nat → Addr} {E : EX} {c : MI.Ctx} {a b d : Expr} {pos : Pos}
theorem ms_par3 {i j k : Nat} {x y z : Str} {gl : SL} {px py pz pt : Pos} {kt k2 pt2} (hc : X.calm = true) (hN : X.N.Nodup) (ha : MA X cl E c [a, b, d] gl)
    (hw : swappedStores [.Tuple [.Name x px, .Name y py, .Name z pz] kt pt] (.Tuple [a, b, d] k2 pt2) X.env = pure (some [x, y, z])) (hi : X.N[i]? = some x := by rfl) (hj : X.N[j]? = some y := by rfl) (hk : X.N[k]? = some z := by rfl) (hij : i ≠ j := by decide) (hik : i ≠ k := by decide) (hjk : j ≠ k := by decide)
    (hx : X.env.scope.names.lookup x = some .local := by rfl) (hy : X.env.scope.names.lookup y = some .local := by rfl) (hz : X.env.scope.names.lookup z = some .local := by rfl)
    (hs : swapsWithSole [.Tuple [.Name x px, .Name y py, .Name z pz] kt pt] (.Tuple [a, b, d] k2 pt2) pos.line X.env = pure false := by rfl) :
    MST X cl E c (.Assign [.Tuple [.Name x px, .Name y py, .Name z pz] kt pt] (.Tuple [a, b, d] k2 pt2) pos) (sAsg (gTup 3 (gCons (gVar i) (gCons (gVar j) (gCons (gVar k) gNil)))) (eTup gl)) := psI (ps_par3 hc hN hi hj hk hij hik hjk hx hy hz ha hw hs) fun D σ H ⟨ρ, env, st, A, e, h⟩ => by
  unfold sAsg eTup at h
  rw [sBnd_bnd] at h
  refine (RestS.step (x := gl c) (rL X.K) A e h).imp fun v1 H1 ⟨ρ1, st1, d1, g1, A1, r1, h1⟩ => ?_
  by_cases hl : d1.length < lim
  · rw [if_pos hl] at h1
    cases r1 with
    | nil => exact h1.elim
    | @cons v vs d ds ra rr =>
      cases rr with
      | nil => exact h1.elim
      | @cons w ws d' ds' rb rr =>
        cases rr with
        | nil => exact h1.elim
        | @cons u us d2 ds2 rc rr =>
          cases rr with
          | cons _ _ => exact h1.elim
          | nil =>
            refine ⟨v, w, u, rfl, ?_⟩
            simp only [MI.ret, sBnd, MI.gTup, MI.gCons, MI.gVar, MI.gNil, List.length_cons, List.length_nil, List.length_set, Nat.zero_add, Nat.reduceAdd, if_true] at h1
            by_cases h_i : i < env.length
            · by_cases h_j : j < env.length
              · by_cases h_k : k < env.length
                · simp only [h_i, h_j, h_k, List.length_set, if_true] at h1
                  exact h1 ρ1 H1 _ .refl A1 (RvE.set rc k (RvE.set rb j (RvE.set ra i (e.grow A g1))))
                · simp only [h_i, h_j, h_k, List.length_set, if_true, if_false] at h1; exact h1.elim
              · simp only [h_i, h_j, List.length_set, if_true, if_false] at h1; exact h1.elim
            · simp only [h_i, if_false] at h1; exact h1.elim
  · rw [if_neg hl] at h1; exact h1.elim
end
end MS

set_option Elab.async false
set_option linter.all false
set_option maxRecDepth 100000
set_option maxHeartbeats 4000000
/-! MSR8: set(a list of ints), then sorted of it. Turned from the library's rule for a tuple. -/
namespace MS
open PySem PySem.Spec PyProof.Rows L2 MI
section
variable {P : Program} {w : World} {A : Around} {E : Value → Shared → Prop} {s : Shared}
set_option maxRecDepth 100000 in
set_option maxHeartbeats 3200000 in
theorem call_set_lstI {l : Addr} {items : Array Value} (ns : List Int) {Q : Value → Shared → Prop} (hh : A.handled = none) (hl : s.heap.IsList l items) (hit : IntsAre items.toList ns) (hb : ns.length + 1 < scanBound)
    (h : ∀ (h' : Heap) (tk c : Nat), SetR w h' s.heap.objs.size (fun j => decide (j ∈ ns)) c → c ≤ ns.length → (∀ b o, s.heap.get? b = some o → h'.get? b = some o) → Q (.ref s.heap.objs.size) { s with heap := h', toks := tk }) :
    wpAny (model P w) A (call (.type "set") [.ref l]) Q E s := by
  have hisz : items.size = ns.length := by
    have q := IntsAre.length hit
    rw [Array.length_toList] at q
    exact q
  obtain ⟨c, tl, hmro⟩ := F.called_set.mro
  have hmade := F.called_set.made
  have hsub := F.called_set.sub
  refine wpAny_call (codeAny_of_tree ?_)
  show wpAny _ _ (callAny (.type "set") _) _ _ _
  refine wpAny_pure ⟨Code.quiet_builtin _ (by decide +kernel), codeAny_builtin F.entry_type_call ?_⟩
  rw [Around.under_plain (weight_type_call_type "set" [.ref l] []) rfl]
  have h1 := F.called_set.notType
  have h2 := F.called_set.canCreate
  have hct := F.typeCall_set_1 (.ref l)
  repeat (any_goals (first | assumption | wp_step))

  refine codeAny_mono (code_set_led1 (.ref l) (E := E) (Q₁ := fun obj s₁ => obj = .ref s.heap.objs.size ∧ s₁ = { s with heap := s.heap.push { cls := .type "set", dict := none, data := .set #[] 0 (.fresh 0 0 (!w.params.followText "set-order")) } }) ⟨rfl, rfl⟩) fun r s₁ hr => ?_
  cases r with
  | error e => exact hr
  | ok fl =>
    cases fl with
    | ret obj =>
      obtain ⟨rfl, rfl⟩ := hr
      have hS : (s.heap.push { cls := .type "set", dict := none, data := .set #[] 0 (.fresh 0 0 (!w.params.followText "set-order")) }).get? s.heap.objs.size = some { cls := .type "set", dict := none, data := .set #[] 0 (.fresh 0 0 (!w.params.followText "set-order")) } := Heap.get?_push_size _ rfl
      have hT : Shared.TypeIs { s with heap := s.heap.push { cls := .type "set", dict := none, data := .set #[] 0 (.fresh 0 0 (!w.params.followText "set-order")) } } (.ref s.heap.objs.size) "set" := ⟨_, hS, rfl⟩
      have hli := F.called_set.init.lookup
      have hbi := F.called_set.init.bind (.ref s.heap.objs.size)
      repeat (any_goals (first | assumption | wp_step))

      refine codeAny_mono (codeAny_call_builtin (R := wants (fun r s₂ => r = .none ∧ ∃ h' tk c, s₂ = { s with heap := h', toks := tk } ∧ SetR w h' s.heap.objs.size (fun j => decide (j ∈ ns)) c ∧ c ≤ ns.length ∧
          (∀ b o, s.heap.get? b = some o → h'.get? b = some o)) E) F.called_set.init.plain F.entry_set_init (check_set_init_1 hT ?_)) fun r₂ s₂ hr₂ => ?_
      · obtain ⟨ol, hol, hcl, nl, hdl⟩ := hl
        obtain ⟨ocls, odict, odata, oslots⟩ := ol
        simp only at hcl hdl
        subst hcl; subst hdl
        have hol' : (s.heap.push { cls := .type "set", dict := none, data := .set #[] 0 (.fresh 0 0 (!w.params.followText "set-order")) }).get? l = some { cls := .type "list", dict := odict, data := .seq items nl, slots := oslots } := Heap.get?_push_of_some _ hol
        have hsls := F.sub_list_set
        have hslf := F.sub_list_frozenset
        have hne : (Value.type "list" == Value.type "dict") = false := by decide
        have hl1 : (s.heap.push { cls := .type "set", dict := none, data := .set #[] 0 (.fresh 0 0 (!w.params.followText "set-order")) }).IsList l items := ⟨_, hol', rfl, nl, rfl⟩
        unfold Builtin.«set.__init__» noKeywords Builtin.Frozenset.updateFrom
        generalize hPI : pyIter = PI
        wp_walk
        subst hPI

        refine wpAny_pyIter_list hl1 ?_
        refine wpAny_bind (wpAny_runValue ?_)
        have hlS : l < s.heap.objs.size := Heap.lt_size hol
        have hh3 : A.in1.in1.in1.handled = none := by simp [hh]
        have hz1 : (s.heap.push { cls := .type "set", dict := none, data := .set #[] 0 (.fresh 0 0 (!w.params.followText "set-order")) }).objs.size = s.heap.objs.size + 1 := Heap.size_push ..
        have hneI : l ≠ (s.heap.push { cls := .type "set", dict := none, data := .set #[] 0 (.fresh 0 0 (!w.params.followText "set-order")) }).objs.size := by
          rw [Heap.size_push]; exact Nat.ne_of_lt (Nat.lt_succ_of_lt hlS)
        have hSf : s.heap.objs.size ∉ [(s.heap.push { cls := .type "set", dict := none, data := .set #[] 0 (.fresh 0 0 (!w.params.followText "set-order")) }).objs.size, l] := by
          rw [Heap.size_push]; simp only [List.mem_cons, List.mem_singleton, List.not_mem_nil, or_false, not_or]
          exact ⟨Nat.ne_of_lt (Nat.lt_succ_self _), Nat.ne_of_gt hlS⟩
        have hval : ∀ (i : Nat) (v : Value), items[i]? = some v → ∃ k t, ns[i]? = some k ∧ v = .int k t := fun i v hv => by
          have hi : i < ns.length := by rw [← hisz]; exact (Array.getElem?_eq_some_iff.mp hv).1
          obtain ⟨t, e⟩ := PyProof.Rows.IntsAre.int_at hit i v (by rw [Array.getElem?_toList]; exact hv)
          refine ⟨ns[i], t, List.getElem?_eq_getElem hi, ?_⟩
          rw [e, List.getD_eq_getElem?_getD, List.getElem?_eq_getElem hi] <;> rfl
        refine set_update_ints ((Walks.list hh3 _ l hneI items).toS) s.heap.objs.size
          hSf ns hisz hb hval (items.size - 0) 0 _ (by omega) (Nat.zero_le _)
          ⟨⟨_, Heap.get?_push_size _ rfl, rfl, rfl⟩, (hl1.push _)⟩ ?hS0 ?hR
        case hS0 =>
          have hget : ((s.heap.push { cls := .type "set", dict := none, data := .set #[] 0 (.fresh 0 0 (!w.params.followText "set-order")) }).push { cls := .type "list_iterator", data := .fields #[.ref l, .int 0 0] }).get? s.heap.objs.size
              = some { cls := .type "set", dict := none, data := .set #[] 0 (.fresh 0 0 (!w.params.followText "set-order")) } := Heap.get?_push_of_some _ hS
          exact ⟨0, Nat.le_refl 0, setR_new_at hget⟩
        case hR =>
          intro s' c' hm hc' hS'
          obtain ⟨h', g2, d', tk', os'⟩ := s'
          have eg : g2 = s.gens := hm.gens
          have ed : d' = s.drawn := hm.drawn
          have eo : os' = s.os := hm.os
          subst eg; subst ed; subst eo
          show wpAny _ _ _ _ _ _
          refine wpAny_pure ?_
          show wpAny _ _ (ret Value.none) _ _ _
          rw [hisz] at hc'
          refine wpAny_pure ⟨rfl, h', tk', c', rfl, hS', hc', fun b o e => ?_⟩
          have hb0 : b < s.heap.objs.size := Heap.lt_size e
          have hb1 : b ≠ s.heap.objs.size := Nat.ne_of_lt hb0
          have hb2 : b ≠ (s.heap.push { cls := .type "set", dict := none, data := .set #[] 0 (.fresh 0 0 (!w.params.followText "set-order")) }).objs.size := by
            rw [Heap.size_push]; exact Nat.ne_of_lt (Nat.lt_succ_of_lt hb0)
          exact hm.heap b o (by simp only [List.mem_cons, List.mem_singleton, List.not_mem_nil, or_false, not_or]; exact ⟨hb1, hb2⟩) (Heap.get?_push_of_some _ (Heap.get?_push_of_some _ e))

      · cases r₂ with
        | error e => exact hr₂
        | ok fl₂ =>
          cases fl₂ with
          | ret r =>
            obtain ⟨rfl, h', tk, c', rfl, hS', hc', hk'⟩ := hr₂
            repeat (any_goals (first | assumption | wp_step))
            exact h _ _ _ hS' hc' hk'
          | _ => exact hr₂.elim
    | _ => exact hr.elim
end
end MS

set_option Elab.async false
set_option linter.all false
set_option maxRecDepth 100000
set_option maxHeartbeats 4000000
/-! MS14: sorted(set(ints)). -/
namespace MS
open PySem PySem.Spec PyProof.Rows L2 MI
section
variable {X : Cx}
def rSetI (K : PySem.W.Frag) (w : World) : List V → Hp → VK → Prop := fun vs H Q => ∃ (a : Addr) (ns : List Int), vs = [V.ref a] ∧ (SqL K H a (ns.map V.int) ∨ SqT K H a (ns.map V.int)) ∧ ns.length < 64 ∧
  ∀ (p : Addr) (c : Nat), H p = none → c ≤ ns.length → Q (.ref p) (upd H p (SetO w p (fun j => decide (j ∈ ns)) c))
theorem cr_setI (hc : X.calm = true) : CallR X (.type "set") (rSetI X.K X.w) := by
  intro pins s σ H vs us Q I r h
  obtain ⟨a, ns, rfl, ha, hl, q⟩ := h
  rw [Vals.ref1 r]
  have fin : ∀ (h' : Heap) (tk c : Nat), SetR X.w h' s.heap.objs.size (fun j => decide (j ∈ ns)) c → c ≤ ns.length → (∀ b o, s.heap.get? b = some o → h'.get? b = some o) → EP X pins σ Q (.ref s.heap.objs.size) { s with heap := h', toks := tk } := fun h' tk c R hcn hk => by
    have hn : H s.heap.objs.size = none := I.hok.fresh (Nat.le_refl _)
    exact ⟨.ref _, _, I.laid (t' := tk) hk (Nat.le_refl _) (setO_new R), rfl, q _ c hn hcn⟩
  have hb : ns.length + 1 < scanBound := by unfold scanBound; omega
  rcases ha with ha | ha
  · obtain ⟨its, r, pl, hz⟩ := I.list ha
    exact call_set_lstI ns (I.ok.hd hc) pl.isList (by simpa using ints_of_vals r) hb fin
  · obtain ⟨its, r, pl, hz⟩ := I.tuple ha
    exact call_set_tupI ns (I.ok.hd hc) pl (by simpa using ints_of_vals r) hb fin
theorem rSortedSet_upd {w : World} {H1 : Hp} {p : Addr} {ns : List Int} {c : Nat} {Q : VK} (hp : H1 p = some (SetO w p (fun j => decide (j ∈ ns)) c)) (hc : c < 64)
    (h : ∀ q, H1 q = none → Q (.ref q) (upd H1 q (.lst ((sortI (dedI ns)).map V.int)))) : rSortedSet w [V.ref p] H1 Q :=
  ⟨p, _, c, rfl, hp, hc, fun ms q hlt hm _ hq => by
    have hnd : ms.Nodup := hlt.imp fun h => Int.ne_of_lt h
    have hp : ms.Perm (dedI ns) := (List.perm_ext_iff_of_nodup hnd (nodup_dedI ns)).mpr fun k => by
      rw [hm k, mem_dedI, decide_eq_true_eq]
    rw [sortI_unique hp (hlt.imp fun h => Int.le_of_lt h)]
    exact h q hq⟩
end
section
variable {K : PySem.W.Frag} {cl : Nat → Addr} {E : EX}
theorem s_sorS {w : World} : Ca1 K cl E bSorS (fun vs H Q => rSetI K w vs H fun u H2 => rSortedSet w [u] H2 (fz Q)) := by
  intro σ Q ρ H st v1 d1 A r1 h
  rcases seqOf_ok A r1 with q | ⟨a, vs, l, rfl, q, r, hs⟩
  · exact h.none (bnd_none q)
  · cases qi : ints? l with
    | none => exact h.none (by unfold bSorS; rw [bnd_inv q, qi]; rfl)
    | some ns =>
      have ev := ints_of qi r
      subst ev
      by_cases hl : ns.length < 64
      · have e : bSorS d1 st = some (.ok (.frz ((sortI (dedI ns)).map D.int)), st) := by unfold bSorS; rw [bnd_inv q, qi]; simp only [if_pos hl]; rfl
        refine ⟨a, ns, rfl, hs, hl, fun p c n hc => ?_⟩
        obtain ⟨A', g⟩ := A.side (o := SetO w p (fun j => decide (j ∈ ns)) c) n
        exact rSortedSet_upd upd_same (by omega) fun q' n' => rest_frz A' (ints_map _) (h.base g) e q' n'
      · exact h.none (by unfold bSorS; rw [bnd_inv q, qi]; simp only [if_neg hl]; rfl)
end
theorem B_set : bootBuiltins "set" = some (.type "set") := by decide +kernel
section
variable {X : Cx} {cl : Nat → Addr} {E : EX} {c : MI.Ctx} {e : Expr} {ga : SE} {p q pos qos : Pos}
theorem me_sorS (hc : X.calm = true) (hg : Gl X "sorted") (hm : X.mg "sorted" = none) (hg' : Gl X "set") (hm' : X.mg "set" = none) (ha : ME X cl E c e ga)
    (he : starEach [e] X.env = (false, eval e X.env) :: starEach [] X.env := by rfl)
    (he2 : starEach [Expr.Call (.Name "set" q) [e] [] qos] X.env = (false, eval (Expr.Call (.Name "set" q) [e] [] qos) X.env) :: starEach [] X.env := by rfl) :
    ME X cl E c (.Call (.Name "sorted" p) [.Call (.Name "set" q) [e] [] qos] [] pos) (eUn bSorS ga) :=
  peI (pe_callB (MS.CallR.fz (cr_sortedSet hc)) hg hm B_sorted (pa_cons (pe_callTy (cr_setI hc) hg' hm' B_set (pa_cons ha pa_nil he) (by decide +kernel) (by decide +kernel) he (by rfl)) pa_nil he2) (by decide +kernel) (by decide +kernel) he2 (by rfl))
    fun σ H Q h => tm_un (f := bSorS) (r := fun v H Q => rSetI X.K X.w [v] H fun u H2 => rSortedSet X.w [u] H2 (fz Q)) s_sorS h
end
end MS

set_option Elab.async false
set_option linter.all false
set_option maxRecDepth 100000
set_option maxHeartbeats 0
namespace MI
abbrev F_blocks_of : Nat := 0
abbrev F_paths_in : Nat := 1
abbrev F_block_at : Nat := 2
abbrev F_statement_at : Nat := 3
abbrev F_statements_of : Nat := 4
abbrev F_spot_paths : Nat := 5
abbrev F_spots_of : Nat := 6
abbrev F_way_count : Nat := 7
abbrev F_flow_on : Nat := 8
abbrev F_flow_start : Nat := 9
abbrev F_flow : Nat := 10
abbrev F_run_on : Nat := 11
abbrev F_Store____init__ : Nat := 12
abbrev F_Store__free_slot : Nat := 13
abbrev F_Store__is_alone : Nat := 14
abbrev F_Store__move : Nat := 15
abbrev F_Store__give : Nat := 16
abbrev F_Store__do : Nat := 17
abbrev F_Store__shown : Nat := 18
abbrev F_run_store : Nat := 19
abbrev F_slots_behind : Nat := 20
abbrev F__law_pen : Nat := 21
abbrev F__law_fresh : Nat := 22
abbrev F__law_draw : Nat := 23
abbrev F__law_blocks : Nat := 24
abbrev F__law_all_paths : Nat := 25
abbrev F__law_block_at : Nat := 26
abbrev F__law_at : Nat := 27
abbrev F__law_statement : Nat := 28
abbrev F__law_block : Nat := 29
abbrev F__law_program : Nat := 30
abbrev F__law_list : Nat := 31
abbrev F__law_copying : Nat := 32
abbrev F__law_some_program : Nat := 33
abbrev F__law_mapped : Nat := 34
abbrev F__law_shuffled : Nat := 35
abbrev F_law : Nat := 36
abbrev C_Store : Nat := 0
abbrev w_astray : List Nat := [97, 115, 116, 114, 97, 121]
abbrev w_change : List Nat := [99, 104, 97, 110, 103, 101]
abbrev w_choose : List Nat := [99, 104, 111, 111, 115, 101]
abbrev w_contents : List Nat := [99, 111, 110, 116, 101, 110, 116, 115]
abbrev w_copies : List Nat := [99, 111, 112, 105, 101, 115]
abbrev w_copying : List Nat := [99, 111, 112, 121, 105, 110, 103]
abbrev w_do : List Nat := [100, 111]
abbrev w_end : List Nat := [101, 110, 100]
abbrev w_free_95_slot : List Nat := [102, 114, 101, 101, 95, 115, 108, 111, 116]
abbrev w_fresh : List Nat := [102, 114, 101, 115, 104]
abbrev w_give : List Nat := [103, 105, 118, 101]
abbrev w_is_95_alone : List Nat := [105, 115, 95, 97, 108, 111, 110, 101]
abbrev w_look : List Nat := [108, 111, 111, 107]
abbrev w_loop : List Nat := [108, 111, 111, 112]
abbrev w_move : List Nat := [109, 111, 118, 101]
abbrev w_open : List Nat := [111, 112, 101, 110]
abbrev w_shown : List Nat := [115, 104, 111, 119, 110]
abbrev w_slots : List Nat := [115, 108, 111, 116, 115]
def b_blocks_of_0 : SS :=
  (sIf (cB (eBin opEq (eBin opIx (eVar 0) (eC (.int 0))) (eC (.str w_choose))))
  (sRet (eBin opIx (eVar 0) (eC (.int 1))))
  sPass)
def b_blocks_of_1 : SS :=
  (sRet (eIf (cB (eBin opEq (eBin opIx (eVar 0) (eC (.int 0))) (eC (.str w_loop)))) (eTup (lCons (eBin opIx (eVar 0) (eC (.int 1))) lNil)) (eTup lNil)))
def b_blocks_of : SS := (sSeq b_blocks_of_0 b_blocks_of_1)
def b_paths_in_0 : SS :=
  (sSet 2 (eLst lNil))
def b_paths_in_1 : SS :=
  (sFor (gTup 2 (gCons (gVar 3) (gCons (gVar 4) gNil))) (iEnum (eVar 0))
  (sSeq (sExpr (eMt1 isLst mAppend (eVar 2) (eBin opAdd (eVar 1) (eTup (lCons (eVar 3) lNil)))))
  (sFor (gTup 2 (gCons (gVar 5) (gCons (gVar 6) gNil))) (iEnum (eCall F_blocks_of (lCons (eVar 4) lNil)))
  (sExpr (eMt1 isLst mExtend (eVar 2) (eCall F_paths_in (lCons (eVar 6) (lCons (eBin opAdd (eVar 1) (eTup (lCons (eVar 3) (lCons (eVar 5) lNil)))) lNil))))))))
def b_paths_in_2 : SS :=
  (sRet (eVar 2))
def b_paths_in : SS := (sSeq b_paths_in_0 (sSeq b_paths_in_1 b_paths_in_2))
def b_block_at_0 : SS :=
  (sSet 2 (eBin opIx (eVar 0) (eC (.int 1))))
def b_block_at_1 : SS :=
  (sFor (gTup 2 (gCons (gVar 3) (gCons (gVar 4) gNil))) (iZip (eSlc2 (eVar 1) none none) (eSlc2 (eVar 1) (some (1)) none))
  (sSet 2 (eBin opIx (eCall F_blocks_of (lCons (eBin opIx (eVar 2) (eVar 3)) lNil)) (eVar 4))))
def b_block_at_2 : SS :=
  (sRet (eVar 2))
def b_block_at : SS := (sSeq b_block_at_0 (sSeq b_block_at_1 b_block_at_2))
def b_statement_at_0 : SS :=
  (sRet (eBin opIx (eCall F_block_at (lCons (eVar 0) (lCons (eSlc (eVar 1) oNone (oSome (eUn opNeg (eC (.int 1))))) lNil))) (eBin opIx (eVar 1) (eUn opNeg (eC (.int 1))))))
def b_statement_at : SS := b_statement_at_0
def b_statements_of_0 : SS :=
  (sRet (eCompF [1] (gVar 1) (iSeq (eCall F_paths_in (lCons (eBin opIx (eVar 0) (eC (.int 1))) (lCons (eTup lNil) lNil)))) cYes (eCall F_statement_at (lCons (eVar 0) (lCons (eVar 1) lNil)))))
def b_statements_of : SS := b_statements_of_0
def b_spot_paths_0 : SS :=
  (sSet 1 (eCall F_paths_in (lCons (eBin opIx (eVar 0) (eC (.int 1))) (lCons (eTup lNil) lNil))))
def b_spot_paths_1 : SS :=
  (sRet (eUn bTupleX (eCompF [2] (gVar 2) (iSeq (eVar 1)) (cB (eBin opIn (eBin opIx (eCall F_statement_at (lCons (eVar 0) (lCons (eVar 2) lNil))) (eC (.int 0))) (eC (.tup [(.str w_look), (.str w_choose), (.str w_loop)])))) (eVar 2))))
def b_spot_paths : SS := (sSeq b_spot_paths_0 b_spot_paths_1)
def b_spots_of_0 : SS :=
  (sRet (eCompF [1] (gVar 1) (iSeq (eCall F_statements_of (lCons (eVar 0) lNil))) (cB (eBin opIn (eBin opIx (eVar 1) (eC (.int 0))) (eC (.tup [(.str w_look), (.str w_choose), (.str w_loop)])))) (eVar 1)))
def b_spots_of : SS := b_spots_of_0
def b_way_count_0 : SS :=
  (sSet 2 (eBin opIx (eCall F_spots_of (lCons (eVar 0) lNil)) (eVar 1)))
def b_way_count_1 : SS :=
  (sRet (eDGet [(w_look, 1), (w_loop, 2)] (eBin opIx (eVar 2) (eC (.int 0))) (eUn bLen (eCall F_blocks_of (lCons (eVar 2) lNil)))))
def b_way_count : SS := (sSeq b_way_count_0 b_way_count_1)
def b_flow_on_0 : SS :=
  (sSet 3 (eCall F_spot_paths (lCons (eVar 0) lNil)))
def b_flow_on_1 : SS :=
  (sSet 4 (eLst lNil))
def b_flow_on_2 : SS :=
  (sWhile (cB (eC (.bl true)))
  (sSeq (sSet 5 (eCall F_block_at (lCons (eVar 0) (lCons (eVar 1) lNil))))
  (sIf (cB (eBin opLt (eVar 2) (eUn bLen (eVar 5))))
  (sSeq (sSet 6 (eBin opAdd (eVar 1) (eTup (lCons (eVar 2) lNil))))
  (sSeq (sIf (cB (eBin opIn (eVar 6) (eVar 3)))
  (sRet (eTup (lCons (eUn bTuple (eVar 4)) (lCons (eMt1 isIxd mIndex (eVar 3) (eVar 6)) lNil))))
  sPass)
  (sSeq (sExpr (eMt1 isLst mAppend (eVar 4) (eBin opIx (eVar 5) (eVar 2))))
  (sAug 2 opIAdd (eC (.int 1))))))
  (sIf (cB (eBin opEq (eVar 1) (eTup lNil)))
  (sRet (eTup (lCons (eUn bTuple (eVar 4)) (lCons (eC .non) lNil))))
  (sSeq (sSet 7 (eSlc (eVar 1) oNone (oSome (eUn opNeg (eC (.int 1))))))
  (sSeq (sIf (cB (eBin opEq (eBin opIx (eCall F_statement_at (lCons (eVar 0) (lCons (eVar 7) lNil))) (eC (.int 0))) (eC (.str w_loop))))
  (sRet (eTup (lCons (eUn bTuple (eVar 4)) (lCons (eMt1 isIxd mIndex (eVar 3) (eVar 7)) lNil))))
  sPass)
  (sPar 1 2 (lCons (eSlc (eVar 7) oNone (oSome (eUn opNeg (eC (.int 1))))) (lCons (eBin opAdd (eBin opIx (eVar 7) (eUn opNeg (eC (.int 1)))) (eC (.int 1))) lNil)))))))))
def b_flow_on : SS := (sSeq b_flow_on_0 (sSeq b_flow_on_1 b_flow_on_2))
def b_flow_start_0 : SS :=
  (sRet (eCall F_flow_on (lCons (eVar 0) (lCons (eTup lNil) (lCons (eC (.int 0)) lNil)))))
def b_flow_start : SS := b_flow_start_0
def b_flow_0 : SS :=
  (sSet 3 (eBin opIx (eCall F_spot_paths (lCons (eVar 0) lNil)) (eVar 1)))
def b_flow_1 : SS :=
  (sSet 4 (eBin opIx (eCall F_statement_at (lCons (eVar 0) (lCons (eVar 3) lNil))) (eC (.int 0))))
def b_flow_2 : SS :=
  (sIf (cOr (cB (eBin opEq (eVar 4) (eC (.str w_look)))) (cAnd (cB (eBin opEq (eVar 4) (eC (.str w_loop)))) (cB (eBin opEq (eVar 2) (eC (.int 1))))))
  (sRet (eCall F_flow_on (lCons (eVar 0) (lCons (eSlc (eVar 3) oNone (oSome (eUn opNeg (eC (.int 1))))) (lCons (eBin opAdd (eBin opIx (eVar 3) (eUn opNeg (eC (.int 1)))) (eC (.int 1))) lNil)))))
  sPass)
def b_flow_3 : SS :=
  (sRet (eCall F_flow_on (lCons (eVar 0) (lCons (eBin opAdd (eVar 3) (eTup (lCons (eVar 2) lNil))) (lCons (eC (.int 0)) lNil)))))
def b_flow : SS := (sSeq b_flow_0 (sSeq b_flow_1 (sSeq b_flow_2 b_flow_3)))
def b_run_on_0 : SS :=
  (sSet 3 (eLst lNil))
def b_run_on_1 : SS :=
  (sAsg (gTup 2 (gCons (gVar 4) (gCons (gVar 5) gNil))) (eCall F_flow_start (lCons (eVar 0) lNil)))
def b_run_on_2 : SS :=
  (sFor (gVar 6) (iSeq (eVar 4))
  (sExpr (eMeth (eVar 1) w_do (lCons (eVar 6) lNil))))
def b_run_on_3 : SS :=
  (sFor (gVar 7) (iSeq (eVar 2))
  (sSeq (sIf (cB (eUn opIsN (eVar 5)))
  sBrk
  sPass)
  (sSeq (sIf (cB (eBin opGe (eVar 7) (eCall F_way_count (lCons (eVar 0) (lCons (eVar 5) lNil)))))
  (sRet (eTup (lCons (eUn bTuple (eVar 3)) (lCons (eTup (lCons (eC (.str w_astray)) (lCons (eVar 5) lNil))) lNil))))
  sPass)
  (sSeq (sSet 8 (eBin opIx (eCall F_spots_of (lCons (eVar 0) lNil)) (eVar 5)))
  (sSeq (sIf (cB (eBin opEq (eBin opIx (eVar 8) (eC (.int 0))) (eC (.str w_look))))
  (sExpr (eMt1 isLst mAppend (eVar 3) (eTup (lCons (eVar 5) (lCons (eMeth (eVar 1) w_shown (lCons (eBin opIx (eVar 8) (eC (.int 1))) lNil)) lNil)))))
  sPass)
  (sSeq (sAsg (gTup 2 (gCons (gVar 4) (gCons (gVar 5) gNil))) (eCall F_flow (lCons (eVar 0) (lCons (eVar 5) (lCons (eVar 7) lNil)))))
  (sFor (gVar 6) (iSeq (eVar 4))
  (sExpr (eMeth (eVar 1) w_do (lCons (eVar 6) lNil))))))))))
def b_run_on_4 : SS :=
  (sRet (eTup (lCons (eUn bTuple (eVar 3)) (lCons (eIf (cB (eUn opIsN (eVar 5))) (eTup (lCons (eC (.str w_end)) lNil)) (eTup (lCons (eC (.str w_open)) (lCons (eVar 5) lNil)))) lNil))))
def b_run_on : SS := (sSeq b_run_on_0 (sSeq b_run_on_1 (sSeq b_run_on_2 (sSeq b_run_on_3 b_run_on_4))))
def b_Store____init___0 : SS :=
  (sFld (eVar 0) w_copying (eVar 2))
def b_Store____init___1 : SS :=
  (sFld (eVar 0) w_slots (eListOf (iRange1 (eVar 1))))
def b_Store____init___2 : SS :=
  (sFld (eVar 0) w_contents (eBin opMul (eLst (lCons (eTup lNil) lNil)) (eVar 1)))
def b_Store____init___3 : SS :=
  (sFld (eVar 0) w_copies (eC (.int 0)))
def b_Store____init__ : SS := (sSeq b_Store____init___0 (sSeq b_Store____init___1 (sSeq b_Store____init___2 b_Store____init___3)))
def b_Store__free_slot_0 : SS :=
  (sRet (eUn bMin (eCompF [1] (gVar 1) (iRange1 (eUn bLen (eFld (eVar 0) w_contents))) (cB (eBin opNotIn (eVar 1) (eFld (eVar 0) w_slots))) (eVar 1))))
def b_Store__free_slot : SS := b_Store__free_slot_0
def b_Store__is_alone_0 : SS :=
  (sRet (eBin opEq (eMt1 isLst mCount (eFld (eVar 0) w_slots) (eBin opIx (eFld (eVar 0) w_slots) (eVar 1))) (eC (.int 1))))
def b_Store__is_alone : SS := b_Store__is_alone_0
def b_Store__move_0 : SS :=
  (sAsg (gSub (eFld (eVar 0) w_slots) (eVar 1)) (eMeth (eVar 0) w_free_95_slot lNil))
def b_Store__move_1 : SS :=
  (sAsg (gSub (eFld (eVar 0) w_contents) (eBin opIx (eFld (eVar 0) w_slots) (eVar 1))) (eVar 2))
def b_Store__move : SS := (sSeq b_Store__move_0 b_Store__move_1)
def b_Store__give_0 : SS :=
  (sIf (cB (eBin opIn (eVar 1) (eFld (eVar 0) w_copying)))
  (sSeq (sSet 4 (eMeth (eVar 0) w_shown (lCons (eVar 3) lNil)))
  (sSeq (sAsg (gSub (eFld (eVar 0) w_slots) (eVar 2)) (eC .non))
  (sSeq (sExpr (eMeth (eVar 0) w_move (lCons (eVar 2) (lCons (eVar 4) lNil))))
  (sFldAug (eVar 0) w_copies opIAdd (eC (.int 1))))))
  (sAsg (gSub (eFld (eVar 0) w_slots) (eVar 2)) (eBin opIx (eFld (eVar 0) w_slots) (eVar 3))))
def b_Store__give : SS := b_Store__give_0
def b_Store__do_0 : SS :=
  (sIf (cB (eBin opEq (eBin opIx (eVar 1) (eC (.int 0))) (eC (.str w_fresh))))
  (sSeq (sIf (cNot (cB (eMeth (eVar 0) w_is_95_alone (lCons (eBin opIx (eVar 1) (eC (.int 1))) lNil))))
  (sExpr (eMeth (eVar 0) w_move (lCons (eBin opIx (eVar 1) (eC (.int 1))) (lCons (eTup lNil) lNil))))
  sPass)
  (sAsg (gSub (eFld (eVar 0) w_contents) (eBin opIx (eFld (eVar 0) w_slots) (eBin opIx (eVar 1) (eC (.int 1))))) (eTup lNil)))
  (sIf (cB (eBin opEq (eBin opIx (eVar 1) (eC (.int 0))) (eC (.str w_give))))
  (sExpr (eMeth (eVar 0) w_give (lCons (eBin opIx (eVar 1) (eC (.int 1))) (lCons (eBin opIx (eVar 1) (eC (.int 2))) (lCons (eBin opIx (eVar 1) (eC (.int 3))) lNil)))))
  (sSeq (sIf (cAnd (cB (eBin opIn (eBin opIx (eVar 1) (eC (.int 1))) (eFld (eVar 0) w_copying))) (cNot (cB (eMeth (eVar 0) w_is_95_alone (lCons (eBin opIx (eVar 1) (eC (.int 2))) lNil)))))
  (sSeq (sExpr (eMeth (eVar 0) w_move (lCons (eBin opIx (eVar 1) (eC (.int 2))) (lCons (eMeth (eVar 0) w_shown (lCons (eBin opIx (eVar 1) (eC (.int 2))) lNil)) lNil))))
  (sFldAug (eVar 0) w_copies opIAdd (eC (.int 1))))
  sPass)
  (sSubAug (eFld (eVar 0) w_contents) (eBin opIx (eFld (eVar 0) w_slots) (eBin opIx (eVar 1) (eC (.int 2)))) opIAdd (eTup (lCons (eBin opIx (eVar 1) (eC (.int 3))) lNil))))))
def b_Store__do : SS := b_Store__do_0
def b_Store__shown_0 : SS :=
  (sRet (eBin opIx (eFld (eVar 0) w_contents) (eBin opIx (eFld (eVar 0) w_slots) (eVar 1))))
def b_Store__shown : SS := b_Store__shown_0
def b_run_store_0 : SS :=
  (sSet 3 (eMake C_Store F_Store____init__ (lCons (eBin opIx (eVar 0) (eC (.int 0))) (lCons (eVar 1) lNil))))
def b_run_store_1 : SS :=
  (sRet (eBin opAdd (eCall F_run_on (lCons (eVar 0) (lCons (eVar 3) (lCons (eVar 2) lNil)))) (eTup (lCons (eFld (eVar 3) w_copies) lNil))))
def b_run_store : SS := (sSeq b_run_store_0 b_run_store_1)
def b_slots_behind_0 : SS :=
  (sSet 3 (eMake C_Store F_Store____init__ (lCons (eBin opIx (eVar 0) (eC (.int 0))) (lCons (eVar 1) lNil))))
def b_slots_behind_1 : SS :=
  (sExpr (eCall F_run_on (lCons (eVar 0) (lCons (eVar 3) (lCons (eVar 2) lNil)))))
def b_slots_behind_2 : SS :=
  (sRet (eUn bTupleX (eFld (eVar 3) w_slots)))
def b_slots_behind : SS := (sSeq b_slots_behind_0 (sSeq b_slots_behind_1 b_slots_behind_2))
def b__law_pen_0 : SS :=
  (sRet (eLst (lCons (eUn bListF (eSlc (eVar 0) oNone (oSome (eC (.int 63))))) (lCons (eC (.int 0)) (lCons (eC (.int 0)) lNil)))))
def b__law_pen : SS := b__law_pen_0
def b__law_fresh_0 : SS :=
  (sSet 1 (eBin opIx (eVar 0) (eC (.int 1))))
def b__law_fresh_1 : SS :=
  (sAsg (gSub (eVar 0) (eC (.int 1))) (eBin opAdd (eVar 1) (eC (.int 1))))
def b__law_fresh_2 : SS :=
  (sSet 2 (eC (.int 0)))
def b__law_fresh_3 : SS :=
  (sIf (cB (eBin opNe (eBin opIx (eVar 0) (eC (.int 0))) (eLstF lNil)))
  (sSet 2 (eBin opIx (eBin opIx (eVar 0) (eC (.int 0))) (eBin opMod (eUn bInt (eVar 1)) (eUn bLen (eBin opIx (eVar 0) (eC (.int 0)))))))
  sPass)
def b__law_fresh_4 : SS :=
  (sIf (cAnd (cB (eBin opLt (eVar 1) (eUn bLen (eBin opIx (eVar 0) (eC (.int 0)))))) (cB (eBin opGe (eVar 2) (eBin opPow (eC (.int 10)) (eC (.int 18))))))
  (sRet (eBin opSub (eVar 2) (eBin opPow (eC (.int 10)) (eC (.int 18)))))
  sPass)
def b__law_fresh_5 : SS :=
  (sSet 3 (eC (.int 2305843009213693951)))
def b__law_fresh_6 : SS :=
  (sSet 4 (eBin opMod (eUn bInt (eBin opAdd (eBin opAdd (eBin opMul (eVar 2) (eC (.int 48271))) (eBin opMul (eC (.int 40692)) (eVar 1))) (eC (.int 31)))) (eVar 3)))
def b__law_fresh_7 : SS :=
  (sSet 5 (eVar 4))
def b__law_fresh_8 : SS :=
  (sFor (gVar 6) (iRange1 (eC (.int 6)))
  (sSeq (sSet 4 (eBin opMod (eUn bInt (eBin opAdd (eBin opAdd (eBin opMul (eVar 4) (eVar 4)) (eBin opMul (eBin opMul (eC (.int 69621)) (eBin opAdd (eVar 6) (eC (.int 1)))) (eBin opAdd (eVar 1) (eC (.int 1))))) (eVar 2))) (eVar 3)))
  (sSet 5 (eBin opAdd (eBin opMul (eVar 5) (eVar 3)) (eVar 4)))))
def b__law_fresh_9 : SS :=
  (sRet (eVar 5))
def b__law_fresh : SS := (sSeq b__law_fresh_0 (sSeq b__law_fresh_1 (sSeq b__law_fresh_2 (sSeq b__law_fresh_3 (sSeq b__law_fresh_4 (sSeq b__law_fresh_5 (sSeq b__law_fresh_6 (sSeq b__law_fresh_7 (sSeq b__law_fresh_8 b__law_fresh_9)))))))))
def b__law_draw_0 : SS :=
  (sIf (cB (eBin opLt (eBin opIx (eVar 0) (eC (.int 2))) (eVar 1)))
  (sAsg (gSub (eVar 0) (eC (.int 2))) (eCall F__law_fresh (lCons (eVar 0) lNil)))
  sPass)
def b__law_draw_1 : SS :=
  (sSet 2 (eBin opMod (eUn bInt (eBin opIx (eVar 0) (eC (.int 2)))) (eVar 1)))
def b__law_draw_2 : SS :=
  (sAsg (gSub (eVar 0) (eC (.int 2))) (eBin opDiv (eUn bInt (eBin opIx (eVar 0) (eC (.int 2)))) (eVar 1)))
def b__law_draw_3 : SS :=
  (sRet (eVar 2))
def b__law_draw : SS := (sSeq b__law_draw_0 (sSeq b__law_draw_1 (sSeq b__law_draw_2 b__law_draw_3)))
def b__law_blocks_0 : SS :=
  (sIf (cB (eBin opEq (eBin opIx (eVar 0) (eC (.int 0))) (eC (.str w_choose))))
  (sRet (eUn bListF (eBin opIx (eVar 0) (eC (.int 1)))))
  sPass)
def b__law_blocks_1 : SS :=
  (sRet (eIf (cB (eBin opEq (eBin opIx (eVar 0) (eC (.int 0))) (eC (.str w_loop)))) (eLstF (lCons (eBin opIx (eVar 0) (eC (.int 1))) lNil)) (eLstF lNil)))
def b__law_blocks : SS := (sSeq b__law_blocks_0 b__law_blocks_1)
def b__law_all_paths_0 : SS :=
  (sSet 2 (eLst lNil))
def b__law_all_paths_1 : SS :=
  (sFor (gTup 2 (gCons (gVar 3) (gCons (gVar 4) gNil))) (iEnum (eVar 0))
  (sSeq (sExpr (eMt1 isLst mAppend (eVar 2) (eBin opAdd (eVar 1) (eTup (lCons (eVar 3) lNil)))))
  (sFor (gTup 2 (gCons (gVar 5) (gCons (gVar 6) gNil))) (iEnum (eCall F__law_blocks (lCons (eVar 4) lNil)))
  (sExpr (eMt1 isLst mExtend (eVar 2) (eCall F__law_all_paths (lCons (eVar 6) (lCons (eBin opAdd (eVar 1) (eTup (lCons (eVar 3) (lCons (eVar 5) lNil)))) lNil))))))))
def b__law_all_paths_2 : SS :=
  (sRet (eVar 2))
def b__law_all_paths : SS := (sSeq b__law_all_paths_0 (sSeq b__law_all_paths_1 b__law_all_paths_2))
def b__law_block_at_0 : SS :=
  (sSet 2 (eBin opIx (eVar 0) (eC (.int 1))))
def b__law_block_at_1 : SS :=
  (sFor (gVar 3) (iRange3 (eUn bLen (eVar 1)))
  (sSet 2 (eBin opIx (eCall F__law_blocks (lCons (eBin opIx (eVar 2) (eBin opIx (eVar 1) (eVar 3))) lNil)) (eBin opIx (eVar 1) (eBin opAdd (eVar 3) (eC (.int 1)))))))
def b__law_block_at_2 : SS :=
  (sRet (eVar 2))
def b__law_block_at : SS := (sSeq b__law_block_at_0 (sSeq b__law_block_at_1 b__law_block_at_2))
def b__law_at_0 : SS :=
  (sRet (eBin opIx (eCall F__law_block_at (lCons (eVar 0) (lCons (eSlc (eVar 1) oNone (oSome (eUn opNeg (eC (.int 1))))) lNil))) (eBin opIx (eVar 1) (eUn opNeg (eC (.int 1))))))
def b__law_at : SS := b__law_at_0
def b__law_statement_0 : SS :=
  (sAsg (gSub (eVar 3) (eC (.int 1))) (eBin opSub (eBin opIx (eVar 3) (eC (.int 1))) (eC (.int 1))))
def b__law_statement_1 : SS :=
  (sPar 4 5 (lCons (eCall F__law_draw (lCons (eVar 0) (lCons (eC (.int 10)) lNil))) (lCons (eCall F__law_draw (lCons (eVar 0) (lCons (eVar 1) lNil))) lNil)))
def b__law_statement_2 : SS :=
  (sIf (cAnd (cB (eBin opLt (eVar 4) (eC (.int 2)))) (cB (eBin opGt (eBin opIx (eVar 3) (eC (.int 2))) (eC (.int 0)))))
  (sSeq (sAsg (gSub (eVar 3) (eC (.int 2))) (eBin opSub (eBin opIx (eVar 3) (eC (.int 2))) (eC (.int 1))))
  (sRet (eTup (lCons (eC (.str w_look)) (lCons (eVar 5) lNil)))))
  sPass)
def b__law_statement_3 : SS :=
  (sIf (cAnd (cB (eBin opLt (eVar 4) (eC (.int 4)))) (cAnd (cB (eBin opGt (eBin opIx (eVar 3) (eC (.int 2))) (eC (.int 0)))) (cB (eBin opGt (eBin opIx (eVar 3) (eC (.int 0))) (eC (.int 0))))))
  (sSeq (sAsg (gTup 2 (gCons (gSub (eVar 3) (eC (.int 0))) (gCons (gSub (eVar 3) (eC (.int 2))) gNil))) (eTup (lCons (eBin opSub (eBin opIx (eVar 3) (eC (.int 0))) (eC (.int 1))) (lCons (eBin opSub (eBin opIx (eVar 3) (eC (.int 2))) (eC (.int 1))) lNil))))
  (sSeq (sSet 6 (eBin opIx (eLstF (lCons (eC (.int 1)) (lCons (eC (.int 2)) (lCons (eC (.int 2)) (lCons (eC (.int 3)) lNil))))) (eCall F__law_draw (lCons (eVar 0) (lCons (eC (.int 4)) lNil)))))
  (sSeq (sSet 7 (eUn bTuple (eCompF [8] (gVar 8) (iRange1 (eVar 6)) cYes (eCall F__law_block (lCons (eVar 0) (lCons (eVar 1) (lCons (eVar 2) (lCons (eVar 3) lNil))))))))
  (sSeq (sAsg (gSub (eVar 3) (eC (.int 0))) (eBin opAdd (eBin opIx (eVar 3) (eC (.int 0))) (eC (.int 1))))
  (sRet (eIf (cB (eBin opEq (eUn bLen (eVar 7)) (eC (.int 1)))) (eTup (lCons (eC (.str w_loop)) (lCons (eBin opIx (eVar 7) (eC (.int 0))) lNil))) (eTup (lCons (eC (.str w_choose)) (lCons (eVar 7) lNil)))))))))
  sPass)
def b__law_statement_4 : SS :=
  (sIf (cAnd (cB (eBin opLt (eVar 4) (eC (.int 7)))) (cB (eBin opGt (eVar 1) (eC (.int 1)))))
  (sRet (eTup (lCons (eC (.str w_give)) (lCons (eCall F__law_draw (lCons (eVar 0) (lCons (eVar 2) lNil))) (lCons (eVar 5) (lCons (eBin opMod (eUn bInt (eBin opAdd (eBin opAdd (eVar 5) (eC (.int 1))) (eCall F__law_draw (lCons (eVar 0) (lCons (eBin opSub (eVar 1) (eC (.int 1))) lNil))))) (eVar 1)) lNil))))))
  sPass)
def b__law_statement_5 : SS :=
  (sRet (eIf (cB (eBin opLt (eVar 4) (eC (.int 9)))) (eTup (lCons (eC (.str w_change)) (lCons (eCall F__law_draw (lCons (eVar 0) (lCons (eVar 2) lNil))) (lCons (eVar 5) (lCons (eCall F__law_draw (lCons (eVar 0) (lCons (eC (.int 10)) lNil))) lNil))))) (eTup (lCons (eC (.str w_fresh)) (lCons (eVar 5) lNil)))))
def b__law_statement : SS := (sSeq b__law_statement_0 (sSeq b__law_statement_1 (sSeq b__law_statement_2 (sSeq b__law_statement_3 (sSeq b__law_statement_4 b__law_statement_5)))))
def b__law_block_0 : SS :=
  (sSet 4 (eLst lNil))
def b__law_block_1 : SS :=
  (sFor (gVar 5) (iRange1 (eCall F__law_draw (lCons (eVar 0) (lCons (eC (.int 4)) lNil))))
  (sIf (cB (eBin opGt (eBin opIx (eVar 3) (eC (.int 1))) (eC (.int 0))))
  (sExpr (eMt1 isLst mAppend (eVar 4) (eCall F__law_statement (lCons (eVar 0) (lCons (eVar 1) (lCons (eVar 2) (lCons (eVar 3) lNil)))))))
  sPass))
def b__law_block_2 : SS :=
  (sRet (eUn bTuple (eVar 4)))
def b__law_block : SS := (sSeq b__law_block_0 (sSeq b__law_block_1 b__law_block_2))
def b__law_program_0 : SS :=
  (sPar 5 6 (lCons (eLst (lCons (eC (.int 4)) (lCons (eVar 3) (lCons (eVar 4) lNil)))) (lCons (eLst lNil) lNil)))
def b__law_program_1 : SS :=
  (sFor (gVar 7) (iRange1 (eBin opAdd (eC (.int 2)) (eCall F__law_draw (lCons (eVar 0) (lCons (eC (.int 5)) lNil)))))
  (sIf (cB (eBin opGt (eBin opIx (eVar 5) (eC (.int 1))) (eC (.int 0))))
  (sExpr (eMt1 isLst mAppend (eVar 6) (eCall F__law_statement (lCons (eVar 0) (lCons (eVar 1) (lCons (eVar 2) (lCons (eVar 5) lNil)))))))
  sPass))
def b__law_program_2 : SS :=
  (sIf (cAnd (cB (eBin opGt (eBin opIx (eVar 5) (eC (.int 1))) (eC (.int 0)))) (cAnd (cB (eBin opGt (eBin opIx (eVar 5) (eC (.int 2))) (eC (.int 0)))) (cB (eBin opEq (eCall F__law_draw (lCons (eVar 0) (lCons (eC (.int 2)) lNil))) (eC (.int 0))))))
  (sExpr (eMt1 isLst mAppend (eVar 6) (eTup (lCons (eC (.str w_look)) (lCons (eCall F__law_draw (lCons (eVar 0) (lCons (eVar 1) lNil))) lNil)))))
  sPass)
def b__law_program_3 : SS :=
  (sRet (eTup (lCons (eVar 1) (lCons (eUn bTuple (eVar 6)) lNil))))
def b__law_program : SS := (sSeq b__law_program_0 (sSeq b__law_program_1 (sSeq b__law_program_2 b__law_program_3)))
def b__law_list_0 : SS :=
  (sRet (eUn bTuple (eCompF [2] (gVar 2) (iRange1 (eCall F__law_draw (lCons (eVar 0) (lCons (eBin opAdd (eVar 1) (eC (.int 1))) lNil)))) cYes (eBin opIx (eLstF (lCons (eC (.int 0)) (lCons (eC (.int 0)) (lCons (eC (.int 0)) (lCons (eC (.int 1)) (lCons (eC (.int 1)) (lCons (eC (.int 2)) lNil))))))) (eCall F__law_draw (lCons (eVar 0) (lCons (eC (.int 6)) lNil)))))))
def b__law_list : SS := b__law_list_0
def b__law_copying_0 : SS :=
  (sRet (eUn bTuple (eCompF [2] (gVar 2) (iRange1 (eVar 1)) (cB (eBin opEq (eCall F__law_draw (lCons (eVar 0) (lCons (eC (.int 2)) lNil))) (eC (.int 0)))) (eVar 2))))
def b__law_copying : SS := b__law_copying_0
def b__law_some_program_0 : SS :=
  (sPar 1 2 (lCons (eBin opIx (eLstF (lCons (eC (.int 1)) (lCons (eC (.int 2)) (lCons (eC (.int 2)) (lCons (eC (.int 3)) (lCons (eC (.int 3)) (lCons (eC (.int 4)) (lCons (eC (.int 4)) lNil)))))))) (eCall F__law_draw (lCons (eVar 0) (lCons (eC (.int 7)) lNil)))) (lCons (eBin opAdd (eC (.int 2)) (eCall F__law_draw (lCons (eVar 0) (lCons (eC (.int 7)) lNil)))) lNil)))
def b__law_some_program_1 : SS :=
  (sRet (eCall F__law_program (lCons (eVar 0) (lCons (eVar 1) (lCons (eVar 2) (lCons (eBin opAdd (eC (.int 8)) (eCall F__law_draw (lCons (eVar 0) (lCons (eC (.int 9)) lNil)))) (lCons (eBin opAdd (eC (.int 3)) (eCall F__law_draw (lCons (eVar 0) (lCons (eC (.int 4)) lNil)))) lNil)))))))
def b__law_some_program : SS := (sSeq b__law_some_program_0 b__law_some_program_1)
def b__law_mapped_0 : SS :=
  (sSet 3 (eLst lNil))
def b__law_mapped_1 : SS :=
  (sFor (gVar 4) (iSeq (eVar 0))
  (sIf (cB (eBin opIn (eBin opIx (eVar 4) (eC (.int 0))) (eTup (lCons (eC (.str w_fresh)) (lCons (eC (.str w_look)) lNil)))))
  (sExpr (eMt1 isLst mAppend (eVar 3) (eTup (lCons (eBin opIx (eVar 4) (eC (.int 0))) (lCons (eBin opIx (eVar 1) (eBin opIx (eVar 4) (eC (.int 1)))) lNil)))))
  (sIf (cB (eBin opEq (eBin opIx (eVar 4) (eC (.int 0))) (eC (.str w_give))))
  (sExpr (eMt1 isLst mAppend (eVar 3) (eTup (lCons (eC (.str w_give)) (lCons (eBin opIx (eVar 4) (eC (.int 1))) (lCons (eBin opIx (eVar 1) (eBin opIx (eVar 4) (eC (.int 2)))) (lCons (eBin opIx (eVar 1) (eBin opIx (eVar 4) (eC (.int 3)))) lNil)))))))
  (sIf (cB (eBin opEq (eBin opIx (eVar 4) (eC (.int 0))) (eC (.str w_change))))
  (sExpr (eMt1 isLst mAppend (eVar 3) (eTup (lCons (eC (.str w_change)) (lCons (eBin opIx (eVar 4) (eC (.int 1))) (lCons (eBin opIx (eVar 1) (eBin opIx (eVar 4) (eC (.int 2)))) (lCons (eBin opIx (eVar 2) (eBin opIx (eVar 4) (eC (.int 3)))) lNil)))))))
  (sIf (cB (eBin opEq (eBin opIx (eVar 4) (eC (.int 0))) (eC (.str w_choose))))
  (sExpr (eMt1 isLst mAppend (eVar 3) (eTup (lCons (eC (.str w_choose)) (lCons (eUn bTuple (eCompF [5] (gVar 5) (iSeq (eBin opIx (eVar 4) (eC (.int 1)))) cYes (eCall F__law_mapped (lCons (eVar 5) (lCons (eVar 1) (lCons (eVar 2) lNil)))))) lNil)))))
  (sExpr (eMt1 isLst mAppend (eVar 3) (eTup (lCons (eC (.str w_loop)) (lCons (eCall F__law_mapped (lCons (eBin opIx (eVar 4) (eC (.int 1))) (lCons (eVar 1) (lCons (eVar 2) lNil)))) lNil))))))))))
def b__law_mapped_2 : SS :=
  (sRet (eUn bTuple (eVar 3)))
def b__law_mapped : SS := (sSeq b__law_mapped_0 (sSeq b__law_mapped_1 b__law_mapped_2))
def b__law_shuffled_0 : SS :=
  (sSet 2 (eListOf (iRange1 (eVar 1))))
def b__law_shuffled_1 : SS :=
  (sFor (gVar 3) (iRange1 (eVar 1))
  (sSeq (sSet 4 (eCall F__law_draw (lCons (eVar 0) (lCons (eVar 1) lNil))))
  (sAsg (gTup 2 (gCons (gSub (eVar 2) (eVar 3)) (gCons (gSub (eVar 2) (eVar 4)) gNil))) (eTup (lCons (eBin opIx (eVar 2) (eVar 4)) (lCons (eBin opIx (eVar 2) (eVar 3)) lNil))))))
def b__law_shuffled_2 : SS :=
  (sRet (eVar 2))
def b__law_shuffled : SS := (sSeq b__law_shuffled_0 (sSeq b__law_shuffled_1 b__law_shuffled_2))
def b_law_0 : SS :=
  (sSet 1 (eCall F__law_pen (lCons (eVar 0) lNil)))
def b_law_1 : SS :=
  (sFor (gVar 2) (iRange1 (eBin bMax2 (eC (.int 1)) (eBin bMin2 (eC (.int 3)) (eUn bLen (eVar 0)))))
  (sSeq (sAsg (gTup 2 (gCons (gVar 3) (gCons (gVar 4) gNil))) (eTup (lCons (eCall F__law_some_program (lCons (eVar 1) lNil)) (lCons (eCall F__law_copying (lCons (eVar 1) (lCons (eC (.int 8)) lNil))) lNil))))
  (sSeq (sSet 5 (eTup (lCons (eBin opIx (eVar 3) (eC (.int 0))) (lCons (eCall F__law_mapped (lCons (eBin opIx (eVar 3) (eC (.int 1))) (lCons (eListOfF (iRange1 (eC (.int 4)))) (lCons (eCall F__law_shuffled (lCons (eVar 1) (lCons (eC (.int 10)) lNil))) lNil)))) lNil))))
  (sFor (gVar 6) (iRange1 (eC (.int 4)))
  (sSeq (sPar 7 8 (lCons (eCall F__law_list (lCons (eVar 1) (lCons (eC (.int 6)) lNil))) (lCons (eCall F__law_list (lCons (eVar 1) (lCons (eC (.int 6)) lNil))) lNil)))
  (sSeq (sSet 9 (eBin opAdd (eVar 7) (eVar 8)))
  (sSeq (sPar 10 11 (lCons (eCall F_run_store (lCons (eVar 3) (lCons (eVar 4) (lCons (eVar 7) lNil)))) (lCons (eCall F_run_store (lCons (eVar 3) (lCons (eVar 4) (lCons (eVar 9) lNil)))) lNil)))
  (sSeq (sIf (cOr (cB (eBin opNe (eBin opIx (eCall F_run_store (lCons (eVar 3) (lCons (eTup lNil) (lCons (eVar 9) lNil)))) (eC (.int 2))) (eC (.int 0)))) (cNot (cB (eChain opLe opLe (eC (.int 0)) (eBin opIx (eVar 10) (eC (.int 2))) (eBin opIx (eVar 11) (eC (.int 2)))))))
  (sRet (eC (.bl false)))
  sPass)
  (sSeq (sIf (cB (eBin opNe (eBin opIx (eCall F_run_store (lCons (eVar 5) (lCons (eVar 4) (lCons (eVar 9) lNil)))) (eC (.int 2))) (eBin opIx (eVar 11) (eC (.int 2)))))
  (sRet (eC (.bl false)))
  sPass)
  (sSeq (sIf (cB (eBin opNe (eCall F_slots_behind (lCons (eVar 5) (lCons (eVar 4) (lCons (eVar 9) lNil)))) (eCall F_slots_behind (lCons (eVar 3) (lCons (eVar 4) (lCons (eVar 9) lNil))))))
  (sRet (eC (.bl false)))
  sPass)
  (sSeq (sSet 12 (eCompF [14] (gVar 14) (iSeq (eCall F__law_all_paths (lCons (eBin opIx (eVar 3) (eC (.int 1))) (lCons (eTup lNil) lNil)))) cYes (eBin opIx (eCall F__law_at (lCons (eVar 3) (lCons (eVar 14) lNil))) (eC (.int 1)))))
  (sSeq (sSet 13 (eComp [15] (gVar 15) (iRange1 (eC (.int 8))) (cB (eBin opNotIn (eVar 15) (eVar 12))) (eVar 15)))
  (sIf (cB (eBin opNe (eCall F_run_store (lCons (eVar 3) (lCons (eUn bTuple (eUn bSorS (eBin opAdd (eUn bList (eVar 4)) (eVar 13)))) (lCons (eVar 9) lNil)))) (eVar 11)))
  (sRet (eC (.bl false)))
  sPass)))))))))))))
def b_law_2 : SS :=
  (sRet (eC (.bl true)))
def b_law : SS := (sSeq b_law_0 (sSeq b_law_1 b_law_2))
def prog : Prog := ⟨[⟨1, 1, b_blocks_of⟩,
  ⟨2, 7, b_paths_in⟩,
  ⟨2, 5, b_block_at⟩,
  ⟨2, 2, b_statement_at⟩,
  ⟨1, 2, b_statements_of⟩,
  ⟨1, 3, b_spot_paths⟩,
  ⟨1, 2, b_spots_of⟩,
  ⟨2, 3, b_way_count⟩,
  ⟨3, 8, b_flow_on⟩,
  ⟨1, 1, b_flow_start⟩,
  ⟨3, 5, b_flow⟩,
  ⟨3, 9, b_run_on⟩,
  ⟨3, 3, b_Store____init__⟩,
  ⟨1, 2, b_Store__free_slot⟩,
  ⟨2, 2, b_Store__is_alone⟩,
  ⟨3, 3, b_Store__move⟩,
  ⟨4, 5, b_Store__give⟩,
  ⟨2, 2, b_Store__do⟩,
  ⟨2, 2, b_Store__shown⟩,
  ⟨3, 4, b_run_store⟩,
  ⟨3, 4, b_slots_behind⟩,
  ⟨1, 1, b__law_pen⟩,
  ⟨1, 7, b__law_fresh⟩,
  ⟨2, 3, b__law_draw⟩,
  ⟨1, 1, b__law_blocks⟩,
  ⟨2, 7, b__law_all_paths⟩,
  ⟨2, 4, b__law_block_at⟩,
  ⟨2, 2, b__law_at⟩,
  ⟨4, 9, b__law_statement⟩,
  ⟨4, 6, b__law_block⟩,
  ⟨5, 8, b__law_program⟩,
  ⟨2, 3, b__law_list⟩,
  ⟨2, 3, b__law_copying⟩,
  ⟨1, 3, b__law_some_program⟩,
  ⟨3, 6, b__law_mapped⟩,
  ⟨2, 5, b__law_shuffled⟩,
  ⟨1, 16, b_law⟩],
  [(C_Store, w_free_95_slot, F_Store__free_slot), (C_Store, w_is_95_alone, F_Store__is_alone), (C_Store, w_move, F_Store__move), (C_Store, w_give, F_Store__give), (C_Store, w_do, F_Store__do), (C_Store, w_shown, F_Store__shown)], [(C_Store, w_copying), (C_Store, w_slots), (C_Store, w_contents), (C_Store, w_copies)], [F_blocks_of, F_paths_in, F_block_at, F_statement_at, F_statements_of, F_spot_paths, F_spots_of, F_way_count, F_flow_on, F_flow_start, F_flow, F_run_store, F_slots_behind, F__law_blocks, F__law_all_paths, F__law_block_at, F__law_at]⟩
end MI
namespace Dv
open PySem PySem.Spec PyProof.Rows L2 MI MS
def top (i : Nat) : Stmt := PySem.Challenge.pw_copyplaces_k68_whole_copies_counted.main.body.getD i (.Pass ⟨0, 0, 0, 0⟩)
abbrev s0 : Stmt := (top 2)
def N0 : List Str := ["statement"]
def P0 : List Str := ["statement"]
abbrev s1 : Stmt := (top 3)
def N1 : List Str := ["block", "path", "found", "index", "statement", "which", "inner"]
def P1 : List Str := ["block", "path"]
abbrev s2 : Stmt := (top 4)
def N2 : List Str := ["program", "path", "block", "index", "which"]
def P2 : List Str := ["program", "path"]
abbrev s3 : Stmt := (top 5)
def N3 : List Str := ["program", "path"]
def P3 : List Str := ["program", "path"]
abbrev s4 : Stmt := (top 6)
def N4 : List Str := ["program", "path"]
def P4 : List Str := ["program"]
abbrev s5 : Stmt := (top 7)
def N5 : List Str := ["program", "paths", "path"]
def P5 : List Str := ["program"]
abbrev s6 : Stmt := (top 8)
def N6 : List Str := ["program", "statement"]
def P6 : List Str := ["program"]
abbrev s7 : Stmt := (top 9)
def N7 : List Str := ["program", "spot", "statement"]
def P7 : List Str := ["program", "spot"]
abbrev s8 : Stmt := (top 11)
def N8 : List Str := ["program", "path", "index", "paths", "passed", "block", "here", "owner"]
def P8 : List Str := ["program", "path", "index"]
abbrev s9 : Stmt := (top 12)
def N9 : List Str := ["program"]
def P9 : List Str := ["program"]
abbrev s10 : Stmt := (top 13)
def N10 : List Str := ["program", "spot", "way", "path", "word"]
def P10 : List Str := ["program", "spot", "way"]
abbrev s11 : Stmt := (top 15)
def N11 : List Str := ["program", "state", "ways", "looks", "passed", "spot", "statement", "way", "here"]
def P11 : List Str := ["program", "state", "ways"]
abbrev s12 : Stmt := (inClass (top 17) 0)
def N12 : List Str := ["self", "names", "copying"]
def P12 : List Str := ["self", "names", "copying"]
abbrev s13 : Stmt := (inClass (top 17) 1)
def N13 : List Str := ["self", "slot"]
def P13 : List Str := ["self"]
abbrev s14 : Stmt := (inClass (top 17) 2)
def N14 : List Str := ["self", "name"]
def P14 : List Str := ["self", "name"]
abbrev s15 : Stmt := (inClass (top 17) 3)
def N15 : List Str := ["self", "name", "value"]
def P15 : List Str := ["self", "name", "value"]
abbrev s16 : Stmt := (inClass (top 17) 4)
def N16 : List Str := ["self", "label", "name", "source", "value"]
def P16 : List Str := ["self", "label", "name", "source"]
abbrev s17 : Stmt := (inClass (top 17) 5)
def N17 : List Str := ["self", "statement"]
def P17 : List Str := ["self", "statement"]
abbrev s18 : Stmt := (inClass (top 17) 6)
def N18 : List Str := ["self", "name"]
def P18 : List Str := ["self", "name"]
abbrev s19 : Stmt := (top 18)
def N19 : List Str := ["program", "copying", "ways", "store"]
def P19 : List Str := ["program", "copying", "ways"]
abbrev s20 : Stmt := (top 19)
def N20 : List Str := ["program", "copying", "ways", "store"]
def P20 : List Str := ["program", "copying", "ways"]
abbrev s21 : Stmt := (top 21)
def N21 : List Str := ["script"]
def P21 : List Str := ["script"]
abbrev s22 : Stmt := (top 22)
def N22 : List Str := ["pen", "at", "cell", "p", "state", "found", "turn"]
def P22 : List Str := ["pen"]
abbrev s23 : Stmt := (top 23)
def N23 : List Str := ["pen", "many", "digit"]
def P23 : List Str := ["pen", "many"]
abbrev s24 : Stmt := (top 24)
def N24 : List Str := ["statement"]
def P24 : List Str := ["statement"]
abbrev s25 : Stmt := (top 25)
def N25 : List Str := ["block", "path", "found", "index", "statement", "which", "inner"]
def P25 : List Str := ["block", "path"]
abbrev s26 : Stmt := (top 26)
def N26 : List Str := ["program", "path", "block", "at"]
def P26 : List Str := ["program", "path"]
abbrev s27 : Stmt := (top 27)
def N27 : List Str := ["program", "path"]
def P27 : List Str := ["program", "path"]
abbrev s28 : Stmt := (top 28)
def N28 : List Str := ["pen", "names", "many", "sizes", "option", "x", "often", "inner", "lap"]
def P28 : List Str := ["pen", "names", "many", "sizes"]
abbrev s29 : Stmt := (top 29)
def N29 : List Str := ["pen", "names", "many", "sizes", "found", "lap"]
def P29 : List Str := ["pen", "names", "many", "sizes"]
abbrev s30 : Stmt := (top 30)
def N30 : List Str := ["pen", "names", "many", "statements", "spots", "sizes", "found", "lap"]
def P30 : List Str := ["pen", "names", "many", "statements", "spots"]
abbrev s31 : Stmt := (top 31)
def N31 : List Str := ["pen", "most", "lap"]
def P31 : List Str := ["pen", "most"]
abbrev s32 : Stmt := (top 32)
def N32 : List Str := ["pen", "many", "label"]
def P32 : List Str := ["pen", "many"]
abbrev s33 : Stmt := (top 33)
def N33 : List Str := ["pen", "names", "many"]
def P33 : List Str := ["pen"]
abbrev s34 : Stmt := (top 34)
def N34 : List Str := ["block", "names", "marks", "found", "statement", "one"]
def P34 : List Str := ["block", "names", "marks"]
abbrev s35 : Stmt := (top 35)
def N35 : List Str := ["pen", "many", "names", "at", "to"]
def P35 : List Str := ["pen", "many"]
abbrev s36 : Stmt := (top 36)
def N36 : List Str := ["script", "pen", "turn", "program", "copying", "other", "often", "first", "second", "ways", "one", "two", "used", "idle", "path", "label"]
def P36 : List Str := ["script"]
def fns : List (Str × Nat) := [(("blocks_of" : Str), F_blocks_of), (("paths_in" : Str), F_paths_in), (("block_at" : Str), F_block_at), (("statement_at" : Str), F_statement_at), (("statements_of" : Str), F_statements_of), (("spots_of" : Str), F_spots_of), (("spot_paths" : Str), F_spot_paths), (("flow_on" : Str), F_flow_on), (("flow_start" : Str), F_flow_start), (("way_count" : Str), F_way_count), (("flow" : Str), F_flow), (("run_on" : Str), F_run_on), (("_law_fresh" : Str), F__law_fresh), (("_law_blocks" : Str), F__law_blocks), (("_law_all_paths" : Str), F__law_all_paths), (("_law_block_at" : Str), F__law_block_at), (("_law_draw" : Str), F__law_draw), (("_law_block" : Str), F__law_block), (("_law_statement" : Str), F__law_statement), (("_law_program" : Str), F__law_program), (("_law_mapped" : Str), F__law_mapped), (("_law_pen" : Str), F__law_pen), (("_law_copying" : Str), F__law_copying), (("_law_some_program" : Str), F__law_some_program), (("_law_shuffled" : Str), F__law_shuffled), (("_law_list" : Str), F__law_list), (("run_store" : Str), F_run_store), (("slots_behind" : Str), F_slots_behind), (("_law_at" : Str), F__law_at)]
def clss : List (Str × Nat × Nat) := [(("Store" : Str), C_Store, F_Store____init__)]
def frees : List Str := [("enumerate" : Str), ("zip" : Str), ("tuple" : Str), ("len" : Str), ("list" : Str), ("range" : Str), ("min" : Str), ("int" : Str), ("max" : Str), ("sorted" : Str), ("set" : Str)]
def cons : List (Str × D) := [(("SPOT_WORDS" : Str), (.tup [(.str w_look), (.str w_choose), (.str w_loop)]))]
abbrev MD (P : Program) (w : World) (K : PySem.W.Frag) (mg : Str → Option Value) (base : Heap) (cl : Nat → Addr) (c : MI.Ctx) (lv : Nat) : Prop := Mod P w K mg base cl c lv fns clss frees cons
abbrev XX (N : List Str) (q : Str) (st : Stmt) (P : Program) (w : World) (K : PySem.W.Frag) (mg : Str → Option Value) (base : Heap) (f : Addr) (cdv : Value) (A : Around) (outer : List PySem.Env) (s : Shared) (H : Hp) (E : XK) : Cx := cxOf (L2.CX P w) P w K mg base N q (defScope st) f cdv A outer s H E
section
variable {P : Program} {w : World} {K : PySem.W.Frag} {mg : Str → Option Value} {base : Heap} {cl : Nat → Addr} {c : MI.Ctx} {lv : Nat} (M : MD P w K mg base cl c lv) (f : Addr) (cdv : Value) (A : Around) (outer : List PySem.Env) (s : Shared) (H : Hp) (E : XK)
include M
theorem der0 (G : Good (XX N0 "blocks_of" s0 P w K mg base f cdv A outer s H E) (fun cls d _ H => E cls d H) cl c lv) (po : PassesOwn (model P w) (XX N0 "blocks_of" s0 P w K mg base f cdv A outer s H E).A (XX N0 "blocks_of" s0 P w K mg base f cdv A outer s H E).env (XX N0 "blocks_of" s0 P w K mg base f cdv A outer s H E).xe) :
    MSS (XX N0 "blocks_of" s0 P w K mg base f cdv A outer s H E) cl (EXW K cl fun cls d _ H => E cls d H) c (defBody s0) b_blocks_of :=
  (mss_cons (ms_if (mt_cmp (op_eqD (hu64 G)) s_eq (me_ix (me_var 0) me_int (fun _ _ => rfl)) (me_str w_choose) (nomark _))
  (mss_one (ms_ret (me_ix (me_var 0) me_int (fun _ _ => rfl))))
  mss_nil)
  (mss_one (ms_ret (me_if (mt_cmp (op_eqD (hu64 G)) s_eq (me_ix (me_var 0) me_int (fun _ _ => rfl)) (me_str w_loop) (nomark _)) (me_tup (ma_cons (me_ix (me_var 0) me_int (fun _ _ => rfl)) ma_nil)) (me_tup ma_nil)))))
theorem der1 (G : Good (XX N1 "paths_in" s1 P w K mg base f cdv A outer s H E) (fun cls d _ H => E cls d H) cl c lv) (po : PassesOwn (model P w) (XX N1 "paths_in" s1 P w K mg base f cdv A outer s H E).A (XX N1 "paths_in" s1 P w K mg base f cdv A outer s H E).env (XX N1 "paths_in" s1 P w K mg base f cdv A outer s H E).xe) :
    MSS (XX N1 "paths_in" s1 P w K mg base f cdv A outer s H E) cl (EXW K cl fun cls d _ H => E cls d H) c (defBody s1) b_paths_in :=
  (mss_cons (ms_set (i := 2) G.nd (me_lst ma_nil))
  (mss_cons (ms_for po G.calm (mi_enum rfl (M.fr 0 _ rfl) (me_var 0)) (mg_tup G.calm (mgs_cons (mg_name (i := 3) G.nd) (mgs_cons (mg_name (i := 4) G.nd) mgs_nil)))
  (mss_cons (ms_expr (me_mt1 m_append (me_var 2) (me_bin op_addA s_add (me_var 1) (me_tup (ma_cons (me_var 3) ma_nil)))))
  (mss_one (ms_for po G.calm (mi_enum rfl (M.fr 0 _ rfl) (me_call G (M.fn 0 _ _ rfl) rfl (ma_cons (me_var 4) ma_nil))) (mg_tup G.calm (mgs_cons (mg_name (i := 5) G.nd) (mgs_cons (mg_name (i := 6) G.nd) mgs_nil)))
  (mss_one (ms_expr (me_mt1 m_extend (me_var 2) (me_call G (M.fn 1 _ _ rfl) rfl (ma_cons (me_var 6) (ma_cons (me_bin op_addA s_add (me_var 1) (me_tup (ma_cons (me_var 3) (ma_cons (me_var 5) ma_nil)))) ma_nil))))))))))
  (mss_one (ms_ret (me_var 2)))))
theorem der2 (G : Good (XX N2 "block_at" s2 P w K mg base f cdv A outer s H E) (fun cls d _ H => E cls d H) cl c lv) (po : PassesOwn (model P w) (XX N2 "block_at" s2 P w K mg base f cdv A outer s H E).A (XX N2 "block_at" s2 P w K mg base f cdv A outer s H E).env (XX N2 "block_at" s2 P w K mg base f cdv A outer s H E).xe) :
    MSS (XX N2 "block_at" s2 P w K mg base f cdv A outer s H E) cl (EXW K cl fun cls d _ H => E cls d H) c (defBody s2) b_block_at :=
  (mss_cons (ms_set (i := 2) G.nd (me_ix (me_var 0) me_int (fun _ _ => rfl)))
  (mss_cons (ms_for po G.calm (mi_zip rfl (M.fr 1 _ rfl) (me_slc2 (me_var 1) mo_omit mo_omit) (me_slc2 (me_var 1) (mo_lit _) mo_omit)) (mg_tup G.calm (mgs_cons (mg_name (i := 3) G.nd) (mgs_cons (mg_name (i := 4) G.nd) mgs_nil)))
  (mss_one (ms_set (i := 2) G.nd (me_ix (me_call G (M.fn 0 _ _ rfl) rfl (ma_cons (me_ix (me_var 2) (me_var 3) (fun _ _ => rfl)) ma_nil)) (me_var 4) (fun _ _ => rfl)))))
  (mss_one (ms_ret (me_var 2)))))
theorem der3 (G : Good (XX N3 "statement_at" s3 P w K mg base f cdv A outer s H E) (fun cls d _ H => E cls d H) cl c lv) (po : PassesOwn (model P w) (XX N3 "statement_at" s3 P w K mg base f cdv A outer s H E).A (XX N3 "statement_at" s3 P w K mg base f cdv A outer s H E).env (XX N3 "statement_at" s3 P w K mg base f cdv A outer s H E).xe) :
    MSS (XX N3 "statement_at" s3 P w K mg base f cdv A outer s H E) cl (EXW K cl fun cls d _ H => E cls d H) c (defBody s3) b_statement_at :=
  (mss_one (ms_ret (me_ix (me_call G (M.fn 2 _ _ rfl) rfl (ma_cons (me_var 0) (ma_cons (me_slc (me_var 1) mo_none (mo_some (me_un un_neg s_neg me_int))) ma_nil))) (me_ix (me_var 1) (me_un un_neg s_neg me_int) (fun _ _ => rfl)) (fun _ _ => rfl))))
theorem der4 (G : Good (XX N4 "statements_of" s4 P w K mg base f cdv A outer s H E) (fun cls d _ H => E cls d H) cl c lv) (po : PassesOwn (model P w) (XX N4 "statements_of" s4 P w K mg base f cdv A outer s H E).A (XX N4 "statements_of" s4 P w K mg base f cdv A outer s H E).env (XX N4 "statements_of" s4 P w K mg base f cdv A outer s H E).xe) :
    MSS (XX N4 "statements_of" s4 P w K mg base f cdv A outer s H E) cl (EXW K cl fun cls d _ H => E cls d H) c (defBody s4) b_statements_of :=
  (mss_one (ms_ret (me_compF (E' := EXW K cl fun _ _ _ _ => False) (own := [("path", 1)]) [1] rfl G.calm G.nd (blkOk_by (N := N4) (sc := defScope s4) (by first | decide +kernel | rfl))
    (mi_seq (me_call G (M.fn 1 _ _ rfl) rfl (ma_cons (me_ix (me_var 0) me_int (fun _ _ => rfl)) (ma_cons (me_tup ma_nil) ma_nil)))) (fun s0 H0 C0 z0 f0 => (mw_name (i := 1) (G.blk s0 H0 _ _ f0).nd))
    (fun s0 H0 C0 z0 f0 => mts_nil)
    (fun s0 H0 C0 z0 f0 => (me_call (G.blk s0 H0 _ _ f0) (M.fn 3 _ _ rfl) rfl (ma_cons (me_var 0) (ma_cons (me_var 1) ma_nil)))))))
theorem der5 (G : Good (XX N5 "spot_paths" s5 P w K mg base f cdv A outer s H E) (fun cls d _ H => E cls d H) cl c lv) (po : PassesOwn (model P w) (XX N5 "spot_paths" s5 P w K mg base f cdv A outer s H E).A (XX N5 "spot_paths" s5 P w K mg base f cdv A outer s H E).env (XX N5 "spot_paths" s5 P w K mg base f cdv A outer s H E).xe) :
    MSS (XX N5 "spot_paths" s5 P w K mg base f cdv A outer s H E) cl (EXW K cl fun cls d _ H => E cls d H) c (defBody s5) b_spot_paths :=
  (mss_cons (ms_set (i := 1) G.nd (me_call G (M.fn 1 _ _ rfl) rfl (ma_cons (me_ix (me_var 0) me_int (fun _ _ => rfl)) (ma_cons (me_tup ma_nil) ma_nil))))
  (mss_one (ms_ret (me_t1 call_tupleX s_tupleX rfl (M.fr 2 _ rfl) B_tuple (me_compF (E' := EXW K cl fun _ _ _ _ => False) (own := [("path", 2)]) [2] rfl G.calm G.nd (blkOk_by (N := N5) (sc := defScope s5) (by first | decide +kernel | rfl))
    (mi_seq (me_var 1)) (fun s0 H0 C0 z0 f0 => (mw_name (i := 2) (G.blk s0 H0 _ _ f0).nd))
    (fun s0 H0 C0 z0 f0 => (mts_one (mt_cmp (op_inA (G.blk s0 H0 _ _ f0).hu) s_in (me_ix (me_call (G.blk s0 H0 _ _ f0) (M.fn 3 _ _ rfl) rfl (ma_cons (me_var 0) (ma_cons (me_var 2) ma_nil))) me_int (fun _ _ => rfl)) (me_con (M.con 0 _ _ rfl) rfl) rfl)))
    (fun s0 H0 C0 z0 f0 => (me_var 2)))))))
theorem der6 (G : Good (XX N6 "spots_of" s6 P w K mg base f cdv A outer s H E) (fun cls d _ H => E cls d H) cl c lv) (po : PassesOwn (model P w) (XX N6 "spots_of" s6 P w K mg base f cdv A outer s H E).A (XX N6 "spots_of" s6 P w K mg base f cdv A outer s H E).env (XX N6 "spots_of" s6 P w K mg base f cdv A outer s H E).xe) :
    MSS (XX N6 "spots_of" s6 P w K mg base f cdv A outer s H E) cl (EXW K cl fun cls d _ H => E cls d H) c (defBody s6) b_spots_of :=
  (mss_one (ms_ret (me_compF (E' := EXW K cl fun _ _ _ _ => False) (own := [("statement", 1)]) [1] rfl G.calm G.nd (blkOk_by (N := N6) (sc := defScope s6) (by first | decide +kernel | rfl))
    (mi_seq (me_call G (M.fn 4 _ _ rfl) rfl (ma_cons (me_var 0) ma_nil))) (fun s0 H0 C0 z0 f0 => (mw_name (i := 1) (G.blk s0 H0 _ _ f0).nd))
    (fun s0 H0 C0 z0 f0 => (mts_one (mt_cmp (op_inA (G.blk s0 H0 _ _ f0).hu) s_in (me_ix (me_var 1) me_int (fun _ _ => rfl)) (me_con (M.con 0 _ _ rfl) rfl) rfl)))
    (fun s0 H0 C0 z0 f0 => (me_var 1)))))
theorem der7 (G : Good (XX N7 "way_count" s7 P w K mg base f cdv A outer s H E) (fun cls d _ H => E cls d H) cl c lv) (po : PassesOwn (model P w) (XX N7 "way_count" s7 P w K mg base f cdv A outer s H E).A (XX N7 "way_count" s7 P w K mg base f cdv A outer s H E).env (XX N7 "way_count" s7 P w K mg base f cdv A outer s H E).xe) :
    MSS (XX N7 "way_count" s7 P w K mg base f cdv A outer s H E) cl (EXW K cl fun cls d _ H => E cls d H) c (defBody s7) b_way_count :=
  (mss_cons (ms_set (i := 2) G.nd (me_ix (me_call G (M.fn 5 _ _ rfl) rfl (ma_cons (me_var 0) ma_nil)) (me_var 1) (fun _ _ => rfl)))
  (mss_one (ms_ret (me_dget [(w_look, 1), (w_loop, 2)] (hu1 G) (pps_cons (pe_strW w_look) pe_int (pps_cons (pe_strW w_loop) pe_int pps_nil)) (me_ix (me_var 2) me_int (fun _ _ => rfl)) (me_b1 call_len s_len rfl (M.fr 3 _ rfl) B_len (me_call G (M.fn 0 _ _ rfl) rfl (ma_cons (me_var 2) ma_nil))) ⟨rfl, rfl, rfl, rfl⟩))))
theorem der8 (G : Good (XX N8 "flow_on" s8 P w K mg base f cdv A outer s H E) (fun cls d _ H => E cls d H) cl c lv) (po : PassesOwn (model P w) (XX N8 "flow_on" s8 P w K mg base f cdv A outer s H E).A (XX N8 "flow_on" s8 P w K mg base f cdv A outer s H E).env (XX N8 "flow_on" s8 P w K mg base f cdv A outer s H E).xe) :
    MSS (XX N8 "flow_on" s8 P w K mg base f cdv A outer s H E) cl (EXW K cl fun cls d _ H => E cls d H) c (defBody s8) b_flow_on :=
  (mss_cons (ms_set (i := 3) G.nd (me_call G (M.fn 6 _ _ rfl) rfl (ma_cons (me_var 0) ma_nil)))
  (mss_cons (ms_set (i := 4) G.nd (me_lst ma_nil))
  (mss_one (ms_while po (mt_val me_bl)
  (mss_cons (ms_set (i := 5) G.nd (me_call G (M.fn 2 _ _ rfl) rfl (ma_cons (me_var 0) (ma_cons (me_var 1) ma_nil))))
  (mss_one (ms_if (mt_cmp op_lt s_lt (me_var 2) (me_b1 call_len s_len rfl (M.fr 3 _ rfl) B_len (me_var 5)) (nomark _))
  (mss_cons (ms_set (i := 6) G.nd (me_bin op_addA s_add (me_var 1) (me_tup (ma_cons (me_var 2) ma_nil))))
  (mss_cons (ms_if (mt_cmp (op_inA G.hu) s_in (me_var 6) (me_var 3) rfl)
  (mss_one (ms_ret (me_tup (ma_cons (me_t1 call_tuple_of s_tuple rfl (M.fr 2 _ rfl) B_tuple (me_var 4)) (ma_cons (me_mt1 (m_index G.hu) (me_var 3) (me_var 6)) ma_nil)))))
  mss_nil)
  (mss_cons (ms_expr (me_mt1 m_append (me_var 4) (me_ix (me_var 5) (me_var 2) (fun _ _ => rfl))))
  (mss_one (ms_aug (i := 2) G.nd iop_addA s_iadd me_int)))))
  (mss_one (ms_if (mt_cmp (op_eqD (hu64 G)) s_eq (me_var 1) (me_tup ma_nil) (nomark _))
  (mss_one (ms_ret (me_tup (ma_cons (me_t1 call_tuple_of s_tuple rfl (M.fr 2 _ rfl) B_tuple (me_var 4)) (ma_cons me_non ma_nil)))))
  (mss_cons (ms_set (i := 7) G.nd (me_slc (me_var 1) mo_none (mo_some (me_un un_neg s_neg me_int))))
  (mss_cons (ms_if (mt_cmp (op_eqD (hu64 G)) s_eq (me_ix (me_call G (M.fn 3 _ _ rfl) rfl (ma_cons (me_var 0) (ma_cons (me_var 7) ma_nil))) me_int (fun _ _ => rfl)) (me_str w_loop) (nomark _))
  (mss_one (ms_ret (me_tup (ma_cons (me_t1 call_tuple_of s_tuple rfl (M.fr 2 _ rfl) B_tuple (me_var 4)) (ma_cons (me_mt1 (m_index G.hu) (me_var 3) (me_var 7)) ma_nil)))))
  mss_nil)
  (mss_one (ms_par (i := 1) (j := 2) G.calm G.nd (ma_cons (me_slc (me_var 7) mo_none (mo_some (me_un un_neg s_neg me_int))) (ma_cons (me_bin op_addA s_add (me_ix (me_var 7) (me_un un_neg s_neg me_int) (fun _ _ => rfl)) me_int) ma_nil)) (by rfl))))))))))))))
theorem der9 (G : Good (XX N9 "flow_start" s9 P w K mg base f cdv A outer s H E) (fun cls d _ H => E cls d H) cl c lv) (po : PassesOwn (model P w) (XX N9 "flow_start" s9 P w K mg base f cdv A outer s H E).A (XX N9 "flow_start" s9 P w K mg base f cdv A outer s H E).env (XX N9 "flow_start" s9 P w K mg base f cdv A outer s H E).xe) :
    MSS (XX N9 "flow_start" s9 P w K mg base f cdv A outer s H E) cl (EXW K cl fun cls d _ H => E cls d H) c (defBody s9) b_flow_start :=
  (mss_one (ms_ret (me_call G (M.fn 7 _ _ rfl) rfl (ma_cons (me_var 0) (ma_cons (me_tup ma_nil) (ma_cons me_int ma_nil))))))
theorem der10 (G : Good (XX N10 "flow" s10 P w K mg base f cdv A outer s H E) (fun cls d _ H => E cls d H) cl c lv) (po : PassesOwn (model P w) (XX N10 "flow" s10 P w K mg base f cdv A outer s H E).A (XX N10 "flow" s10 P w K mg base f cdv A outer s H E).env (XX N10 "flow" s10 P w K mg base f cdv A outer s H E).xe) :
    MSS (XX N10 "flow" s10 P w K mg base f cdv A outer s H E) cl (EXW K cl fun cls d _ H => E cls d H) c (defBody s10) b_flow :=
  (mss_cons (ms_set (i := 3) G.nd (me_ix (me_call G (M.fn 6 _ _ rfl) rfl (ma_cons (me_var 0) ma_nil)) (me_var 1) (fun _ _ => rfl)))
  (mss_cons (ms_set (i := 4) G.nd (me_ix (me_call G (M.fn 3 _ _ rfl) rfl (ma_cons (me_var 0) (ma_cons (me_var 3) ma_nil))) me_int (fun _ _ => rfl)))
  (mss_cons (ms_if (mt_bool (mw_or (mt_cmp (op_eqD (hu64 G)) s_eq (me_var 4) (me_str w_look) (nomark _)) (mw_or1 (mt_bool (mw_and (mt_cmp (op_eqD (hu64 G)) s_eq (me_var 4) (me_str w_loop) (nomark _)) (mw_and1 (mt_cmp (op_eqD (hu64 G)) s_eq (me_var 2) me_int (nomark _))))))))
  (mss_one (ms_ret (me_call G (M.fn 7 _ _ rfl) rfl (ma_cons (me_var 0) (ma_cons (me_slc (me_var 3) mo_none (mo_some (me_un un_neg s_neg me_int))) (ma_cons (me_bin op_addA s_add (me_ix (me_var 3) (me_un un_neg s_neg me_int) (fun _ _ => rfl)) me_int) ma_nil))))))
  mss_nil)
  (mss_one (ms_ret (me_call G (M.fn 7 _ _ rfl) rfl (ma_cons (me_var 0) (ma_cons (me_bin op_addA s_add (me_var 3) (me_tup (ma_cons (me_var 2) ma_nil))) (ma_cons me_int ma_nil)))))))))
theorem der11 (G : Good (XX N11 "run_on" s11 P w K mg base f cdv A outer s H E) (fun cls d _ H => E cls d H) cl c lv) (po : PassesOwn (model P w) (XX N11 "run_on" s11 P w K mg base f cdv A outer s H E).A (XX N11 "run_on" s11 P w K mg base f cdv A outer s H E).env (XX N11 "run_on" s11 P w K mg base f cdv A outer s H E).xe) :
    MSS (XX N11 "run_on" s11 P w K mg base f cdv A outer s H E) cl (EXW K cl fun cls d _ H => E cls d H) c (defBody s11) b_run_on :=
  (mss_cons (ms_set (i := 3) G.nd (me_lst ma_nil))
  (mss_cons (ms_asg (me_call G (M.fn 8 _ _ rfl) rfl (ma_cons (me_var 0) ma_nil)) (mg_tup G.calm (mgs_cons (mg_name (i := 4) G.nd) (mgs_cons (mg_name (i := 5) G.nd) mgs_nil))))
  (mss_cons (ms_for po G.calm (mi_seq (me_var 4)) (mg_name (i := 6) G.nd)
  (mss_one (ms_expr (me_meth G w_do (by decide +kernel) (me_var 1) (ma_cons (me_var 6) ma_nil)))))
  (mss_cons (ms_for po G.calm (mi_seq (me_var 2)) (mg_name (i := 7) G.nd)
  (mss_cons (ms_if (mt_isN (me_var 5))
  (mss_one ms_brk)
  mss_nil)
  (mss_cons (ms_if (mt_cmp op_ge s_ge (me_var 7) (me_call G (M.fn 9 _ _ rfl) rfl (ma_cons (me_var 0) (ma_cons (me_var 5) ma_nil))) (nomark _))
  (mss_one (ms_ret (me_tup (ma_cons (me_t1 call_tuple_of s_tuple rfl (M.fr 2 _ rfl) B_tuple (me_var 3)) (ma_cons (me_tup (ma_cons (me_str w_astray) (ma_cons (me_var 5) ma_nil))) ma_nil)))))
  mss_nil)
  (mss_cons (ms_set (i := 8) G.nd (me_ix (me_call G (M.fn 5 _ _ rfl) rfl (ma_cons (me_var 0) ma_nil)) (me_var 5) (fun _ _ => rfl)))
  (mss_cons (ms_if (mt_cmp (op_eqD (hu64 G)) s_eq (me_ix (me_var 8) me_int (fun _ _ => rfl)) (me_str w_look) (nomark _))
  (mss_one (ms_expr (me_mt1 m_append (me_var 3) (me_tup (ma_cons (me_var 5) (ma_cons (me_meth G w_shown (by decide +kernel) (me_var 1) (ma_cons (me_ix (me_var 8) me_int (fun _ _ => rfl)) ma_nil)) ma_nil))))))
  mss_nil)
  (mss_cons (ms_asg (me_call G (M.fn 10 _ _ rfl) rfl (ma_cons (me_var 0) (ma_cons (me_var 5) (ma_cons (me_var 7) ma_nil)))) (mg_tup G.calm (mgs_cons (mg_name (i := 4) G.nd) (mgs_cons (mg_name (i := 5) G.nd) mgs_nil))))
  (mss_one (ms_for po G.calm (mi_seq (me_var 4)) (mg_name (i := 6) G.nd)
  (mss_one (ms_expr (me_meth G w_do (by decide +kernel) (me_var 1) (ma_cons (me_var 6) ma_nil))))))))))))
  (mss_one (ms_ret (me_tup (ma_cons (me_t1 call_tuple_of s_tuple rfl (M.fr 2 _ rfl) B_tuple (me_var 3)) (ma_cons (me_if (mt_isN (me_var 5)) (me_tup (ma_cons (me_str w_end) ma_nil)) (me_tup (ma_cons (me_str w_open) (ma_cons (me_var 5) ma_nil)))) ma_nil)))))))))
theorem der12 (G : Good (XX N12 "Store.__init__" s12 P w K mg base f cdv A outer s H E) (fun cls d _ H => E cls d H) cl c lv) (po : PassesOwn (model P w) (XX N12 "Store.__init__" s12 P w K mg base f cdv A outer s H E).A (XX N12 "Store.__init__" s12 P w K mg base f cdv A outer s H E).env (XX N12 "Store.__init__" s12 P w K mg base f cdv A outer s H E).xe) :
    MSS (XX N12 "Store.__init__" s12 P w K mg base f cdv A outer s H E) cl (EXW K cl fun cls d _ H => E cls d H) c (defBody s12) b_Store____init__ :=
  (mss_cons (ms_fld G w_copying (by decide +kernel) (me_var 0) (me_var 2))
  (mss_cons (ms_fld G w_slots (by decide +kernel) (me_var 0) (me_lstRg1 G.calm rfl (M.fr 4 _ rfl) rfl (M.fr 5 _ rfl) (me_var 1)))
  (mss_cons (ms_fld G w_contents (by decide +kernel) (me_var 0) (me_bin op_mulA s_mul (me_lst (ma_cons (me_tup ma_nil) ma_nil)) (me_var 1)))
  (mss_one (ms_fld G w_copies (by decide +kernel) (me_var 0) me_int)))))
theorem der13 (G : Good (XX N13 "Store.free_slot" s13 P w K mg base f cdv A outer s H E) (fun cls d _ H => E cls d H) cl c lv) (po : PassesOwn (model P w) (XX N13 "Store.free_slot" s13 P w K mg base f cdv A outer s H E).A (XX N13 "Store.free_slot" s13 P w K mg base f cdv A outer s H E).env (XX N13 "Store.free_slot" s13 P w K mg base f cdv A outer s H E).xe) :
    MSS (XX N13 "Store.free_slot" s13 P w K mg base f cdv A outer s H E) cl (EXW K cl fun cls d _ H => E cls d H) c (defBody s13) b_Store__free_slot :=
  (mss_one (ms_ret (me_b1 (call_minA G.calm) s_min rfl (M.fr 6 _ rfl) B_min (me_compF (E' := EXW K cl fun _ _ _ _ => False) (own := [("slot", 1)]) [1] rfl G.calm G.nd (blkOk_by (N := N13) (sc := defScope s13) (by first | decide +kernel | rfl))
    (mi_range1 rfl (M.fr 5 _ rfl) (me_b1 call_len s_len rfl (M.fr 3 _ rfl) B_len (me_fld w_contents (me_var 0)))) (fun s0 H0 C0 z0 f0 => (mw_name (i := 1) (G.blk s0 H0 _ _ f0).nd))
    (fun s0 H0 C0 z0 f0 => (mts_one (mt_cmp (op_notInA (G.blk s0 H0 _ _ f0).hu) s_notIn (me_var 1) (me_fld w_slots (me_var 0)) rfl)))
    (fun s0 H0 C0 z0 f0 => (me_var 1))))))
theorem der14 (G : Good (XX N14 "Store.is_alone" s14 P w K mg base f cdv A outer s H E) (fun cls d _ H => E cls d H) cl c lv) (po : PassesOwn (model P w) (XX N14 "Store.is_alone" s14 P w K mg base f cdv A outer s H E).A (XX N14 "Store.is_alone" s14 P w K mg base f cdv A outer s H E).env (XX N14 "Store.is_alone" s14 P w K mg base f cdv A outer s H E).xe) :
    MSS (XX N14 "Store.is_alone" s14 P w K mg base f cdv A outer s H E) cl (EXW K cl fun cls d _ H => E cls d H) c (defBody s14) b_Store__is_alone :=
  (mss_one (ms_ret (me_cmp (op_eqD (hu64 G)) s_eq (me_mt1 m_count (me_fld w_slots (me_var 0)) (me_ix (me_fld w_slots (me_var 0)) (me_var 1) (fun _ _ => rfl))) me_int (nomark _))))
theorem der15 (G : Good (XX N15 "Store.move" s15 P w K mg base f cdv A outer s H E) (fun cls d _ H => E cls d H) cl c lv) (po : PassesOwn (model P w) (XX N15 "Store.move" s15 P w K mg base f cdv A outer s H E).A (XX N15 "Store.move" s15 P w K mg base f cdv A outer s H E).env (XX N15 "Store.move" s15 P w K mg base f cdv A outer s H E).xe) :
    MSS (XX N15 "Store.move" s15 P w K mg base f cdv A outer s H E) cl (EXW K cl fun cls d _ H => E cls d H) c (defBody s15) b_Store__move :=
  (mss_cons (ms_asg (me_meth0 G w_free_95_slot (by decide +kernel) (me_var 0)) (mg_sub (me_fld w_slots (me_var 0)) (me_var 1)))
  (mss_one (ms_asg (me_var 2) (mg_sub (me_fld w_contents (me_var 0)) (me_ix (me_fld w_slots (me_var 0)) (me_var 1) (fun _ _ => rfl))))))
theorem der16 (G : Good (XX N16 "Store.give" s16 P w K mg base f cdv A outer s H E) (fun cls d _ H => E cls d H) cl c lv) (po : PassesOwn (model P w) (XX N16 "Store.give" s16 P w K mg base f cdv A outer s H E).A (XX N16 "Store.give" s16 P w K mg base f cdv A outer s H E).env (XX N16 "Store.give" s16 P w K mg base f cdv A outer s H E).xe) :
    MSS (XX N16 "Store.give" s16 P w K mg base f cdv A outer s H E) cl (EXW K cl fun cls d _ H => E cls d H) c (defBody s16) b_Store__give :=
  (mss_one (ms_if (mt_cmp (op_inA G.hu) s_in (me_var 1) (me_fld w_copying (me_var 0)) rfl)
  (mss_cons (ms_set (i := 4) G.nd (me_meth G w_shown (by decide +kernel) (me_var 0) (ma_cons (me_var 3) ma_nil)))
  (mss_cons (ms_asg me_non (mg_sub (me_fld w_slots (me_var 0)) (me_var 2)))
  (mss_cons (ms_expr (me_meth G w_move (by decide +kernel) (me_var 0) (ma_cons (me_var 2) (ma_cons (me_var 4) ma_nil))))
  (mss_one (ms_fldaug G w_copies (by decide +kernel) iop_addA s_iadd (me_var 0) me_int)))))
  (mss_one (ms_asg (me_ix (me_fld w_slots (me_var 0)) (me_var 3) (fun _ _ => rfl)) (mg_sub (me_fld w_slots (me_var 0)) (me_var 2))))))
theorem der17 (G : Good (XX N17 "Store.do" s17 P w K mg base f cdv A outer s H E) (fun cls d _ H => E cls d H) cl c lv) (po : PassesOwn (model P w) (XX N17 "Store.do" s17 P w K mg base f cdv A outer s H E).A (XX N17 "Store.do" s17 P w K mg base f cdv A outer s H E).env (XX N17 "Store.do" s17 P w K mg base f cdv A outer s H E).xe) :
    MSS (XX N17 "Store.do" s17 P w K mg base f cdv A outer s H E) cl (EXW K cl fun cls d _ H => E cls d H) c (defBody s17) b_Store__do :=
  (mss_one (ms_if (mt_cmp (op_eqD (hu64 G)) s_eq (me_ix (me_var 1) me_int (fun _ _ => rfl)) (me_str w_fresh) (nomark _))
  (mss_cons (ms_if (mt_not (mt_val (me_meth G w_is_95_alone (by decide +kernel) (me_var 0) (ma_cons (me_ix (me_var 1) me_int (fun _ _ => rfl)) ma_nil))))
  (mss_one (ms_expr (me_meth G w_move (by decide +kernel) (me_var 0) (ma_cons (me_ix (me_var 1) me_int (fun _ _ => rfl)) (ma_cons (me_tup ma_nil) ma_nil)))))
  mss_nil)
  (mss_one (ms_asg (me_tup ma_nil) (mg_sub (me_fld w_contents (me_var 0)) (me_ix (me_fld w_slots (me_var 0)) (me_ix (me_var 1) me_int (fun _ _ => rfl)) (fun _ _ => rfl))))))
  (mss_one (ms_if (mt_cmp (op_eqD (hu64 G)) s_eq (me_ix (me_var 1) me_int (fun _ _ => rfl)) (me_str w_give) (nomark _))
  (mss_one (ms_expr (me_meth G w_give (by decide +kernel) (me_var 0) (ma_cons (me_ix (me_var 1) me_int (fun _ _ => rfl)) (ma_cons (me_ix (me_var 1) me_int (fun _ _ => rfl)) (ma_cons (me_ix (me_var 1) me_int (fun _ _ => rfl)) ma_nil))))))
  (mss_cons (ms_if (mt_bool (mw_and (mt_cmp (op_inA G.hu) s_in (me_ix (me_var 1) me_int (fun _ _ => rfl)) (me_fld w_copying (me_var 0)) rfl) (mw_and1 (mt_not (mt_val (me_meth G w_is_95_alone (by decide +kernel) (me_var 0) (ma_cons (me_ix (me_var 1) me_int (fun _ _ => rfl)) ma_nil)))))))
  (mss_cons (ms_expr (me_meth G w_move (by decide +kernel) (me_var 0) (ma_cons (me_ix (me_var 1) me_int (fun _ _ => rfl)) (ma_cons (me_meth G w_shown (by decide +kernel) (me_var 0) (ma_cons (me_ix (me_var 1) me_int (fun _ _ => rfl)) ma_nil)) ma_nil))))
  (mss_one (ms_fldaug G w_copies (by decide +kernel) iop_addA s_iadd (me_var 0) me_int)))
  mss_nil)
  (mss_one (ms_subaug iop_addA s_iadd (me_fld w_contents (me_var 0)) (me_ix (me_fld w_slots (me_var 0)) (me_ix (me_var 1) me_int (fun _ _ => rfl)) (fun _ _ => rfl)) (me_tup (ma_cons (me_ix (me_var 1) me_int (fun _ _ => rfl)) ma_nil)))))))))
theorem der18 (G : Good (XX N18 "Store.shown" s18 P w K mg base f cdv A outer s H E) (fun cls d _ H => E cls d H) cl c lv) (po : PassesOwn (model P w) (XX N18 "Store.shown" s18 P w K mg base f cdv A outer s H E).A (XX N18 "Store.shown" s18 P w K mg base f cdv A outer s H E).env (XX N18 "Store.shown" s18 P w K mg base f cdv A outer s H E).xe) :
    MSS (XX N18 "Store.shown" s18 P w K mg base f cdv A outer s H E) cl (EXW K cl fun cls d _ H => E cls d H) c (defBody s18) b_Store__shown :=
  (mss_one (ms_ret (me_ix (me_fld w_contents (me_var 0)) (me_ix (me_fld w_slots (me_var 0)) (me_var 1) (fun _ _ => rfl)) (fun _ _ => rfl))))
theorem der19 (G : Good (XX N19 "run_store" s19 P w K mg base f cdv A outer s H E) (fun cls d _ H => E cls d H) cl c lv) (po : PassesOwn (model P w) (XX N19 "run_store" s19 P w K mg base f cdv A outer s H E).A (XX N19 "run_store" s19 P w K mg base f cdv A outer s H E).env (XX N19 "run_store" s19 P w K mg base f cdv A outer s H E).xe) :
    MSS (XX N19 "run_store" s19 P w K mg base f cdv A outer s H E) cl (EXW K cl fun cls d _ H => E cls d H) c (defBody s19) b_run_store :=
  (mss_cons (ms_set (i := 3) G.nd (me_make G (M.cl 0 _ _ _ rfl) rfl (ma_cons (me_ix (me_var 0) me_int (fun _ _ => rfl)) (ma_cons (me_var 1) ma_nil))))
  (mss_one (ms_ret (me_bin op_addA s_add (me_call G (M.fn 11 _ _ rfl) rfl (ma_cons (me_var 0) (ma_cons (me_var 3) (ma_cons (me_var 2) ma_nil)))) (me_tup (ma_cons (me_fld w_copies (me_var 3)) ma_nil))))))
theorem der20 (G : Good (XX N20 "slots_behind" s20 P w K mg base f cdv A outer s H E) (fun cls d _ H => E cls d H) cl c lv) (po : PassesOwn (model P w) (XX N20 "slots_behind" s20 P w K mg base f cdv A outer s H E).A (XX N20 "slots_behind" s20 P w K mg base f cdv A outer s H E).env (XX N20 "slots_behind" s20 P w K mg base f cdv A outer s H E).xe) :
    MSS (XX N20 "slots_behind" s20 P w K mg base f cdv A outer s H E) cl (EXW K cl fun cls d _ H => E cls d H) c (defBody s20) b_slots_behind :=
  (mss_cons (ms_set (i := 3) G.nd (me_make G (M.cl 0 _ _ _ rfl) rfl (ma_cons (me_ix (me_var 0) me_int (fun _ _ => rfl)) (ma_cons (me_var 1) ma_nil))))
  (mss_cons (ms_expr (me_call G (M.fn 11 _ _ rfl) rfl (ma_cons (me_var 0) (ma_cons (me_var 3) (ma_cons (me_var 2) ma_nil)))))
  (mss_one (ms_ret (me_t1 call_tupleX s_tupleX rfl (M.fr 2 _ rfl) B_tuple (me_fld w_slots (me_var 3)))))))
theorem der21 (G : Good (XX N21 "_law_pen" s21 P w K mg base f cdv A outer s H E) (fun cls d _ H => E cls d H) cl c lv) (po : PassesOwn (model P w) (XX N21 "_law_pen" s21 P w K mg base f cdv A outer s H E).A (XX N21 "_law_pen" s21 P w K mg base f cdv A outer s H E).env (XX N21 "_law_pen" s21 P w K mg base f cdv A outer s H E).xe) :
    MSS (XX N21 "_law_pen" s21 P w K mg base f cdv A outer s H E) cl (EXW K cl fun cls d _ H => E cls d H) c (defBody s21) b__law_pen :=
  (mss_one (ms_ret (me_lst (ma_cons (me_t1 call_list_ofF s_listF rfl (M.fr 4 _ rfl) B_list (me_slc (me_var 0) mo_none (mo_some me_int))) (ma_cons me_int (ma_cons me_int ma_nil))))))
theorem der22 (G : Good (XX N22 "_law_fresh" s22 P w K mg base f cdv A outer s H E) (fun cls d _ H => E cls d H) cl c lv) (po : PassesOwn (model P w) (XX N22 "_law_fresh" s22 P w K mg base f cdv A outer s H E).A (XX N22 "_law_fresh" s22 P w K mg base f cdv A outer s H E).env (XX N22 "_law_fresh" s22 P w K mg base f cdv A outer s H E).xe) :
    MSS (XX N22 "_law_fresh" s22 P w K mg base f cdv A outer s H E) cl (EXW K cl fun cls d _ H => E cls d H) c (defBody s22) b__law_fresh :=
  (mss_cons (ms_set (i := 1) G.nd (me_ix (me_var 0) me_int (fun _ _ => rfl)))
  (mss_cons (ms_asg (me_bin op_addA s_add (me_var 1) me_int) (mg_sub (me_var 0) me_int))
  (mss_cons (ms_set (i := 2) G.nd me_int)
  (mss_cons (ms_if (mt_cmp (op_neD (hu64 G)) s_ne (me_ix (me_var 0) me_int (fun _ _ => rfl)) (me_lstF ma_nil) (nomark _))
  (mss_one (ms_set (i := 2) G.nd (me_ix (me_ix (me_var 0) me_int (fun _ _ => rfl)) (me_bin op_mod s_mod (me_t1 call_int1 s_int rfl (M.fr 7 _ rfl) B_int (me_var 1)) (me_b1 call_len s_len rfl (M.fr 3 _ rfl) B_len (me_ix (me_var 0) me_int (fun _ _ => rfl)))) (fun _ _ => rfl))))
  mss_nil)
  (mss_cons (ms_if (mt_bool (mw_and (mt_cmp op_lt s_lt (me_var 1) (me_b1 call_len s_len rfl (M.fr 3 _ rfl) B_len (me_ix (me_var 0) me_int (fun _ _ => rfl))) (nomark _)) (mw_and1 (mt_cmp op_ge s_ge (me_var 2) (me_bin op_pow s_pow me_int me_int) (nomark _)))))
  (mss_one (ms_ret (me_bin op_sub s_sub (me_var 2) (me_bin op_pow s_pow me_int me_int))))
  mss_nil)
  (mss_cons (ms_set (i := 3) G.nd me_int)
  (mss_cons (ms_set (i := 4) G.nd (me_bin op_mod s_mod (me_t1 call_int1 s_int rfl (M.fr 7 _ rfl) B_int (me_bin op_addA s_add (me_bin op_addA s_add (me_bin op_mulA s_mul (me_var 2) me_int) (me_bin op_mulA s_mul me_int (me_var 1))) me_int)) (me_var 3)))
  (mss_cons (ms_set (i := 5) G.nd (me_var 4))
  (mss_cons (ms_for po G.calm (mi_range1 rfl (M.fr 5 _ rfl) me_int) (mg_name (i := 6) G.nd)
  (mss_cons (ms_set (i := 4) G.nd (me_bin op_mod s_mod (me_t1 call_int1 s_int rfl (M.fr 7 _ rfl) B_int (me_bin op_addA s_add (me_bin op_addA s_add (me_bin op_mulA s_mul (me_var 4) (me_var 4)) (me_bin op_mulA s_mul (me_bin op_mulA s_mul me_int (me_bin op_addA s_add (me_var 6) me_int)) (me_bin op_addA s_add (me_var 1) me_int))) (me_var 2))) (me_var 3)))
  (mss_one (ms_set (i := 5) G.nd (me_bin op_addA s_add (me_bin op_mulA s_mul (me_var 5) (me_var 3)) (me_var 4))))))
  (mss_one (ms_ret (me_var 5))))))))))))
theorem der23 (G : Good (XX N23 "_law_draw" s23 P w K mg base f cdv A outer s H E) (fun cls d _ H => E cls d H) cl c lv) (po : PassesOwn (model P w) (XX N23 "_law_draw" s23 P w K mg base f cdv A outer s H E).A (XX N23 "_law_draw" s23 P w K mg base f cdv A outer s H E).env (XX N23 "_law_draw" s23 P w K mg base f cdv A outer s H E).xe) :
    MSS (XX N23 "_law_draw" s23 P w K mg base f cdv A outer s H E) cl (EXW K cl fun cls d _ H => E cls d H) c (defBody s23) b__law_draw :=
  (mss_cons (ms_if (mt_cmp op_lt s_lt (me_ix (me_var 0) me_int (fun _ _ => rfl)) (me_var 1) (nomark _))
  (mss_one (ms_asg (me_call G (M.fn 12 _ _ rfl) rfl (ma_cons (me_var 0) ma_nil)) (mg_sub (me_var 0) me_int)))
  mss_nil)
  (mss_cons (ms_set (i := 2) G.nd (me_bin op_mod s_mod (me_t1 call_int1 s_int rfl (M.fr 7 _ rfl) B_int (me_ix (me_var 0) me_int (fun _ _ => rfl))) (me_var 1)))
  (mss_cons (ms_asg (me_bin op_fdiv s_div (me_t1 call_int1 s_int rfl (M.fr 7 _ rfl) B_int (me_ix (me_var 0) me_int (fun _ _ => rfl))) (me_var 1)) (mg_sub (me_var 0) me_int))
  (mss_one (ms_ret (me_var 2))))))
theorem der24 (G : Good (XX N24 "_law_blocks" s24 P w K mg base f cdv A outer s H E) (fun cls d _ H => E cls d H) cl c lv) (po : PassesOwn (model P w) (XX N24 "_law_blocks" s24 P w K mg base f cdv A outer s H E).A (XX N24 "_law_blocks" s24 P w K mg base f cdv A outer s H E).env (XX N24 "_law_blocks" s24 P w K mg base f cdv A outer s H E).xe) :
    MSS (XX N24 "_law_blocks" s24 P w K mg base f cdv A outer s H E) cl (EXW K cl fun cls d _ H => E cls d H) c (defBody s24) b__law_blocks :=
  (mss_cons (ms_if (mt_cmp (op_eqD (hu64 G)) s_eq (me_ix (me_var 0) me_int (fun _ _ => rfl)) (me_str w_choose) (nomark _))
  (mss_one (ms_ret (me_t1 call_list_ofF s_listF rfl (M.fr 4 _ rfl) B_list (me_ix (me_var 0) me_int (fun _ _ => rfl)))))
  mss_nil)
  (mss_one (ms_ret (me_if (mt_cmp (op_eqD (hu64 G)) s_eq (me_ix (me_var 0) me_int (fun _ _ => rfl)) (me_str w_loop) (nomark _)) (me_lstF (ma_cons (me_ix (me_var 0) me_int (fun _ _ => rfl)) ma_nil)) (me_lstF ma_nil)))))
theorem der25 (G : Good (XX N25 "_law_all_paths" s25 P w K mg base f cdv A outer s H E) (fun cls d _ H => E cls d H) cl c lv) (po : PassesOwn (model P w) (XX N25 "_law_all_paths" s25 P w K mg base f cdv A outer s H E).A (XX N25 "_law_all_paths" s25 P w K mg base f cdv A outer s H E).env (XX N25 "_law_all_paths" s25 P w K mg base f cdv A outer s H E).xe) :
    MSS (XX N25 "_law_all_paths" s25 P w K mg base f cdv A outer s H E) cl (EXW K cl fun cls d _ H => E cls d H) c (defBody s25) b__law_all_paths :=
  (mss_cons (ms_set (i := 2) G.nd (me_lst ma_nil))
  (mss_cons (ms_for po G.calm (mi_enum rfl (M.fr 0 _ rfl) (me_var 0)) (mg_tup G.calm (mgs_cons (mg_name (i := 3) G.nd) (mgs_cons (mg_name (i := 4) G.nd) mgs_nil)))
  (mss_cons (ms_expr (me_mt1 m_append (me_var 2) (me_bin op_addA s_add (me_var 1) (me_tup (ma_cons (me_var 3) ma_nil)))))
  (mss_one (ms_for po G.calm (mi_enum rfl (M.fr 0 _ rfl) (me_call G (M.fn 13 _ _ rfl) rfl (ma_cons (me_var 4) ma_nil))) (mg_tup G.calm (mgs_cons (mg_name (i := 5) G.nd) (mgs_cons (mg_name (i := 6) G.nd) mgs_nil)))
  (mss_one (ms_expr (me_mt1 m_extend (me_var 2) (me_call G (M.fn 14 _ _ rfl) rfl (ma_cons (me_var 6) (ma_cons (me_bin op_addA s_add (me_var 1) (me_tup (ma_cons (me_var 3) (ma_cons (me_var 5) ma_nil)))) ma_nil))))))))))
  (mss_one (ms_ret (me_var 2)))))
theorem der26 (G : Good (XX N26 "_law_block_at" s26 P w K mg base f cdv A outer s H E) (fun cls d _ H => E cls d H) cl c lv) (po : PassesOwn (model P w) (XX N26 "_law_block_at" s26 P w K mg base f cdv A outer s H E).A (XX N26 "_law_block_at" s26 P w K mg base f cdv A outer s H E).env (XX N26 "_law_block_at" s26 P w K mg base f cdv A outer s H E).xe) :
    MSS (XX N26 "_law_block_at" s26 P w K mg base f cdv A outer s H E) cl (EXW K cl fun cls d _ H => E cls d H) c (defBody s26) b__law_block_at :=
  (mss_cons (ms_set (i := 2) G.nd (me_ix (me_var 0) me_int (fun _ _ => rfl)))
  (mss_cons (ms_for po G.calm (mi_range3 rfl (M.fr 5 _ rfl) (me_b1 call_len s_len rfl (M.fr 3 _ rfl) B_len (me_var 1))) (mg_name (i := 3) G.nd)
  (mss_one (ms_set (i := 2) G.nd (me_ix (me_call G (M.fn 13 _ _ rfl) rfl (ma_cons (me_ix (me_var 2) (me_ix (me_var 1) (me_var 3) (fun _ _ => rfl)) (fun _ _ => rfl)) ma_nil)) (me_ix (me_var 1) (me_bin op_addA s_add (me_var 3) me_int) (fun _ _ => rfl)) (fun _ _ => rfl)))))
  (mss_one (ms_ret (me_var 2)))))
theorem der27 (G : Good (XX N27 "_law_at" s27 P w K mg base f cdv A outer s H E) (fun cls d _ H => E cls d H) cl c lv) (po : PassesOwn (model P w) (XX N27 "_law_at" s27 P w K mg base f cdv A outer s H E).A (XX N27 "_law_at" s27 P w K mg base f cdv A outer s H E).env (XX N27 "_law_at" s27 P w K mg base f cdv A outer s H E).xe) :
    MSS (XX N27 "_law_at" s27 P w K mg base f cdv A outer s H E) cl (EXW K cl fun cls d _ H => E cls d H) c (defBody s27) b__law_at :=
  (mss_one (ms_ret (me_ix (me_call G (M.fn 15 _ _ rfl) rfl (ma_cons (me_var 0) (ma_cons (me_slc (me_var 1) mo_none (mo_some (me_un un_neg s_neg me_int))) ma_nil))) (me_ix (me_var 1) (me_un un_neg s_neg me_int) (fun _ _ => rfl)) (fun _ _ => rfl))))
theorem der28 (G : Good (XX N28 "_law_statement" s28 P w K mg base f cdv A outer s H E) (fun cls d _ H => E cls d H) cl c lv) (po : PassesOwn (model P w) (XX N28 "_law_statement" s28 P w K mg base f cdv A outer s H E).A (XX N28 "_law_statement" s28 P w K mg base f cdv A outer s H E).env (XX N28 "_law_statement" s28 P w K mg base f cdv A outer s H E).xe) :
    MSS (XX N28 "_law_statement" s28 P w K mg base f cdv A outer s H E) cl (EXW K cl fun cls d _ H => E cls d H) c (defBody s28) b__law_statement :=
  (mss_cons (ms_asg (me_bin op_sub s_sub (me_ix (me_var 3) me_int (fun _ _ => rfl)) me_int) (mg_sub (me_var 3) me_int))
  (mss_cons (ms_par (i := 4) (j := 5) G.calm G.nd (ma_cons (me_call G (M.fn 16 _ _ rfl) rfl (ma_cons (me_var 0) (ma_cons me_int ma_nil))) (ma_cons (me_call G (M.fn 16 _ _ rfl) rfl (ma_cons (me_var 0) (ma_cons (me_var 1) ma_nil))) ma_nil)) (by rfl))
  (mss_cons (ms_if (mt_bool (mw_and (mt_cmp op_lt s_lt (me_var 4) me_int (nomark _)) (mw_and1 (mt_cmp op_gt s_gt (me_ix (me_var 3) me_int (fun _ _ => rfl)) me_int (nomark _)))))
  (mss_cons (ms_asg (me_bin op_sub s_sub (me_ix (me_var 3) me_int (fun _ _ => rfl)) me_int) (mg_sub (me_var 3) me_int))
  (mss_one (ms_ret (me_tup (ma_cons (me_str w_look) (ma_cons (me_var 5) ma_nil))))))
  mss_nil)
  (mss_cons (ms_if (mt_bool (mw_and (mt_cmp op_lt s_lt (me_var 4) me_int (nomark _)) (mw_and (mt_cmp op_gt s_gt (me_ix (me_var 3) me_int (fun _ _ => rfl)) me_int (nomark _)) (mw_and1 (mt_cmp op_gt s_gt (me_ix (me_var 3) me_int (fun _ _ => rfl)) me_int (nomark _))))))
  (mss_cons (ms_asg (me_tup (ma_cons (me_bin op_sub s_sub (me_ix (me_var 3) me_int (fun _ _ => rfl)) me_int) (ma_cons (me_bin op_sub s_sub (me_ix (me_var 3) me_int (fun _ _ => rfl)) me_int) ma_nil))) (mg_tup G.calm (mgs_cons (mg_sub (me_var 3) me_int) (mgs_cons (mg_sub (me_var 3) me_int) mgs_nil))))
  (mss_cons (ms_set (i := 6) G.nd (me_ix (me_lstF (ma_cons me_int (ma_cons me_int (ma_cons me_int (ma_cons me_int ma_nil))))) (me_call G (M.fn 16 _ _ rfl) rfl (ma_cons (me_var 0) (ma_cons me_int ma_nil))) (fun _ _ => rfl)))
  (mss_cons (ms_set (i := 7) G.nd (me_t1 call_tuple_of s_tuple rfl (M.fr 2 _ rfl) B_tuple (me_compF (E' := EXW K cl fun _ _ _ _ => False) (own := [("lap", 8)]) [8] rfl G.calm G.nd (blkOk_by (N := N28) (sc := defScope s28) (by first | decide +kernel | rfl))
    (mi_range1 rfl (M.fr 5 _ rfl) (me_var 6)) (fun s0 H0 C0 z0 f0 => (mw_name (i := 8) (G.blk s0 H0 _ _ f0).nd))
    (fun s0 H0 C0 z0 f0 => mts_nil)
    (fun s0 H0 C0 z0 f0 => (me_call (G.blk s0 H0 _ _ f0) (M.fn 17 _ _ rfl) rfl (ma_cons (me_var 0) (ma_cons (me_var 1) (ma_cons (me_var 2) (ma_cons (me_var 3) ma_nil)))))))))
  (mss_cons (ms_asg (me_bin op_addA s_add (me_ix (me_var 3) me_int (fun _ _ => rfl)) me_int) (mg_sub (me_var 3) me_int))
  (mss_one (ms_ret (me_if (mt_cmp (op_eqD (hu64 G)) s_eq (me_b1 call_len s_len rfl (M.fr 3 _ rfl) B_len (me_var 7)) me_int (nomark _)) (me_tup (ma_cons (me_str w_loop) (ma_cons (me_ix (me_var 7) me_int (fun _ _ => rfl)) ma_nil))) (me_tup (ma_cons (me_str w_choose) (ma_cons (me_var 7) ma_nil))))))))))
  mss_nil)
  (mss_cons (ms_if (mt_bool (mw_and (mt_cmp op_lt s_lt (me_var 4) me_int (nomark _)) (mw_and1 (mt_cmp op_gt s_gt (me_var 1) me_int (nomark _)))))
  (mss_one (ms_ret (me_tup (ma_cons (me_str w_give) (ma_cons (me_call G (M.fn 16 _ _ rfl) rfl (ma_cons (me_var 0) (ma_cons (me_var 2) ma_nil))) (ma_cons (me_var 5) (ma_cons (me_bin op_mod s_mod (me_t1 call_int1 s_int rfl (M.fr 7 _ rfl) B_int (me_bin op_addA s_add (me_bin op_addA s_add (me_var 5) me_int) (me_call G (M.fn 16 _ _ rfl) rfl (ma_cons (me_var 0) (ma_cons (me_bin op_sub s_sub (me_var 1) me_int) ma_nil))))) (me_var 1)) ma_nil)))))))
  mss_nil)
  (mss_one (ms_ret (me_if (mt_cmp op_lt s_lt (me_var 4) me_int (nomark _)) (me_tup (ma_cons (me_str w_change) (ma_cons (me_call G (M.fn 16 _ _ rfl) rfl (ma_cons (me_var 0) (ma_cons (me_var 2) ma_nil))) (ma_cons (me_var 5) (ma_cons (me_call G (M.fn 16 _ _ rfl) rfl (ma_cons (me_var 0) (ma_cons me_int ma_nil))) ma_nil))))) (me_tup (ma_cons (me_str w_fresh) (ma_cons (me_var 5) ma_nil)))))))))))
theorem der29 (G : Good (XX N29 "_law_block" s29 P w K mg base f cdv A outer s H E) (fun cls d _ H => E cls d H) cl c lv) (po : PassesOwn (model P w) (XX N29 "_law_block" s29 P w K mg base f cdv A outer s H E).A (XX N29 "_law_block" s29 P w K mg base f cdv A outer s H E).env (XX N29 "_law_block" s29 P w K mg base f cdv A outer s H E).xe) :
    MSS (XX N29 "_law_block" s29 P w K mg base f cdv A outer s H E) cl (EXW K cl fun cls d _ H => E cls d H) c (defBody s29) b__law_block :=
  (mss_cons (ms_set (i := 4) G.nd (me_lst ma_nil))
  (mss_cons (ms_for po G.calm (mi_range1 rfl (M.fr 5 _ rfl) (me_call G (M.fn 16 _ _ rfl) rfl (ma_cons (me_var 0) (ma_cons me_int ma_nil)))) (mg_name (i := 5) G.nd)
  (mss_one (ms_if (mt_cmp op_gt s_gt (me_ix (me_var 3) me_int (fun _ _ => rfl)) me_int (nomark _))
  (mss_one (ms_expr (me_mt1 m_append (me_var 4) (me_call G (M.fn 18 _ _ rfl) rfl (ma_cons (me_var 0) (ma_cons (me_var 1) (ma_cons (me_var 2) (ma_cons (me_var 3) ma_nil))))))))
  mss_nil)))
  (mss_one (ms_ret (me_t1 call_tuple_of s_tuple rfl (M.fr 2 _ rfl) B_tuple (me_var 4))))))
theorem der30 (G : Good (XX N30 "_law_program" s30 P w K mg base f cdv A outer s H E) (fun cls d _ H => E cls d H) cl c lv) (po : PassesOwn (model P w) (XX N30 "_law_program" s30 P w K mg base f cdv A outer s H E).A (XX N30 "_law_program" s30 P w K mg base f cdv A outer s H E).env (XX N30 "_law_program" s30 P w K mg base f cdv A outer s H E).xe) :
    MSS (XX N30 "_law_program" s30 P w K mg base f cdv A outer s H E) cl (EXW K cl fun cls d _ H => E cls d H) c (defBody s30) b__law_program :=
  (mss_cons (ms_par (i := 5) (j := 6) G.calm G.nd (ma_cons (me_lst (ma_cons me_int (ma_cons (me_var 3) (ma_cons (me_var 4) ma_nil)))) (ma_cons (me_lst ma_nil) ma_nil)) (by rfl))
  (mss_cons (ms_for po G.calm (mi_range1 rfl (M.fr 5 _ rfl) (me_bin op_addA s_add me_int (me_call G (M.fn 16 _ _ rfl) rfl (ma_cons (me_var 0) (ma_cons me_int ma_nil))))) (mg_name (i := 7) G.nd)
  (mss_one (ms_if (mt_cmp op_gt s_gt (me_ix (me_var 5) me_int (fun _ _ => rfl)) me_int (nomark _))
  (mss_one (ms_expr (me_mt1 m_append (me_var 6) (me_call G (M.fn 18 _ _ rfl) rfl (ma_cons (me_var 0) (ma_cons (me_var 1) (ma_cons (me_var 2) (ma_cons (me_var 5) ma_nil))))))))
  mss_nil)))
  (mss_cons (ms_if (mt_bool (mw_and (mt_cmp op_gt s_gt (me_ix (me_var 5) me_int (fun _ _ => rfl)) me_int (nomark _)) (mw_and (mt_cmp op_gt s_gt (me_ix (me_var 5) me_int (fun _ _ => rfl)) me_int (nomark _)) (mw_and1 (mt_cmp (op_eqD (hu64 G)) s_eq (me_call G (M.fn 16 _ _ rfl) rfl (ma_cons (me_var 0) (ma_cons me_int ma_nil))) me_int (nomark _))))))
  (mss_one (ms_expr (me_mt1 m_append (me_var 6) (me_tup (ma_cons (me_str w_look) (ma_cons (me_call G (M.fn 16 _ _ rfl) rfl (ma_cons (me_var 0) (ma_cons (me_var 1) ma_nil))) ma_nil))))))
  mss_nil)
  (mss_one (ms_ret (me_tup (ma_cons (me_var 1) (ma_cons (me_t1 call_tuple_of s_tuple rfl (M.fr 2 _ rfl) B_tuple (me_var 6)) ma_nil))))))))
theorem der31 (G : Good (XX N31 "_law_list" s31 P w K mg base f cdv A outer s H E) (fun cls d _ H => E cls d H) cl c lv) (po : PassesOwn (model P w) (XX N31 "_law_list" s31 P w K mg base f cdv A outer s H E).A (XX N31 "_law_list" s31 P w K mg base f cdv A outer s H E).env (XX N31 "_law_list" s31 P w K mg base f cdv A outer s H E).xe) :
    MSS (XX N31 "_law_list" s31 P w K mg base f cdv A outer s H E) cl (EXW K cl fun cls d _ H => E cls d H) c (defBody s31) b__law_list :=
  (mss_one (ms_ret (me_t1 call_tuple_of s_tuple rfl (M.fr 2 _ rfl) B_tuple (me_compF (E' := EXW K cl fun _ _ _ _ => False) (own := [("lap", 2)]) [2] rfl G.calm G.nd (blkOk_by (N := N31) (sc := defScope s31) (by first | decide +kernel | rfl))
    (mi_range1 rfl (M.fr 5 _ rfl) (me_call G (M.fn 16 _ _ rfl) rfl (ma_cons (me_var 0) (ma_cons (me_bin op_addA s_add (me_var 1) me_int) ma_nil)))) (fun s0 H0 C0 z0 f0 => (mw_name (i := 2) (G.blk s0 H0 _ _ f0).nd))
    (fun s0 H0 C0 z0 f0 => mts_nil)
    (fun s0 H0 C0 z0 f0 => (me_ix (me_lstF (ma_cons me_int (ma_cons me_int (ma_cons me_int (ma_cons me_int (ma_cons me_int (ma_cons me_int ma_nil))))))) (me_call (G.blk s0 H0 _ _ f0) (M.fn 16 _ _ rfl) rfl (ma_cons (me_var 0) (ma_cons me_int ma_nil))) (fun _ _ => rfl)))))))
theorem der32 (G : Good (XX N32 "_law_copying" s32 P w K mg base f cdv A outer s H E) (fun cls d _ H => E cls d H) cl c lv) (po : PassesOwn (model P w) (XX N32 "_law_copying" s32 P w K mg base f cdv A outer s H E).A (XX N32 "_law_copying" s32 P w K mg base f cdv A outer s H E).env (XX N32 "_law_copying" s32 P w K mg base f cdv A outer s H E).xe) :
    MSS (XX N32 "_law_copying" s32 P w K mg base f cdv A outer s H E) cl (EXW K cl fun cls d _ H => E cls d H) c (defBody s32) b__law_copying :=
  (mss_one (ms_ret (me_t1 call_tuple_of s_tuple rfl (M.fr 2 _ rfl) B_tuple (me_compF (E' := EXW K cl fun _ _ _ _ => False) (own := [("label", 2)]) [2] rfl G.calm G.nd (blkOk_by (N := N32) (sc := defScope s32) (by first | decide +kernel | rfl))
    (mi_range1 rfl (M.fr 5 _ rfl) (me_var 1)) (fun s0 H0 C0 z0 f0 => (mw_name (i := 2) (G.blk s0 H0 _ _ f0).nd))
    (fun s0 H0 C0 z0 f0 => (mts_one (mt_cmp (op_eqD (hu64 (G.blk s0 H0 _ _ f0))) s_eq (me_call (G.blk s0 H0 _ _ f0) (M.fn 16 _ _ rfl) rfl (ma_cons (me_var 0) (ma_cons me_int ma_nil))) me_int (nomark _))))
    (fun s0 H0 C0 z0 f0 => (me_var 2))))))
theorem der33 (G : Good (XX N33 "_law_some_program" s33 P w K mg base f cdv A outer s H E) (fun cls d _ H => E cls d H) cl c lv) (po : PassesOwn (model P w) (XX N33 "_law_some_program" s33 P w K mg base f cdv A outer s H E).A (XX N33 "_law_some_program" s33 P w K mg base f cdv A outer s H E).env (XX N33 "_law_some_program" s33 P w K mg base f cdv A outer s H E).xe) :
    MSS (XX N33 "_law_some_program" s33 P w K mg base f cdv A outer s H E) cl (EXW K cl fun cls d _ H => E cls d H) c (defBody s33) b__law_some_program :=
  (mss_cons (ms_par (i := 1) (j := 2) G.calm G.nd (ma_cons (me_ix (me_lstF (ma_cons me_int (ma_cons me_int (ma_cons me_int (ma_cons me_int (ma_cons me_int (ma_cons me_int (ma_cons me_int ma_nil)))))))) (me_call G (M.fn 16 _ _ rfl) rfl (ma_cons (me_var 0) (ma_cons me_int ma_nil))) (fun _ _ => rfl)) (ma_cons (me_bin op_addA s_add me_int (me_call G (M.fn 16 _ _ rfl) rfl (ma_cons (me_var 0) (ma_cons me_int ma_nil)))) ma_nil)) (by rfl))
  (mss_one (ms_ret (me_call G (M.fn 19 _ _ rfl) rfl (ma_cons (me_var 0) (ma_cons (me_var 1) (ma_cons (me_var 2) (ma_cons (me_bin op_addA s_add me_int (me_call G (M.fn 16 _ _ rfl) rfl (ma_cons (me_var 0) (ma_cons me_int ma_nil)))) (ma_cons (me_bin op_addA s_add me_int (me_call G (M.fn 16 _ _ rfl) rfl (ma_cons (me_var 0) (ma_cons me_int ma_nil)))) ma_nil)))))))))
theorem der34 (G : Good (XX N34 "_law_mapped" s34 P w K mg base f cdv A outer s H E) (fun cls d _ H => E cls d H) cl c lv) (po : PassesOwn (model P w) (XX N34 "_law_mapped" s34 P w K mg base f cdv A outer s H E).A (XX N34 "_law_mapped" s34 P w K mg base f cdv A outer s H E).env (XX N34 "_law_mapped" s34 P w K mg base f cdv A outer s H E).xe) :
    MSS (XX N34 "_law_mapped" s34 P w K mg base f cdv A outer s H E) cl (EXW K cl fun cls d _ H => E cls d H) c (defBody s34) b__law_mapped :=
  (mss_cons (ms_set (i := 3) G.nd (me_lst ma_nil))
  (mss_cons (ms_for po G.calm (mi_seq (me_var 0)) (mg_name (i := 4) G.nd)
  (mss_one (ms_if (mt_cmp (op_inA G.hu) s_in (me_ix (me_var 4) me_int (fun _ _ => rfl)) (me_tup (ma_cons (me_str w_fresh) (ma_cons (me_str w_look) ma_nil))) rfl)
  (mss_one (ms_expr (me_mt1 m_append (me_var 3) (me_tup (ma_cons (me_ix (me_var 4) me_int (fun _ _ => rfl)) (ma_cons (me_ix (me_var 1) (me_ix (me_var 4) me_int (fun _ _ => rfl)) (fun _ _ => rfl)) ma_nil))))))
  (mss_one (ms_if (mt_cmp (op_eqD (hu64 G)) s_eq (me_ix (me_var 4) me_int (fun _ _ => rfl)) (me_str w_give) (nomark _))
  (mss_one (ms_expr (me_mt1 m_append (me_var 3) (me_tup (ma_cons (me_str w_give) (ma_cons (me_ix (me_var 4) me_int (fun _ _ => rfl)) (ma_cons (me_ix (me_var 1) (me_ix (me_var 4) me_int (fun _ _ => rfl)) (fun _ _ => rfl)) (ma_cons (me_ix (me_var 1) (me_ix (me_var 4) me_int (fun _ _ => rfl)) (fun _ _ => rfl)) ma_nil))))))))
  (mss_one (ms_if (mt_cmp (op_eqD (hu64 G)) s_eq (me_ix (me_var 4) me_int (fun _ _ => rfl)) (me_str w_change) (nomark _))
  (mss_one (ms_expr (me_mt1 m_append (me_var 3) (me_tup (ma_cons (me_str w_change) (ma_cons (me_ix (me_var 4) me_int (fun _ _ => rfl)) (ma_cons (me_ix (me_var 1) (me_ix (me_var 4) me_int (fun _ _ => rfl)) (fun _ _ => rfl)) (ma_cons (me_ix (me_var 2) (me_ix (me_var 4) me_int (fun _ _ => rfl)) (fun _ _ => rfl)) ma_nil))))))))
  (mss_one (ms_if (mt_cmp (op_eqD (hu64 G)) s_eq (me_ix (me_var 4) me_int (fun _ _ => rfl)) (me_str w_choose) (nomark _))
  (mss_one (ms_expr (me_mt1 m_append (me_var 3) (me_tup (ma_cons (me_str w_choose) (ma_cons (me_t1 call_tuple_of s_tuple rfl (M.fr 2 _ rfl) B_tuple (me_compF (E' := EXW K cl fun _ _ _ _ => False) (own := [("one", 5)]) [5] rfl G.calm G.nd (blkOk_by (N := N34) (sc := defScope s34) (by first | decide +kernel | rfl))
    (mi_seq (me_ix (me_var 4) me_int (fun _ _ => rfl))) (fun s0 H0 C0 z0 f0 => (mw_name (i := 5) (G.blk s0 H0 _ _ f0).nd))
    (fun s0 H0 C0 z0 f0 => mts_nil)
    (fun s0 H0 C0 z0 f0 => (me_call (G.blk s0 H0 _ _ f0) (M.fn 20 _ _ rfl) rfl (ma_cons (me_var 5) (ma_cons (me_var 1) (ma_cons (me_var 2) ma_nil))))))) ma_nil))))))
  (mss_one (ms_expr (me_mt1 m_append (me_var 3) (me_tup (ma_cons (me_str w_loop) (ma_cons (me_call G (M.fn 20 _ _ rfl) rfl (ma_cons (me_ix (me_var 4) me_int (fun _ _ => rfl)) (ma_cons (me_var 1) (ma_cons (me_var 2) ma_nil)))) ma_nil)))))))))))))))
  (mss_one (ms_ret (me_t1 call_tuple_of s_tuple rfl (M.fr 2 _ rfl) B_tuple (me_var 3))))))
theorem der35 (G : Good (XX N35 "_law_shuffled" s35 P w K mg base f cdv A outer s H E) (fun cls d _ H => E cls d H) cl c lv) (po : PassesOwn (model P w) (XX N35 "_law_shuffled" s35 P w K mg base f cdv A outer s H E).A (XX N35 "_law_shuffled" s35 P w K mg base f cdv A outer s H E).env (XX N35 "_law_shuffled" s35 P w K mg base f cdv A outer s H E).xe) :
    MSS (XX N35 "_law_shuffled" s35 P w K mg base f cdv A outer s H E) cl (EXW K cl fun cls d _ H => E cls d H) c (defBody s35) b__law_shuffled :=
  (mss_cons (ms_set (i := 2) G.nd (me_lstRg1 G.calm rfl (M.fr 4 _ rfl) rfl (M.fr 5 _ rfl) (me_var 1)))
  (mss_cons (ms_for po G.calm (mi_range1 rfl (M.fr 5 _ rfl) (me_var 1)) (mg_name (i := 3) G.nd)
  (mss_cons (ms_set (i := 4) G.nd (me_call G (M.fn 16 _ _ rfl) rfl (ma_cons (me_var 0) (ma_cons (me_var 1) ma_nil))))
  (mss_one (ms_asg (me_tup (ma_cons (me_ix (me_var 2) (me_var 4) (fun _ _ => rfl)) (ma_cons (me_ix (me_var 2) (me_var 3) (fun _ _ => rfl)) ma_nil))) (mg_tup G.calm (mgs_cons (mg_sub (me_var 2) (me_var 3)) (mgs_cons (mg_sub (me_var 2) (me_var 4)) mgs_nil)))))))
  (mss_one (ms_ret (me_var 2)))))
theorem der36 (G : Good (XX N36 "law" s36 P w K mg base f cdv A outer s H E) (fun cls d _ H => E cls d H) cl c lv) (po : PassesOwn (model P w) (XX N36 "law" s36 P w K mg base f cdv A outer s H E).A (XX N36 "law" s36 P w K mg base f cdv A outer s H E).env (XX N36 "law" s36 P w K mg base f cdv A outer s H E).xe) :
    MSS (XX N36 "law" s36 P w K mg base f cdv A outer s H E) cl (EXW K cl fun cls d _ H => E cls d H) c (defBody s36) b_law :=
  (mss_cons (ms_set (i := 1) G.nd (me_call G (M.fn 21 _ _ rfl) rfl (ma_cons (me_var 0) ma_nil)))
  (mss_cons (ms_for po G.calm (mi_range1 rfl (M.fr 5 _ rfl) (me_b2 (call_max2 G.calm) s_max2 rfl (M.fr 8 _ rfl) B_max me_int (me_b2 (call_min2 G.calm) s_min2 rfl (M.fr 6 _ rfl) B_min me_int (me_b1 call_len s_len rfl (M.fr 3 _ rfl) B_len (me_var 0))))) (mg_name (i := 2) G.nd)
  (mss_cons (ms_asg (me_tup (ma_cons (me_call G (M.fn 23 _ _ rfl) rfl (ma_cons (me_var 1) ma_nil)) (ma_cons (me_call G (M.fn 22 _ _ rfl) rfl (ma_cons (me_var 1) (ma_cons me_int ma_nil))) ma_nil))) (mg_tup G.calm (mgs_cons (mg_name (i := 3) G.nd) (mgs_cons (mg_name (i := 4) G.nd) mgs_nil))))
  (mss_cons (ms_set (i := 5) G.nd (me_tup (ma_cons (me_ix (me_var 3) me_int (fun _ _ => rfl)) (ma_cons (me_call G (M.fn 20 _ _ rfl) rfl (ma_cons (me_ix (me_var 3) me_int (fun _ _ => rfl)) (ma_cons (me_lstRgF1 G.calm rfl (M.fr 4 _ rfl) rfl (M.fr 5 _ rfl) me_int) (ma_cons (me_call G (M.fn 24 _ _ rfl) rfl (ma_cons (me_var 1) (ma_cons me_int ma_nil))) ma_nil)))) ma_nil))))
  (mss_one (ms_for po G.calm (mi_range1 rfl (M.fr 5 _ rfl) me_int) (mg_name (i := 6) G.nd)
  (mss_cons (ms_par (i := 7) (j := 8) G.calm G.nd (ma_cons (me_call G (M.fn 25 _ _ rfl) rfl (ma_cons (me_var 1) (ma_cons me_int ma_nil))) (ma_cons (me_call G (M.fn 25 _ _ rfl) rfl (ma_cons (me_var 1) (ma_cons me_int ma_nil))) ma_nil)) (by rfl))
  (mss_cons (ms_set (i := 9) G.nd (me_bin op_addA s_add (me_var 7) (me_var 8)))
  (mss_cons (ms_par (i := 10) (j := 11) G.calm G.nd (ma_cons (me_call G (M.fn 26 _ _ rfl) rfl (ma_cons (me_var 3) (ma_cons (me_var 4) (ma_cons (me_var 7) ma_nil)))) (ma_cons (me_call G (M.fn 26 _ _ rfl) rfl (ma_cons (me_var 3) (ma_cons (me_var 4) (ma_cons (me_var 9) ma_nil)))) ma_nil)) (by rfl))
  (mss_cons (ms_if (mt_bool (mw_or (mt_cmp (op_neD (hu64 G)) s_ne (me_ix (me_call G (M.fn 26 _ _ rfl) rfl (ma_cons (me_var 3) (ma_cons (me_tup ma_nil) (ma_cons (me_var 9) ma_nil)))) me_int (fun _ _ => rfl)) me_int (nomark _)) (mw_or1 (mt_not (mt_chain op_le op_le s_le s_le me_int (me_ix (me_var 10) me_int (fun _ _ => rfl)) (me_ix (me_var 11) me_int (fun _ _ => rfl)))))))
  (mss_one (ms_ret me_bl))
  mss_nil)
  (mss_cons (ms_if (mt_cmp (op_neD (hu64 G)) s_ne (me_ix (me_call G (M.fn 26 _ _ rfl) rfl (ma_cons (me_var 5) (ma_cons (me_var 4) (ma_cons (me_var 9) ma_nil)))) me_int (fun _ _ => rfl)) (me_ix (me_var 11) me_int (fun _ _ => rfl)) (nomark _))
  (mss_one (ms_ret me_bl))
  mss_nil)
  (mss_cons (ms_if (mt_cmp (op_neD (hu64 G)) s_ne (me_call G (M.fn 27 _ _ rfl) rfl (ma_cons (me_var 5) (ma_cons (me_var 4) (ma_cons (me_var 9) ma_nil)))) (me_call G (M.fn 27 _ _ rfl) rfl (ma_cons (me_var 3) (ma_cons (me_var 4) (ma_cons (me_var 9) ma_nil)))) (nomark _))
  (mss_one (ms_ret me_bl))
  mss_nil)
  (mss_cons (ms_set (i := 12) G.nd (me_compF (E' := EXW K cl fun _ _ _ _ => False) (own := [("path", 14)]) [14] rfl G.calm G.nd (blkOk_by (N := N36) (sc := defScope s36) (by first | decide +kernel | rfl))
    (mi_seq (me_call G (M.fn 14 _ _ rfl) rfl (ma_cons (me_ix (me_var 3) me_int (fun _ _ => rfl)) (ma_cons (me_tup ma_nil) ma_nil)))) (fun s0 H0 C0 z0 f0 => (mw_name (i := 14) (G.blk s0 H0 _ _ f0).nd))
    (fun s0 H0 C0 z0 f0 => mts_nil)
    (fun s0 H0 C0 z0 f0 => (me_ix (me_call (G.blk s0 H0 _ _ f0) (M.fn 28 _ _ rfl) rfl (ma_cons (me_var 3) (ma_cons (me_var 14) ma_nil))) me_int (fun _ _ => rfl)))))
  (mss_cons (ms_setLc (i := 13) (E' := EXW K cl fun _ _ _ _ => False) (own := [("label", 15)]) [15] rfl G.calm G.nd (blkOk_by (N := N36) (sc := defScope s36) (by first | decide +kernel | rfl))
    (mi_range1 rfl (M.fr 5 _ rfl) me_int) (fun s0 H0 C0 z0 f0 => (mw_name (i := 15) (G.blk s0 H0 _ _ f0).nd))
    (fun s0 H0 C0 z0 f0 => (mts_one (mt_cmp (op_notInA (G.blk s0 H0 _ _ f0).hu) s_notIn (me_var 15) (me_var 12) rfl)))
    (fun s0 H0 C0 z0 f0 => (me_var 15)) (by rfl))
  (mss_one (ms_if (mt_cmp (op_neD (hu64 G)) s_ne (me_call G (M.fn 26 _ _ rfl) rfl (ma_cons (me_var 3) (ma_cons (me_t1 call_tuple_of s_tuple rfl (M.fr 2 _ rfl) B_tuple (me_sorS G.calm rfl (M.fr 9 _ rfl) rfl (M.fr 10 _ rfl) (me_bin op_addA s_add (me_t1 call_list_of s_list rfl (M.fr 4 _ rfl) B_list (me_var 4)) (me_var 13)))) (ma_cons (me_var 9) ma_nil)))) (me_var 11) (nomark _))
  (mss_one (ms_ret me_bl))
  mss_nil)))))))))))))))
  (mss_one (ms_ret me_bl))))
end
def nm : Nat → Str
  | 0 => "Store"
  | _ => ""
def clA (K : PySem.W.Frag) (k : Nat) : Addr := He.ga K (nm k)
def dd0 : He.DefD := ⟨("blocks_of", none), "blocks_of", "blocks_of", defArgs s0, defBody s0, defScope s0, [], []⟩
def dd1 : He.DefD := ⟨("paths_in", none), "paths_in", "paths_in", defArgs s1, defBody s1, defScope s1, [], []⟩
def dd2 : He.DefD := ⟨("block_at", none), "block_at", "block_at", defArgs s2, defBody s2, defScope s2, [], []⟩
def dd3 : He.DefD := ⟨("statement_at", none), "statement_at", "statement_at", defArgs s3, defBody s3, defScope s3, [], []⟩
def dd4 : He.DefD := ⟨("statements_of", none), "statements_of", "statements_of", defArgs s4, defBody s4, defScope s4, [], []⟩
def dd5 : He.DefD := ⟨("spot_paths", none), "spot_paths", "spot_paths", defArgs s5, defBody s5, defScope s5, [], []⟩
def dd6 : He.DefD := ⟨("spots_of", none), "spots_of", "spots_of", defArgs s6, defBody s6, defScope s6, [], []⟩
def dd7 : He.DefD := ⟨("way_count", none), "way_count", "way_count", defArgs s7, defBody s7, defScope s7, [], []⟩
def dd8 : He.DefD := ⟨("flow_on", none), "flow_on", "flow_on", defArgs s8, defBody s8, defScope s8, [], []⟩
def dd9 : He.DefD := ⟨("flow_start", none), "flow_start", "flow_start", defArgs s9, defBody s9, defScope s9, [], []⟩
def dd10 : He.DefD := ⟨("flow", none), "flow", "flow", defArgs s10, defBody s10, defScope s10, [], []⟩
def dd11 : He.DefD := ⟨("run_on", none), "run_on", "run_on", defArgs s11, defBody s11, defScope s11, [], []⟩
def dd12 : He.DefD := ⟨("Store", some "__init__"), "__init__", "Store.__init__", defArgs s12, defBody s12, defScope s12, [], []⟩
def dd13 : He.DefD := ⟨("Store", some (sD w_free_95_slot)), "free_slot", "Store.free_slot", defArgs s13, defBody s13, defScope s13, [], []⟩
def dd14 : He.DefD := ⟨("Store", some (sD w_is_95_alone)), "is_alone", "Store.is_alone", defArgs s14, defBody s14, defScope s14, [], []⟩
def dd15 : He.DefD := ⟨("Store", some (sD w_move)), "move", "Store.move", defArgs s15, defBody s15, defScope s15, [], []⟩
def dd16 : He.DefD := ⟨("Store", some (sD w_give)), "give", "Store.give", defArgs s16, defBody s16, defScope s16, [], []⟩
def dd17 : He.DefD := ⟨("Store", some (sD w_do)), "do", "Store.do", defArgs s17, defBody s17, defScope s17, [], []⟩
def dd18 : He.DefD := ⟨("Store", some (sD w_shown)), "shown", "Store.shown", defArgs s18, defBody s18, defScope s18, [], []⟩
def dd19 : He.DefD := ⟨("run_store", none), "run_store", "run_store", defArgs s19, defBody s19, defScope s19, [], []⟩
def dd20 : He.DefD := ⟨("slots_behind", none), "slots_behind", "slots_behind", defArgs s20, defBody s20, defScope s20, [], []⟩
def dd21 : He.DefD := ⟨("_law_pen", none), "_law_pen", "_law_pen", defArgs s21, defBody s21, defScope s21, [], []⟩
def dd22 : He.DefD := ⟨("_law_fresh", none), "_law_fresh", "_law_fresh", defArgs s22, defBody s22, defScope s22, [], []⟩
def dd23 : He.DefD := ⟨("_law_draw", none), "_law_draw", "_law_draw", defArgs s23, defBody s23, defScope s23, [], []⟩
def dd24 : He.DefD := ⟨("_law_blocks", none), "_law_blocks", "_law_blocks", defArgs s24, defBody s24, defScope s24, [], []⟩
def dd25 : He.DefD := ⟨("_law_all_paths", none), "_law_all_paths", "_law_all_paths", defArgs s25, defBody s25, defScope s25, [], []⟩
def dd26 : He.DefD := ⟨("_law_block_at", none), "_law_block_at", "_law_block_at", defArgs s26, defBody s26, defScope s26, [], []⟩
def dd27 : He.DefD := ⟨("_law_at", none), "_law_at", "_law_at", defArgs s27, defBody s27, defScope s27, [], []⟩
def dd28 : He.DefD := ⟨("_law_statement", none), "_law_statement", "_law_statement", defArgs s28, defBody s28, defScope s28, [], []⟩
def dd29 : He.DefD := ⟨("_law_block", none), "_law_block", "_law_block", defArgs s29, defBody s29, defScope s29, [], []⟩
def dd30 : He.DefD := ⟨("_law_program", none), "_law_program", "_law_program", defArgs s30, defBody s30, defScope s30, [], []⟩
def dd31 : He.DefD := ⟨("_law_list", none), "_law_list", "_law_list", defArgs s31, defBody s31, defScope s31, [], []⟩
def dd32 : He.DefD := ⟨("_law_copying", none), "_law_copying", "_law_copying", defArgs s32, defBody s32, defScope s32, [], []⟩
def dd33 : He.DefD := ⟨("_law_some_program", none), "_law_some_program", "_law_some_program", defArgs s33, defBody s33, defScope s33, [], []⟩
def dd34 : He.DefD := ⟨("_law_mapped", none), "_law_mapped", "_law_mapped", defArgs s34, defBody s34, defScope s34, [], []⟩
def dd35 : He.DefD := ⟨("_law_shuffled", none), "_law_shuffled", "_law_shuffled", defArgs s35, defBody s35, defScope s35, [], []⟩
def dd36 : He.DefD := ⟨("law", none), "law", "law", defArgs s36, defBody s36, defScope s36, [], []⟩
def fnl_0 : List He.DefD := [dd0, dd1, dd2, dd3, dd4, dd5, dd6, dd7, dd8, dd9, dd10, dd11, dd12, dd13, dd14, dd15, dd16, dd17, dd18, dd19]
def fnl_1 : List He.DefD := [dd20, dd21, dd22, dd23, dd24, dd25, dd26, dd27, dd28, dd29, dd30, dd31, dd32, dd33, dd34, dd35, dd36]
def fnl : List He.DefD := fnl_0 ++ fnl_1
def fal_0 : List He.Fa := [.glo "blocks_of", .glo "paths_in", .glo "block_at", .glo "statement_at", .glo "statements_of", .glo "spots_of", .glo "spot_paths", .glo "flow_on", .glo "flow_start", .glo "way_count", .glo "flow", .glo "run_on", .glo "_law_fresh", .glo "_law_blocks", .glo "_law_all_paths", .glo "_law_block_at", .glo "_law_draw", .glo "_law_block", .glo "_law_statement", .glo "_law_program"]
def fal_1 : List He.Fa := [.glo "_law_mapped", .glo "_law_pen", .glo "_law_copying", .glo "_law_some_program", .glo "_law_shuffled", .glo "_law_list", .glo "run_store", .glo "slots_behind", .glo "_law_at", .glo "Store", .cls "Store", .mkr "Store", .free "enumerate", .free "zip", .free "tuple", .free "len", .free "list", .free "range", .free "min", .free "int"]
def fal_2 : List He.Fa := [.free "max", .free "sorted", .free "set", .glo "SPOT_WORDS", .meth "Store" (sD w_free_95_slot), .meth "Store" (sD w_is_95_alone), .meth "Store" (sD w_move), .meth "Store" (sD w_give), .meth "Store" (sD w_do), .meth "Store" (sD w_shown), .noat "Store" (sD w_copying), .noat "Store" (sD w_slots), .noat "Store" (sD w_contents), .noat "Store" (sD w_copies), .glo "law"]
def fal : List He.Fa := fal_0 ++ fal_1 ++ fal_2
def loose_0 : List PySem.Str := ["__name__", "SPOT_WORDS", "blocks_of", "paths_in", "block_at", "statement_at", "statements_of", "spot_paths", "spots_of", "way_count", "flow_on", "flow_start", "flow", "run_on", "Store", "run_store", "slots_behind", "_law_pen", "_law_fresh", "_law_draw"]
def loose_1 : List PySem.Str := ["_law_blocks", "_law_all_paths", "_law_block_at", "_law_at", "_law_statement", "_law_block", "_law_program", "_law_list", "_law_copying", "_law_some_program", "_law_mapped", "_law_shuffled"]
def loose : List PySem.Str := loose_0 ++ loose_1
def exB (K : PySem.W.Frag) : Bool := He.tupB K "SPOT_WORDS" [.str (sD w_look), .str (sD w_choose), .str (sD w_loop)]
theorem exK0 {K : PySem.W.Frag} (h : exB K = true) : He.tupB K "SPOT_WORDS" [.str (sD w_look), .str (sD w_choose), .str (sD w_loop)] = true := h
abbrev R : PySem.W.OpenRow := PySem.W.OpenLaw.row PySem.Challenge.rw_copyplaces_k68_whole_copies_counted
abbrev hk : PySem.W.Hook := hookM 5 fal fnl exB
def ob (s : PySem.W.SharedT) : AlM := obsM 5 fal fnl exB (HandSHeadRun.getT s)
theorem ob_eq (s : PySem.W.SharedT) : ob s = hk.obs s.abs := obsM_eq (HandSHeadRun.getT_eq s)
theorem run (w : World) : HandSHeadRun.RunEq R (PySem.W.view R.prog [36]) hk ob 4000 loose w := by
  intro os
  kernel_rfl
theorem sc0 : FnScope N0 P0 (defScope s0) := ⟨rfl, rfl, rfl, by decide +kernel, rfl, by decide +kernel, by decide +kernel⟩
theorem bn0 {K : PySem.W.Frag} {f : Addr} {fd : FuncData} (F : FunD K "blocks_of" "blocks_of" (defArgs s0) (defBody s0) (defScope s0) [] [] f fd) : Binds K fd P0 [] := F.bindsN fun _ _ _ _ _ _ us hl => match us, hl with | [_], _ => rfl
theorem sc1 : FnScope N1 P1 (defScope s1) := ⟨rfl, rfl, rfl, by decide +kernel, rfl, by decide +kernel, by decide +kernel⟩
theorem bn1 {K : PySem.W.Frag} {f : Addr} {fd : FuncData} (F : FunD K "paths_in" "paths_in" (defArgs s1) (defBody s1) (defScope s1) [] [] f fd) : Binds K fd P1 [] := F.bindsN fun _ _ _ _ _ _ us hl => match us, hl with | [_, _], _ => rfl
theorem sc2 : FnScope N2 P2 (defScope s2) := ⟨rfl, rfl, rfl, by decide +kernel, rfl, by decide +kernel, by decide +kernel⟩
theorem bn2 {K : PySem.W.Frag} {f : Addr} {fd : FuncData} (F : FunD K "block_at" "block_at" (defArgs s2) (defBody s2) (defScope s2) [] [] f fd) : Binds K fd P2 [] := F.bindsN fun _ _ _ _ _ _ us hl => match us, hl with | [_, _], _ => rfl
theorem sc3 : FnScope N3 P3 (defScope s3) := ⟨rfl, rfl, rfl, by decide +kernel, rfl, by decide +kernel, by decide +kernel⟩
theorem bn3 {K : PySem.W.Frag} {f : Addr} {fd : FuncData} (F : FunD K "statement_at" "statement_at" (defArgs s3) (defBody s3) (defScope s3) [] [] f fd) : Binds K fd P3 [] := F.bindsN fun _ _ _ _ _ _ us hl => match us, hl with | [_, _], _ => rfl
theorem sc4 : FnScope N4 P4 (defScope s4) := ⟨rfl, rfl, rfl, by decide +kernel, rfl, by decide +kernel, by decide +kernel⟩
theorem bn4 {K : PySem.W.Frag} {f : Addr} {fd : FuncData} (F : FunD K "statements_of" "statements_of" (defArgs s4) (defBody s4) (defScope s4) [] [] f fd) : Binds K fd P4 [] := F.bindsN fun _ _ _ _ _ _ us hl => match us, hl with | [_], _ => rfl
theorem sc5 : FnScope N5 P5 (defScope s5) := ⟨rfl, rfl, rfl, by decide +kernel, rfl, by decide +kernel, by decide +kernel⟩
theorem bn5 {K : PySem.W.Frag} {f : Addr} {fd : FuncData} (F : FunD K "spot_paths" "spot_paths" (defArgs s5) (defBody s5) (defScope s5) [] [] f fd) : Binds K fd P5 [] := F.bindsN fun _ _ _ _ _ _ us hl => match us, hl with | [_], _ => rfl
theorem sc6 : FnScope N6 P6 (defScope s6) := ⟨rfl, rfl, rfl, by decide +kernel, rfl, by decide +kernel, by decide +kernel⟩
theorem bn6 {K : PySem.W.Frag} {f : Addr} {fd : FuncData} (F : FunD K "spots_of" "spots_of" (defArgs s6) (defBody s6) (defScope s6) [] [] f fd) : Binds K fd P6 [] := F.bindsN fun _ _ _ _ _ _ us hl => match us, hl with | [_], _ => rfl
theorem sc7 : FnScope N7 P7 (defScope s7) := ⟨rfl, rfl, rfl, by decide +kernel, rfl, by decide +kernel, by decide +kernel⟩
theorem bn7 {K : PySem.W.Frag} {f : Addr} {fd : FuncData} (F : FunD K "way_count" "way_count" (defArgs s7) (defBody s7) (defScope s7) [] [] f fd) : Binds K fd P7 [] := F.bindsN fun _ _ _ _ _ _ us hl => match us, hl with | [_, _], _ => rfl
theorem sc8 : FnScope N8 P8 (defScope s8) := ⟨rfl, rfl, rfl, by decide +kernel, rfl, by decide +kernel, by decide +kernel⟩
theorem bn8 {K : PySem.W.Frag} {f : Addr} {fd : FuncData} (F : FunD K "flow_on" "flow_on" (defArgs s8) (defBody s8) (defScope s8) [] [] f fd) : Binds K fd P8 [] := F.bindsN fun _ _ _ _ _ _ us hl => match us, hl with | [_, _, _], _ => rfl
theorem sc9 : FnScope N9 P9 (defScope s9) := ⟨rfl, rfl, rfl, by decide +kernel, rfl, by decide +kernel, by decide +kernel⟩
theorem bn9 {K : PySem.W.Frag} {f : Addr} {fd : FuncData} (F : FunD K "flow_start" "flow_start" (defArgs s9) (defBody s9) (defScope s9) [] [] f fd) : Binds K fd P9 [] := F.bindsN fun _ _ _ _ _ _ us hl => match us, hl with | [_], _ => rfl
theorem sc10 : FnScope N10 P10 (defScope s10) := ⟨rfl, rfl, rfl, by decide +kernel, rfl, by decide +kernel, by decide +kernel⟩
theorem bn10 {K : PySem.W.Frag} {f : Addr} {fd : FuncData} (F : FunD K "flow" "flow" (defArgs s10) (defBody s10) (defScope s10) [] [] f fd) : Binds K fd P10 [] := F.bindsN fun _ _ _ _ _ _ us hl => match us, hl with | [_, _, _], _ => rfl
theorem sc11 : FnScope N11 P11 (defScope s11) := ⟨rfl, rfl, rfl, by decide +kernel, rfl, by decide +kernel, by decide +kernel⟩
theorem bn11 {K : PySem.W.Frag} {f : Addr} {fd : FuncData} (F : FunD K "run_on" "run_on" (defArgs s11) (defBody s11) (defScope s11) [] [] f fd) : Binds K fd P11 [] := F.bindsN fun _ _ _ _ _ _ us hl => match us, hl with | [_, _, _], _ => rfl
theorem sc12 : FnScope N12 P12 (defScope s12) := ⟨rfl, rfl, rfl, by decide +kernel, rfl, by decide +kernel, by decide +kernel⟩
theorem bn12 {K : PySem.W.Frag} {f : Addr} {fd : FuncData} (F : FunD K "__init__" "Store.__init__" (defArgs s12) (defBody s12) (defScope s12) [] [] f fd) : Binds K fd P12 [] := F.bindsN fun _ _ _ _ _ _ us hl => match us, hl with | [_, _, _], _ => rfl
theorem sc13 : FnScope N13 P13 (defScope s13) := ⟨rfl, rfl, rfl, by decide +kernel, rfl, by decide +kernel, by decide +kernel⟩
theorem bn13 {K : PySem.W.Frag} {f : Addr} {fd : FuncData} (F : FunD K "free_slot" "Store.free_slot" (defArgs s13) (defBody s13) (defScope s13) [] [] f fd) : Binds K fd P13 [] := F.bindsN fun _ _ _ _ _ _ us hl => match us, hl with | [_], _ => rfl
theorem sc14 : FnScope N14 P14 (defScope s14) := ⟨rfl, rfl, rfl, by decide +kernel, rfl, by decide +kernel, by decide +kernel⟩
theorem bn14 {K : PySem.W.Frag} {f : Addr} {fd : FuncData} (F : FunD K "is_alone" "Store.is_alone" (defArgs s14) (defBody s14) (defScope s14) [] [] f fd) : Binds K fd P14 [] := F.bindsN fun _ _ _ _ _ _ us hl => match us, hl with | [_, _], _ => rfl
theorem sc15 : FnScope N15 P15 (defScope s15) := ⟨rfl, rfl, rfl, by decide +kernel, rfl, by decide +kernel, by decide +kernel⟩
theorem bn15 {K : PySem.W.Frag} {f : Addr} {fd : FuncData} (F : FunD K "move" "Store.move" (defArgs s15) (defBody s15) (defScope s15) [] [] f fd) : Binds K fd P15 [] := F.bindsN fun _ _ _ _ _ _ us hl => match us, hl with | [_, _, _], _ => rfl
theorem sc16 : FnScope N16 P16 (defScope s16) := ⟨rfl, rfl, rfl, by decide +kernel, rfl, by decide +kernel, by decide +kernel⟩
theorem bn16 {K : PySem.W.Frag} {f : Addr} {fd : FuncData} (F : FunD K "give" "Store.give" (defArgs s16) (defBody s16) (defScope s16) [] [] f fd) : Binds K fd P16 [] := F.bindsN fun _ _ _ _ _ _ us hl => match us, hl with | [_, _, _, _], _ => rfl
theorem sc17 : FnScope N17 P17 (defScope s17) := ⟨rfl, rfl, rfl, by decide +kernel, rfl, by decide +kernel, by decide +kernel⟩
theorem bn17 {K : PySem.W.Frag} {f : Addr} {fd : FuncData} (F : FunD K "do" "Store.do" (defArgs s17) (defBody s17) (defScope s17) [] [] f fd) : Binds K fd P17 [] := F.bindsN fun _ _ _ _ _ _ us hl => match us, hl with | [_, _], _ => rfl
theorem sc18 : FnScope N18 P18 (defScope s18) := ⟨rfl, rfl, rfl, by decide +kernel, rfl, by decide +kernel, by decide +kernel⟩
theorem bn18 {K : PySem.W.Frag} {f : Addr} {fd : FuncData} (F : FunD K "shown" "Store.shown" (defArgs s18) (defBody s18) (defScope s18) [] [] f fd) : Binds K fd P18 [] := F.bindsN fun _ _ _ _ _ _ us hl => match us, hl with | [_, _], _ => rfl
theorem sc19 : FnScope N19 P19 (defScope s19) := ⟨rfl, rfl, rfl, by decide +kernel, rfl, by decide +kernel, by decide +kernel⟩
theorem bn19 {K : PySem.W.Frag} {f : Addr} {fd : FuncData} (F : FunD K "run_store" "run_store" (defArgs s19) (defBody s19) (defScope s19) [] [] f fd) : Binds K fd P19 [] := F.bindsN fun _ _ _ _ _ _ us hl => match us, hl with | [_, _, _], _ => rfl
theorem sc20 : FnScope N20 P20 (defScope s20) := ⟨rfl, rfl, rfl, by decide +kernel, rfl, by decide +kernel, by decide +kernel⟩
theorem bn20 {K : PySem.W.Frag} {f : Addr} {fd : FuncData} (F : FunD K "slots_behind" "slots_behind" (defArgs s20) (defBody s20) (defScope s20) [] [] f fd) : Binds K fd P20 [] := F.bindsN fun _ _ _ _ _ _ us hl => match us, hl with | [_, _, _], _ => rfl
theorem sc21 : FnScope N21 P21 (defScope s21) := ⟨rfl, rfl, rfl, by decide +kernel, rfl, by decide +kernel, by decide +kernel⟩
theorem bn21 {K : PySem.W.Frag} {f : Addr} {fd : FuncData} (F : FunD K "_law_pen" "_law_pen" (defArgs s21) (defBody s21) (defScope s21) [] [] f fd) : Binds K fd P21 [] := F.bindsN fun _ _ _ _ _ _ us hl => match us, hl with | [_], _ => rfl
theorem sc22 : FnScope N22 P22 (defScope s22) := ⟨rfl, rfl, rfl, by decide +kernel, rfl, by decide +kernel, by decide +kernel⟩
theorem bn22 {K : PySem.W.Frag} {f : Addr} {fd : FuncData} (F : FunD K "_law_fresh" "_law_fresh" (defArgs s22) (defBody s22) (defScope s22) [] [] f fd) : Binds K fd P22 [] := F.bindsN fun _ _ _ _ _ _ us hl => match us, hl with | [_], _ => rfl
theorem sc23 : FnScope N23 P23 (defScope s23) := ⟨rfl, rfl, rfl, by decide +kernel, rfl, by decide +kernel, by decide +kernel⟩
theorem bn23 {K : PySem.W.Frag} {f : Addr} {fd : FuncData} (F : FunD K "_law_draw" "_law_draw" (defArgs s23) (defBody s23) (defScope s23) [] [] f fd) : Binds K fd P23 [] := F.bindsN fun _ _ _ _ _ _ us hl => match us, hl with | [_, _], _ => rfl
theorem sc24 : FnScope N24 P24 (defScope s24) := ⟨rfl, rfl, rfl, by decide +kernel, rfl, by decide +kernel, by decide +kernel⟩
theorem bn24 {K : PySem.W.Frag} {f : Addr} {fd : FuncData} (F : FunD K "_law_blocks" "_law_blocks" (defArgs s24) (defBody s24) (defScope s24) [] [] f fd) : Binds K fd P24 [] := F.bindsN fun _ _ _ _ _ _ us hl => match us, hl with | [_], _ => rfl
theorem sc25 : FnScope N25 P25 (defScope s25) := ⟨rfl, rfl, rfl, by decide +kernel, rfl, by decide +kernel, by decide +kernel⟩
theorem bn25 {K : PySem.W.Frag} {f : Addr} {fd : FuncData} (F : FunD K "_law_all_paths" "_law_all_paths" (defArgs s25) (defBody s25) (defScope s25) [] [] f fd) : Binds K fd P25 [] := F.bindsN fun _ _ _ _ _ _ us hl => match us, hl with | [_, _], _ => rfl
theorem sc26 : FnScope N26 P26 (defScope s26) := ⟨rfl, rfl, rfl, by decide +kernel, rfl, by decide +kernel, by decide +kernel⟩
theorem bn26 {K : PySem.W.Frag} {f : Addr} {fd : FuncData} (F : FunD K "_law_block_at" "_law_block_at" (defArgs s26) (defBody s26) (defScope s26) [] [] f fd) : Binds K fd P26 [] := F.bindsN fun _ _ _ _ _ _ us hl => match us, hl with | [_, _], _ => rfl
theorem sc27 : FnScope N27 P27 (defScope s27) := ⟨rfl, rfl, rfl, by decide +kernel, rfl, by decide +kernel, by decide +kernel⟩
theorem bn27 {K : PySem.W.Frag} {f : Addr} {fd : FuncData} (F : FunD K "_law_at" "_law_at" (defArgs s27) (defBody s27) (defScope s27) [] [] f fd) : Binds K fd P27 [] := F.bindsN fun _ _ _ _ _ _ us hl => match us, hl with | [_, _], _ => rfl
theorem sc28 : FnScope N28 P28 (defScope s28) := ⟨rfl, rfl, rfl, by decide +kernel, rfl, by decide +kernel, by decide +kernel⟩
theorem bn28 {K : PySem.W.Frag} {f : Addr} {fd : FuncData} (F : FunD K "_law_statement" "_law_statement" (defArgs s28) (defBody s28) (defScope s28) [] [] f fd) : Binds K fd P28 [] := F.bindsN fun _ _ _ _ _ _ us hl => match us, hl with | [_, _, _, _], _ => rfl
theorem sc29 : FnScope N29 P29 (defScope s29) := ⟨rfl, rfl, rfl, by decide +kernel, rfl, by decide +kernel, by decide +kernel⟩
theorem bn29 {K : PySem.W.Frag} {f : Addr} {fd : FuncData} (F : FunD K "_law_block" "_law_block" (defArgs s29) (defBody s29) (defScope s29) [] [] f fd) : Binds K fd P29 [] := F.bindsN fun _ _ _ _ _ _ us hl => match us, hl with | [_, _, _, _], _ => rfl
theorem sc30 : FnScope N30 P30 (defScope s30) := ⟨rfl, rfl, rfl, by decide +kernel, rfl, by decide +kernel, by decide +kernel⟩
theorem bn30 {K : PySem.W.Frag} {f : Addr} {fd : FuncData} (F : FunD K "_law_program" "_law_program" (defArgs s30) (defBody s30) (defScope s30) [] [] f fd) : Binds K fd P30 [] := F.bindsN fun _ _ _ _ _ _ us hl => match us, hl with | [_, _, _, _, _], _ => rfl
theorem sc31 : FnScope N31 P31 (defScope s31) := ⟨rfl, rfl, rfl, by decide +kernel, rfl, by decide +kernel, by decide +kernel⟩
theorem bn31 {K : PySem.W.Frag} {f : Addr} {fd : FuncData} (F : FunD K "_law_list" "_law_list" (defArgs s31) (defBody s31) (defScope s31) [] [] f fd) : Binds K fd P31 [] := F.bindsN fun _ _ _ _ _ _ us hl => match us, hl with | [_, _], _ => rfl
theorem sc32 : FnScope N32 P32 (defScope s32) := ⟨rfl, rfl, rfl, by decide +kernel, rfl, by decide +kernel, by decide +kernel⟩
theorem bn32 {K : PySem.W.Frag} {f : Addr} {fd : FuncData} (F : FunD K "_law_copying" "_law_copying" (defArgs s32) (defBody s32) (defScope s32) [] [] f fd) : Binds K fd P32 [] := F.bindsN fun _ _ _ _ _ _ us hl => match us, hl with | [_, _], _ => rfl
theorem sc33 : FnScope N33 P33 (defScope s33) := ⟨rfl, rfl, rfl, by decide +kernel, rfl, by decide +kernel, by decide +kernel⟩
theorem bn33 {K : PySem.W.Frag} {f : Addr} {fd : FuncData} (F : FunD K "_law_some_program" "_law_some_program" (defArgs s33) (defBody s33) (defScope s33) [] [] f fd) : Binds K fd P33 [] := F.bindsN fun _ _ _ _ _ _ us hl => match us, hl with | [_], _ => rfl
theorem sc34 : FnScope N34 P34 (defScope s34) := ⟨rfl, rfl, rfl, by decide +kernel, rfl, by decide +kernel, by decide +kernel⟩
theorem bn34 {K : PySem.W.Frag} {f : Addr} {fd : FuncData} (F : FunD K "_law_mapped" "_law_mapped" (defArgs s34) (defBody s34) (defScope s34) [] [] f fd) : Binds K fd P34 [] := F.bindsN fun _ _ _ _ _ _ us hl => match us, hl with | [_, _, _], _ => rfl
theorem sc35 : FnScope N35 P35 (defScope s35) := ⟨rfl, rfl, rfl, by decide +kernel, rfl, by decide +kernel, by decide +kernel⟩
theorem bn35 {K : PySem.W.Frag} {f : Addr} {fd : FuncData} (F : FunD K "_law_shuffled" "_law_shuffled" (defArgs s35) (defBody s35) (defScope s35) [] [] f fd) : Binds K fd P35 [] := F.bindsN fun _ _ _ _ _ _ us hl => match us, hl with | [_, _], _ => rfl
theorem sc36 : FnScope N36 P36 (defScope s36) := ⟨rfl, rfl, rfl, by decide +kernel, rfl, by decide +kernel, by decide +kernel⟩
theorem bn36 {K : PySem.W.Frag} {f : Addr} {fd : FuncData} (F : FunD K "law" "law" (defArgs s36) (defBody s36) (defScope s36) [] [] f fd) : Binds K fd P36 [] := F.bindsN fun _ _ _ _ _ _ us hl => match us, hl with | [_], _ => rfl
abbrev cx (n : Nat) : MI.Ctx := ⟨prog.call 3000 n, prog.meth, prog.fld, 3000⟩
section
variable {P : Program} {w : World} {K : PySem.W.Frag} {mg : Str → Option Value} {base h : Heap} (KX : K.In h) (Gn : h.Ns mainGlobals mg) (SD : He.SaysD fal fnl K) (EX : exB K = true)
include SD in
theorem zero0 : FnT P w K mg base (clA K) 0 (He.fAd K dd0.at_) (prog.call 3000 0 0) := by
  obtain ⟨fd, F⟩ := SD.def_ 0 rfl
  rw [call_zero]
  exact fnT_fail F sc0 (bn0 F)
include SD in
theorem zero1 : FnT P w K mg base (clA K) 0 (He.fAd K dd1.at_) (prog.call 3000 0 1) := by
  obtain ⟨fd, F⟩ := SD.def_ 1 rfl
  rw [call_zero]
  exact fnT_fail F sc1 (bn1 F)
include SD in
theorem zero2 : FnT P w K mg base (clA K) 0 (He.fAd K dd2.at_) (prog.call 3000 0 2) := by
  obtain ⟨fd, F⟩ := SD.def_ 2 rfl
  rw [call_zero]
  exact fnT_fail F sc2 (bn2 F)
include SD in
theorem zero3 : FnT P w K mg base (clA K) 0 (He.fAd K dd3.at_) (prog.call 3000 0 3) := by
  obtain ⟨fd, F⟩ := SD.def_ 3 rfl
  rw [call_zero]
  exact fnT_fail F sc3 (bn3 F)
include SD in
theorem zero4 : FnT P w K mg base (clA K) 0 (He.fAd K dd4.at_) (prog.call 3000 0 4) := by
  obtain ⟨fd, F⟩ := SD.def_ 4 rfl
  rw [call_zero]
  exact fnT_fail F sc4 (bn4 F)
include SD in
theorem zero5 : FnT P w K mg base (clA K) 0 (He.fAd K dd5.at_) (prog.call 3000 0 5) := by
  obtain ⟨fd, F⟩ := SD.def_ 5 rfl
  rw [call_zero]
  exact fnT_fail F sc5 (bn5 F)
include SD in
theorem zero6 : FnT P w K mg base (clA K) 0 (He.fAd K dd6.at_) (prog.call 3000 0 6) := by
  obtain ⟨fd, F⟩ := SD.def_ 6 rfl
  rw [call_zero]
  exact fnT_fail F sc6 (bn6 F)
include SD in
theorem zero7 : FnT P w K mg base (clA K) 0 (He.fAd K dd7.at_) (prog.call 3000 0 7) := by
  obtain ⟨fd, F⟩ := SD.def_ 7 rfl
  rw [call_zero]
  exact fnT_fail F sc7 (bn7 F)
include SD in
theorem zero8 : FnT P w K mg base (clA K) 0 (He.fAd K dd8.at_) (prog.call 3000 0 8) := by
  obtain ⟨fd, F⟩ := SD.def_ 8 rfl
  rw [call_zero]
  exact fnT_fail F sc8 (bn8 F)
include SD in
theorem zero9 : FnT P w K mg base (clA K) 0 (He.fAd K dd9.at_) (prog.call 3000 0 9) := by
  obtain ⟨fd, F⟩ := SD.def_ 9 rfl
  rw [call_zero]
  exact fnT_fail F sc9 (bn9 F)
include SD in
theorem zero10 : FnT P w K mg base (clA K) 0 (He.fAd K dd10.at_) (prog.call 3000 0 10) := by
  obtain ⟨fd, F⟩ := SD.def_ 10 rfl
  rw [call_zero]
  exact fnT_fail F sc10 (bn10 F)
include SD in
theorem zero11 : FnT P w K mg base (clA K) 0 (He.fAd K dd11.at_) (prog.call 3000 0 11) := by
  obtain ⟨fd, F⟩ := SD.def_ 11 rfl
  rw [call_zero]
  exact fnT_fail F sc11 (bn11 F)
include SD in
theorem zero12 : FnT P w K mg base (clA K) 0 (He.fAd K dd12.at_) (prog.call 3000 0 12) := by
  obtain ⟨fd, F⟩ := SD.def_ 12 rfl
  rw [call_zero]
  exact fnT_fail F sc12 (bn12 F)
include SD in
theorem zero13 : FnT P w K mg base (clA K) 0 (He.fAd K dd13.at_) (prog.call 3000 0 13) := by
  obtain ⟨fd, F⟩ := SD.def_ 13 rfl
  rw [call_zero]
  exact fnT_fail F sc13 (bn13 F)
include SD in
theorem zero14 : FnT P w K mg base (clA K) 0 (He.fAd K dd14.at_) (prog.call 3000 0 14) := by
  obtain ⟨fd, F⟩ := SD.def_ 14 rfl
  rw [call_zero]
  exact fnT_fail F sc14 (bn14 F)
include SD in
theorem zero15 : FnT P w K mg base (clA K) 0 (He.fAd K dd15.at_) (prog.call 3000 0 15) := by
  obtain ⟨fd, F⟩ := SD.def_ 15 rfl
  rw [call_zero]
  exact fnT_fail F sc15 (bn15 F)
include SD in
theorem zero16 : FnT P w K mg base (clA K) 0 (He.fAd K dd16.at_) (prog.call 3000 0 16) := by
  obtain ⟨fd, F⟩ := SD.def_ 16 rfl
  rw [call_zero]
  exact fnT_fail F sc16 (bn16 F)
include SD in
theorem zero17 : FnT P w K mg base (clA K) 0 (He.fAd K dd17.at_) (prog.call 3000 0 17) := by
  obtain ⟨fd, F⟩ := SD.def_ 17 rfl
  rw [call_zero]
  exact fnT_fail F sc17 (bn17 F)
include SD in
theorem zero18 : FnT P w K mg base (clA K) 0 (He.fAd K dd18.at_) (prog.call 3000 0 18) := by
  obtain ⟨fd, F⟩ := SD.def_ 18 rfl
  rw [call_zero]
  exact fnT_fail F sc18 (bn18 F)
include SD in
theorem zero19 : FnT P w K mg base (clA K) 0 (He.fAd K dd19.at_) (prog.call 3000 0 19) := by
  obtain ⟨fd, F⟩ := SD.def_ 19 rfl
  rw [call_zero]
  exact fnT_fail F sc19 (bn19 F)
include SD in
theorem zero20 : FnT P w K mg base (clA K) 0 (He.fAd K dd20.at_) (prog.call 3000 0 20) := by
  obtain ⟨fd, F⟩ := SD.def_ 20 rfl
  rw [call_zero]
  exact fnT_fail F sc20 (bn20 F)
include SD in
theorem zero21 : FnT P w K mg base (clA K) 0 (He.fAd K dd21.at_) (prog.call 3000 0 21) := by
  obtain ⟨fd, F⟩ := SD.def_ 21 rfl
  rw [call_zero]
  exact fnT_fail F sc21 (bn21 F)
include SD in
theorem zero22 : FnT P w K mg base (clA K) 0 (He.fAd K dd22.at_) (prog.call 3000 0 22) := by
  obtain ⟨fd, F⟩ := SD.def_ 22 rfl
  rw [call_zero]
  exact fnT_fail F sc22 (bn22 F)
include SD in
theorem zero23 : FnT P w K mg base (clA K) 0 (He.fAd K dd23.at_) (prog.call 3000 0 23) := by
  obtain ⟨fd, F⟩ := SD.def_ 23 rfl
  rw [call_zero]
  exact fnT_fail F sc23 (bn23 F)
include SD in
theorem zero24 : FnT P w K mg base (clA K) 0 (He.fAd K dd24.at_) (prog.call 3000 0 24) := by
  obtain ⟨fd, F⟩ := SD.def_ 24 rfl
  rw [call_zero]
  exact fnT_fail F sc24 (bn24 F)
include SD in
theorem zero25 : FnT P w K mg base (clA K) 0 (He.fAd K dd25.at_) (prog.call 3000 0 25) := by
  obtain ⟨fd, F⟩ := SD.def_ 25 rfl
  rw [call_zero]
  exact fnT_fail F sc25 (bn25 F)
include SD in
theorem zero26 : FnT P w K mg base (clA K) 0 (He.fAd K dd26.at_) (prog.call 3000 0 26) := by
  obtain ⟨fd, F⟩ := SD.def_ 26 rfl
  rw [call_zero]
  exact fnT_fail F sc26 (bn26 F)
include SD in
theorem zero27 : FnT P w K mg base (clA K) 0 (He.fAd K dd27.at_) (prog.call 3000 0 27) := by
  obtain ⟨fd, F⟩ := SD.def_ 27 rfl
  rw [call_zero]
  exact fnT_fail F sc27 (bn27 F)
include SD in
theorem zero28 : FnT P w K mg base (clA K) 0 (He.fAd K dd28.at_) (prog.call 3000 0 28) := by
  obtain ⟨fd, F⟩ := SD.def_ 28 rfl
  rw [call_zero]
  exact fnT_fail F sc28 (bn28 F)
include SD in
theorem zero29 : FnT P w K mg base (clA K) 0 (He.fAd K dd29.at_) (prog.call 3000 0 29) := by
  obtain ⟨fd, F⟩ := SD.def_ 29 rfl
  rw [call_zero]
  exact fnT_fail F sc29 (bn29 F)
include SD in
theorem zero30 : FnT P w K mg base (clA K) 0 (He.fAd K dd30.at_) (prog.call 3000 0 30) := by
  obtain ⟨fd, F⟩ := SD.def_ 30 rfl
  rw [call_zero]
  exact fnT_fail F sc30 (bn30 F)
include SD in
theorem zero31 : FnT P w K mg base (clA K) 0 (He.fAd K dd31.at_) (prog.call 3000 0 31) := by
  obtain ⟨fd, F⟩ := SD.def_ 31 rfl
  rw [call_zero]
  exact fnT_fail F sc31 (bn31 F)
include SD in
theorem zero32 : FnT P w K mg base (clA K) 0 (He.fAd K dd32.at_) (prog.call 3000 0 32) := by
  obtain ⟨fd, F⟩ := SD.def_ 32 rfl
  rw [call_zero]
  exact fnT_fail F sc32 (bn32 F)
include SD in
theorem zero33 : FnT P w K mg base (clA K) 0 (He.fAd K dd33.at_) (prog.call 3000 0 33) := by
  obtain ⟨fd, F⟩ := SD.def_ 33 rfl
  rw [call_zero]
  exact fnT_fail F sc33 (bn33 F)
include SD in
theorem zero34 : FnT P w K mg base (clA K) 0 (He.fAd K dd34.at_) (prog.call 3000 0 34) := by
  obtain ⟨fd, F⟩ := SD.def_ 34 rfl
  rw [call_zero]
  exact fnT_fail F sc34 (bn34 F)
include SD in
theorem zero35 : FnT P w K mg base (clA K) 0 (He.fAd K dd35.at_) (prog.call 3000 0 35) := by
  obtain ⟨fd, F⟩ := SD.def_ 35 rfl
  rw [call_zero]
  exact fnT_fail F sc35 (bn35 F)
include SD in
theorem zero36 : FnT P w K mg base (clA K) 0 (He.fAd K dd36.at_) (prog.call 3000 0 36) := by
  obtain ⟨fd, F⟩ := SD.def_ 36 rfl
  rw [call_zero]
  exact fnT_fail F sc36 (bn36 F)
include KX Gn SD EX in
theorem mod_of {n : Nat} (ih : AllI (fun i (d : He.DefD) => FnT P w K mg base (clA K) (2 * n) (He.fAd K d.at_) (prog.call 3000 n i)) 0 fnl) : MD P w K mg base (clA K) (cx n) (2 * n) where
  fn := fun i x f e => AllI.get (p := fun _ (q : Str × Nat) => ∃ fA, mg q.1 = some (.ref fA) ∧ FnT P w K mg base (clA K) (2 * n) fA (prog.call 3000 n q.2)) (l := fns) (k := 0) ⟨⟨He.ga K "blocks_of", He.glo_ok KX Gn (SD.fact 0 rfl), ih.get (i := 0) rfl⟩, ⟨He.ga K "paths_in", He.glo_ok KX Gn (SD.fact 1 rfl), ih.get (i := 1) rfl⟩, ⟨He.ga K "block_at", He.glo_ok KX Gn (SD.fact 2 rfl), ih.get (i := 2) rfl⟩, ⟨He.ga K "statement_at", He.glo_ok KX Gn (SD.fact 3 rfl), ih.get (i := 3) rfl⟩, ⟨He.ga K "statements_of", He.glo_ok KX Gn (SD.fact 4 rfl), ih.get (i := 4) rfl⟩, ⟨He.ga K "spots_of", He.glo_ok KX Gn (SD.fact 5 rfl), ih.get (i := 6) rfl⟩, ⟨He.ga K "spot_paths", He.glo_ok KX Gn (SD.fact 6 rfl), ih.get (i := 5) rfl⟩, ⟨He.ga K "flow_on", He.glo_ok KX Gn (SD.fact 7 rfl), ih.get (i := 8) rfl⟩, ⟨He.ga K "flow_start", He.glo_ok KX Gn (SD.fact 8 rfl), ih.get (i := 9) rfl⟩, ⟨He.ga K "way_count", He.glo_ok KX Gn (SD.fact 9 rfl), ih.get (i := 7) rfl⟩, ⟨He.ga K "flow", He.glo_ok KX Gn (SD.fact 10 rfl), ih.get (i := 10) rfl⟩, ⟨He.ga K "run_on", He.glo_ok KX Gn (SD.fact 11 rfl), ih.get (i := 11) rfl⟩, ⟨He.ga K "_law_fresh", He.glo_ok KX Gn (SD.fact 12 rfl), ih.get (i := 22) rfl⟩, ⟨He.ga K "_law_blocks", He.glo_ok KX Gn (SD.fact 13 rfl), ih.get (i := 24) rfl⟩, ⟨He.ga K "_law_all_paths", He.glo_ok KX Gn (SD.fact 14 rfl), ih.get (i := 25) rfl⟩, ⟨He.ga K "_law_block_at", He.glo_ok KX Gn (SD.fact 15 rfl), ih.get (i := 26) rfl⟩, ⟨He.ga K "_law_draw", He.glo_ok KX Gn (SD.fact 16 rfl), ih.get (i := 23) rfl⟩, ⟨He.ga K "_law_block", He.glo_ok KX Gn (SD.fact 17 rfl), ih.get (i := 29) rfl⟩, ⟨He.ga K "_law_statement", He.glo_ok KX Gn (SD.fact 18 rfl), ih.get (i := 28) rfl⟩, ⟨He.ga K "_law_program", He.glo_ok KX Gn (SD.fact 19 rfl), ih.get (i := 30) rfl⟩, ⟨He.ga K "_law_mapped", He.glo_ok KX Gn (SD.fact 20 rfl), ih.get (i := 34) rfl⟩, ⟨He.ga K "_law_pen", He.glo_ok KX Gn (SD.fact 21 rfl), ih.get (i := 21) rfl⟩, ⟨He.ga K "_law_copying", He.glo_ok KX Gn (SD.fact 22 rfl), ih.get (i := 32) rfl⟩, ⟨He.ga K "_law_some_program", He.glo_ok KX Gn (SD.fact 23 rfl), ih.get (i := 33) rfl⟩, ⟨He.ga K "_law_shuffled", He.glo_ok KX Gn (SD.fact 24 rfl), ih.get (i := 35) rfl⟩, ⟨He.ga K "_law_list", He.glo_ok KX Gn (SD.fact 25 rfl), ih.get (i := 31) rfl⟩, ⟨He.ga K "run_store", He.glo_ok KX Gn (SD.fact 26 rfl), ih.get (i := 19) rfl⟩, ⟨He.ga K "slots_behind", He.glo_ok KX Gn (SD.fact 27 rfl), ih.get (i := 20) rfl⟩, ⟨He.ga K "_law_at", He.glo_ok KX Gn (SD.fact 28 rfl), ih.get (i := 27) rfl⟩, trivial⟩ e
  cl := fun i x k f e => AllI.get (p := fun _ (q : Str × Nat × Nat) => mg q.1 = some (.ref (clA K q.2.1)) ∧ Cls K (clA K q.2.1) ∧ ∃ fA, Mk K (clA K q.2.1) fA ∧ FnT P w K mg base (clA K) (2 * n) fA (prog.call 3000 n q.2.2)) (l := clss) (k := 0) ⟨⟨He.glo_ok KX Gn (SD.fact 29 rfl), He.cls_ok (SD.fact 30 rfl), _, He.mkr_ok (SD.fact 31 rfl), ih.get (i := 12) rfl⟩, trivial⟩ e
  fr := fun i x e => AllI.get (p := fun _ (q : Str) => mg q = none) (l := frees) (k := 0) ⟨He.free_ok KX Gn (SD.fact 32 rfl), He.free_ok KX Gn (SD.fact 33 rfl), He.free_ok KX Gn (SD.fact 34 rfl), He.free_ok KX Gn (SD.fact 35 rfl), He.free_ok KX Gn (SD.fact 36 rfl), He.free_ok KX Gn (SD.fact 37 rfl), He.free_ok KX Gn (SD.fact 38 rfl), He.free_ok KX Gn (SD.fact 39 rfl), He.free_ok KX Gn (SD.fact 40 rfl), He.free_ok KX Gn (SD.fact 41 rfl), He.free_ok KX Gn (SD.fact 42 rfl), trivial⟩ e
  con := fun i x d e => AllI.get (p := fun _ (q : Str × D) => ConM K mg q.1 q.2) (l := cons) (k := 0) ⟨⟨_, .ref (He.ga K "SPOT_WORDS"), He.glo_ok KX Gn (SD.fact 43 rfl), rfl, fun H ρ => .tup (He.tupB_ok (exK0 EX) H) (.cons (.str _) (.cons (.str _) (.cons (.str _) .nil)))⟩, trivial⟩ e
include SD in
theorem meths_of {n : Nat} (ih : AllI (fun i (d : He.DefD) => FnT P w K mg base (clA K) (2 * n) (He.fAd K d.at_) (prog.call 3000 n i)) 0 fnl) : AllI (fun _ (x : Nat × List Nat × Nat) => ∃ fA, Meth K (clA K x.1) (sD x.2.1) fA ∧ FnT P w K mg base (clA K) (2 * n) fA (prog.call 3000 n x.2.2)) 0 prog.meths := ⟨⟨_, He.meth_ok (SD.fact 44 rfl), ih.get (i := 13) rfl⟩, ⟨_, He.meth_ok (SD.fact 45 rfl), ih.get (i := 14) rfl⟩, ⟨_, He.meth_ok (SD.fact 46 rfl), ih.get (i := 15) rfl⟩, ⟨_, He.meth_ok (SD.fact 47 rfl), ih.get (i := 16) rfl⟩, ⟨_, He.meth_ok (SD.fact 48 rfl), ih.get (i := 17) rfl⟩, ⟨_, He.meth_ok (SD.fact 49 rfl), ih.get (i := 18) rfl⟩, trivial⟩
include SD in
theorem flds_of : AllI (fun _ (x : Nat × List Nat) => NoAttr K (clA K x.1) (sD x.2) ∧ Cls K (clA K x.1)) 0 prog.flds := ⟨⟨He.noat_ok (SD.fact 50 rfl), He.cls_ok (SD.fact 30 rfl)⟩, ⟨He.noat_ok (SD.fact 51 rfl), He.cls_ok (SD.fact 30 rfl)⟩, ⟨He.noat_ok (SD.fact 52 rfl), He.cls_ok (SD.fact 30 rfl)⟩, ⟨He.noat_ok (SD.fact 53 rfl), He.cls_ok (SD.fact 30 rfl)⟩, trivial⟩
include KX Gn SD EX in
theorem step0 {n : Nat} (ih : AllI (fun i (d : He.DefD) => FnT P w K mg base (clA K) (2 * n) (He.fAd K d.at_) (prog.call 3000 n i)) 0 fnl) : FnT P w K mg base (clA K) (2 * (n + 1)) (He.fAd K dd0.at_) (prog.call 3000 (n + 1) 0) := by
  obtain ⟨fd, F⟩ := SD.def_ 0 rfl
  exact fnT_call rfl (fnT_body ⟨1, 1, b_blocks_of⟩ F sc0 (bn0 F) rfl rfl (fld_of (flds_of SD)) (meth_of (meths_of SD ih)) fun cdv A outer s H E G po => der0 (mod_of KX Gn SD EX ih) _ cdv A outer s H E G po)
include KX Gn SD EX in
theorem step1 {n : Nat} (ih : AllI (fun i (d : He.DefD) => FnT P w K mg base (clA K) (2 * n) (He.fAd K d.at_) (prog.call 3000 n i)) 0 fnl) : FnT P w K mg base (clA K) (2 * (n + 1)) (He.fAd K dd1.at_) (prog.call 3000 (n + 1) 1) := by
  obtain ⟨fd, F⟩ := SD.def_ 1 rfl
  exact fnT_call rfl (fnT_body ⟨2, 7, b_paths_in⟩ F sc1 (bn1 F) rfl rfl (fld_of (flds_of SD)) (meth_of (meths_of SD ih)) fun cdv A outer s H E G po => der1 (mod_of KX Gn SD EX ih) _ cdv A outer s H E G po)
include KX Gn SD EX in
theorem step2 {n : Nat} (ih : AllI (fun i (d : He.DefD) => FnT P w K mg base (clA K) (2 * n) (He.fAd K d.at_) (prog.call 3000 n i)) 0 fnl) : FnT P w K mg base (clA K) (2 * (n + 1)) (He.fAd K dd2.at_) (prog.call 3000 (n + 1) 2) := by
  obtain ⟨fd, F⟩ := SD.def_ 2 rfl
  exact fnT_call rfl (fnT_body ⟨2, 5, b_block_at⟩ F sc2 (bn2 F) rfl rfl (fld_of (flds_of SD)) (meth_of (meths_of SD ih)) fun cdv A outer s H E G po => der2 (mod_of KX Gn SD EX ih) _ cdv A outer s H E G po)
include KX Gn SD EX in
theorem step3 {n : Nat} (ih : AllI (fun i (d : He.DefD) => FnT P w K mg base (clA K) (2 * n) (He.fAd K d.at_) (prog.call 3000 n i)) 0 fnl) : FnT P w K mg base (clA K) (2 * (n + 1)) (He.fAd K dd3.at_) (prog.call 3000 (n + 1) 3) := by
  obtain ⟨fd, F⟩ := SD.def_ 3 rfl
  exact fnT_call rfl (fnT_body ⟨2, 2, b_statement_at⟩ F sc3 (bn3 F) rfl rfl (fld_of (flds_of SD)) (meth_of (meths_of SD ih)) fun cdv A outer s H E G po => der3 (mod_of KX Gn SD EX ih) _ cdv A outer s H E G po)
include KX Gn SD EX in
theorem step4 {n : Nat} (ih : AllI (fun i (d : He.DefD) => FnT P w K mg base (clA K) (2 * n) (He.fAd K d.at_) (prog.call 3000 n i)) 0 fnl) : FnT P w K mg base (clA K) (2 * (n + 1)) (He.fAd K dd4.at_) (prog.call 3000 (n + 1) 4) := by
  obtain ⟨fd, F⟩ := SD.def_ 4 rfl
  exact fnT_call rfl (fnT_body ⟨1, 2, b_statements_of⟩ F sc4 (bn4 F) rfl rfl (fld_of (flds_of SD)) (meth_of (meths_of SD ih)) fun cdv A outer s H E G po => der4 (mod_of KX Gn SD EX ih) _ cdv A outer s H E G po)
include KX Gn SD EX in
theorem step5 {n : Nat} (ih : AllI (fun i (d : He.DefD) => FnT P w K mg base (clA K) (2 * n) (He.fAd K d.at_) (prog.call 3000 n i)) 0 fnl) : FnT P w K mg base (clA K) (2 * (n + 1)) (He.fAd K dd5.at_) (prog.call 3000 (n + 1) 5) := by
  obtain ⟨fd, F⟩ := SD.def_ 5 rfl
  exact fnT_call rfl (fnT_body ⟨1, 3, b_spot_paths⟩ F sc5 (bn5 F) rfl rfl (fld_of (flds_of SD)) (meth_of (meths_of SD ih)) fun cdv A outer s H E G po => der5 (mod_of KX Gn SD EX ih) _ cdv A outer s H E G po)
include KX Gn SD EX in
theorem step6 {n : Nat} (ih : AllI (fun i (d : He.DefD) => FnT P w K mg base (clA K) (2 * n) (He.fAd K d.at_) (prog.call 3000 n i)) 0 fnl) : FnT P w K mg base (clA K) (2 * (n + 1)) (He.fAd K dd6.at_) (prog.call 3000 (n + 1) 6) := by
  obtain ⟨fd, F⟩ := SD.def_ 6 rfl
  exact fnT_call rfl (fnT_body ⟨1, 2, b_spots_of⟩ F sc6 (bn6 F) rfl rfl (fld_of (flds_of SD)) (meth_of (meths_of SD ih)) fun cdv A outer s H E G po => der6 (mod_of KX Gn SD EX ih) _ cdv A outer s H E G po)
include KX Gn SD EX in
theorem step7 {n : Nat} (ih : AllI (fun i (d : He.DefD) => FnT P w K mg base (clA K) (2 * n) (He.fAd K d.at_) (prog.call 3000 n i)) 0 fnl) : FnT P w K mg base (clA K) (2 * (n + 1)) (He.fAd K dd7.at_) (prog.call 3000 (n + 1) 7) := by
  obtain ⟨fd, F⟩ := SD.def_ 7 rfl
  exact fnT_call rfl (fnT_body ⟨2, 3, b_way_count⟩ F sc7 (bn7 F) rfl rfl (fld_of (flds_of SD)) (meth_of (meths_of SD ih)) fun cdv A outer s H E G po => der7 (mod_of KX Gn SD EX ih) _ cdv A outer s H E G po)
include KX Gn SD EX in
theorem step8 {n : Nat} (ih : AllI (fun i (d : He.DefD) => FnT P w K mg base (clA K) (2 * n) (He.fAd K d.at_) (prog.call 3000 n i)) 0 fnl) : FnT P w K mg base (clA K) (2 * (n + 1)) (He.fAd K dd8.at_) (prog.call 3000 (n + 1) 8) := by
  obtain ⟨fd, F⟩ := SD.def_ 8 rfl
  exact fnT_call rfl (fnT_body ⟨3, 8, b_flow_on⟩ F sc8 (bn8 F) rfl rfl (fld_of (flds_of SD)) (meth_of (meths_of SD ih)) fun cdv A outer s H E G po => der8 (mod_of KX Gn SD EX ih) _ cdv A outer s H E G po)
include KX Gn SD EX in
theorem step9 {n : Nat} (ih : AllI (fun i (d : He.DefD) => FnT P w K mg base (clA K) (2 * n) (He.fAd K d.at_) (prog.call 3000 n i)) 0 fnl) : FnT P w K mg base (clA K) (2 * (n + 1)) (He.fAd K dd9.at_) (prog.call 3000 (n + 1) 9) := by
  obtain ⟨fd, F⟩ := SD.def_ 9 rfl
  exact fnT_call rfl (fnT_body ⟨1, 1, b_flow_start⟩ F sc9 (bn9 F) rfl rfl (fld_of (flds_of SD)) (meth_of (meths_of SD ih)) fun cdv A outer s H E G po => der9 (mod_of KX Gn SD EX ih) _ cdv A outer s H E G po)
include KX Gn SD EX in
theorem step10 {n : Nat} (ih : AllI (fun i (d : He.DefD) => FnT P w K mg base (clA K) (2 * n) (He.fAd K d.at_) (prog.call 3000 n i)) 0 fnl) : FnT P w K mg base (clA K) (2 * (n + 1)) (He.fAd K dd10.at_) (prog.call 3000 (n + 1) 10) := by
  obtain ⟨fd, F⟩ := SD.def_ 10 rfl
  exact fnT_call rfl (fnT_body ⟨3, 5, b_flow⟩ F sc10 (bn10 F) rfl rfl (fld_of (flds_of SD)) (meth_of (meths_of SD ih)) fun cdv A outer s H E G po => der10 (mod_of KX Gn SD EX ih) _ cdv A outer s H E G po)
include KX Gn SD EX in
theorem step11 {n : Nat} (ih : AllI (fun i (d : He.DefD) => FnT P w K mg base (clA K) (2 * n) (He.fAd K d.at_) (prog.call 3000 n i)) 0 fnl) : FnT P w K mg base (clA K) (2 * (n + 1)) (He.fAd K dd11.at_) (prog.call 3000 (n + 1) 11) := by
  obtain ⟨fd, F⟩ := SD.def_ 11 rfl
  exact fnT_call rfl (fnT_body ⟨3, 9, b_run_on⟩ F sc11 (bn11 F) rfl rfl (fld_of (flds_of SD)) (meth_of (meths_of SD ih)) fun cdv A outer s H E G po => der11 (mod_of KX Gn SD EX ih) _ cdv A outer s H E G po)
include KX Gn SD EX in
theorem step12 {n : Nat} (ih : AllI (fun i (d : He.DefD) => FnT P w K mg base (clA K) (2 * n) (He.fAd K d.at_) (prog.call 3000 n i)) 0 fnl) : FnT P w K mg base (clA K) (2 * (n + 1)) (He.fAd K dd12.at_) (prog.call 3000 (n + 1) 12) := by
  obtain ⟨fd, F⟩ := SD.def_ 12 rfl
  exact fnT_call rfl (fnT_body ⟨3, 3, b_Store____init__⟩ F sc12 (bn12 F) rfl rfl (fld_of (flds_of SD)) (meth_of (meths_of SD ih)) fun cdv A outer s H E G po => der12 (mod_of KX Gn SD EX ih) _ cdv A outer s H E G po)
include KX Gn SD EX in
theorem step13 {n : Nat} (ih : AllI (fun i (d : He.DefD) => FnT P w K mg base (clA K) (2 * n) (He.fAd K d.at_) (prog.call 3000 n i)) 0 fnl) : FnT P w K mg base (clA K) (2 * (n + 1)) (He.fAd K dd13.at_) (prog.call 3000 (n + 1) 13) := by
  obtain ⟨fd, F⟩ := SD.def_ 13 rfl
  exact fnT_call rfl (fnT_body ⟨1, 2, b_Store__free_slot⟩ F sc13 (bn13 F) rfl rfl (fld_of (flds_of SD)) (meth_of (meths_of SD ih)) fun cdv A outer s H E G po => der13 (mod_of KX Gn SD EX ih) _ cdv A outer s H E G po)
include KX Gn SD EX in
theorem step14 {n : Nat} (ih : AllI (fun i (d : He.DefD) => FnT P w K mg base (clA K) (2 * n) (He.fAd K d.at_) (prog.call 3000 n i)) 0 fnl) : FnT P w K mg base (clA K) (2 * (n + 1)) (He.fAd K dd14.at_) (prog.call 3000 (n + 1) 14) := by
  obtain ⟨fd, F⟩ := SD.def_ 14 rfl
  exact fnT_call rfl (fnT_body ⟨2, 2, b_Store__is_alone⟩ F sc14 (bn14 F) rfl rfl (fld_of (flds_of SD)) (meth_of (meths_of SD ih)) fun cdv A outer s H E G po => der14 (mod_of KX Gn SD EX ih) _ cdv A outer s H E G po)
include KX Gn SD EX in
theorem step15 {n : Nat} (ih : AllI (fun i (d : He.DefD) => FnT P w K mg base (clA K) (2 * n) (He.fAd K d.at_) (prog.call 3000 n i)) 0 fnl) : FnT P w K mg base (clA K) (2 * (n + 1)) (He.fAd K dd15.at_) (prog.call 3000 (n + 1) 15) := by
  obtain ⟨fd, F⟩ := SD.def_ 15 rfl
  exact fnT_call rfl (fnT_body ⟨3, 3, b_Store__move⟩ F sc15 (bn15 F) rfl rfl (fld_of (flds_of SD)) (meth_of (meths_of SD ih)) fun cdv A outer s H E G po => der15 (mod_of KX Gn SD EX ih) _ cdv A outer s H E G po)
include KX Gn SD EX in
theorem step16 {n : Nat} (ih : AllI (fun i (d : He.DefD) => FnT P w K mg base (clA K) (2 * n) (He.fAd K d.at_) (prog.call 3000 n i)) 0 fnl) : FnT P w K mg base (clA K) (2 * (n + 1)) (He.fAd K dd16.at_) (prog.call 3000 (n + 1) 16) := by
  obtain ⟨fd, F⟩ := SD.def_ 16 rfl
  exact fnT_call rfl (fnT_body ⟨4, 5, b_Store__give⟩ F sc16 (bn16 F) rfl rfl (fld_of (flds_of SD)) (meth_of (meths_of SD ih)) fun cdv A outer s H E G po => der16 (mod_of KX Gn SD EX ih) _ cdv A outer s H E G po)
include KX Gn SD EX in
theorem step17 {n : Nat} (ih : AllI (fun i (d : He.DefD) => FnT P w K mg base (clA K) (2 * n) (He.fAd K d.at_) (prog.call 3000 n i)) 0 fnl) : FnT P w K mg base (clA K) (2 * (n + 1)) (He.fAd K dd17.at_) (prog.call 3000 (n + 1) 17) := by
  obtain ⟨fd, F⟩ := SD.def_ 17 rfl
  exact fnT_call rfl (fnT_body ⟨2, 2, b_Store__do⟩ F sc17 (bn17 F) rfl rfl (fld_of (flds_of SD)) (meth_of (meths_of SD ih)) fun cdv A outer s H E G po => der17 (mod_of KX Gn SD EX ih) _ cdv A outer s H E G po)
include KX Gn SD EX in
theorem step18 {n : Nat} (ih : AllI (fun i (d : He.DefD) => FnT P w K mg base (clA K) (2 * n) (He.fAd K d.at_) (prog.call 3000 n i)) 0 fnl) : FnT P w K mg base (clA K) (2 * (n + 1)) (He.fAd K dd18.at_) (prog.call 3000 (n + 1) 18) := by
  obtain ⟨fd, F⟩ := SD.def_ 18 rfl
  exact fnT_call rfl (fnT_body ⟨2, 2, b_Store__shown⟩ F sc18 (bn18 F) rfl rfl (fld_of (flds_of SD)) (meth_of (meths_of SD ih)) fun cdv A outer s H E G po => der18 (mod_of KX Gn SD EX ih) _ cdv A outer s H E G po)
include KX Gn SD EX in
theorem step19 {n : Nat} (ih : AllI (fun i (d : He.DefD) => FnT P w K mg base (clA K) (2 * n) (He.fAd K d.at_) (prog.call 3000 n i)) 0 fnl) : FnT P w K mg base (clA K) (2 * (n + 1)) (He.fAd K dd19.at_) (prog.call 3000 (n + 1) 19) := by
  obtain ⟨fd, F⟩ := SD.def_ 19 rfl
  exact fnT_call rfl (fnT_body ⟨3, 4, b_run_store⟩ F sc19 (bn19 F) rfl rfl (fld_of (flds_of SD)) (meth_of (meths_of SD ih)) fun cdv A outer s H E G po => der19 (mod_of KX Gn SD EX ih) _ cdv A outer s H E G po)
include KX Gn SD EX in
theorem step20 {n : Nat} (ih : AllI (fun i (d : He.DefD) => FnT P w K mg base (clA K) (2 * n) (He.fAd K d.at_) (prog.call 3000 n i)) 0 fnl) : FnT P w K mg base (clA K) (2 * (n + 1)) (He.fAd K dd20.at_) (prog.call 3000 (n + 1) 20) := by
  obtain ⟨fd, F⟩ := SD.def_ 20 rfl
  exact fnT_call rfl (fnT_body ⟨3, 4, b_slots_behind⟩ F sc20 (bn20 F) rfl rfl (fld_of (flds_of SD)) (meth_of (meths_of SD ih)) fun cdv A outer s H E G po => der20 (mod_of KX Gn SD EX ih) _ cdv A outer s H E G po)
include KX Gn SD EX in
theorem step21 {n : Nat} (ih : AllI (fun i (d : He.DefD) => FnT P w K mg base (clA K) (2 * n) (He.fAd K d.at_) (prog.call 3000 n i)) 0 fnl) : FnT P w K mg base (clA K) (2 * (n + 1)) (He.fAd K dd21.at_) (prog.call 3000 (n + 1) 21) := by
  obtain ⟨fd, F⟩ := SD.def_ 21 rfl
  exact fnT_call rfl (fnT_body ⟨1, 1, b__law_pen⟩ F sc21 (bn21 F) rfl rfl (fld_of (flds_of SD)) (meth_of (meths_of SD ih)) fun cdv A outer s H E G po => der21 (mod_of KX Gn SD EX ih) _ cdv A outer s H E G po)
include KX Gn SD EX in
theorem step22 {n : Nat} (ih : AllI (fun i (d : He.DefD) => FnT P w K mg base (clA K) (2 * n) (He.fAd K d.at_) (prog.call 3000 n i)) 0 fnl) : FnT P w K mg base (clA K) (2 * (n + 1)) (He.fAd K dd22.at_) (prog.call 3000 (n + 1) 22) := by
  obtain ⟨fd, F⟩ := SD.def_ 22 rfl
  exact fnT_call rfl (fnT_body ⟨1, 7, b__law_fresh⟩ F sc22 (bn22 F) rfl rfl (fld_of (flds_of SD)) (meth_of (meths_of SD ih)) fun cdv A outer s H E G po => der22 (mod_of KX Gn SD EX ih) _ cdv A outer s H E G po)
include KX Gn SD EX in
theorem step23 {n : Nat} (ih : AllI (fun i (d : He.DefD) => FnT P w K mg base (clA K) (2 * n) (He.fAd K d.at_) (prog.call 3000 n i)) 0 fnl) : FnT P w K mg base (clA K) (2 * (n + 1)) (He.fAd K dd23.at_) (prog.call 3000 (n + 1) 23) := by
  obtain ⟨fd, F⟩ := SD.def_ 23 rfl
  exact fnT_call rfl (fnT_body ⟨2, 3, b__law_draw⟩ F sc23 (bn23 F) rfl rfl (fld_of (flds_of SD)) (meth_of (meths_of SD ih)) fun cdv A outer s H E G po => der23 (mod_of KX Gn SD EX ih) _ cdv A outer s H E G po)
include KX Gn SD EX in
theorem step24 {n : Nat} (ih : AllI (fun i (d : He.DefD) => FnT P w K mg base (clA K) (2 * n) (He.fAd K d.at_) (prog.call 3000 n i)) 0 fnl) : FnT P w K mg base (clA K) (2 * (n + 1)) (He.fAd K dd24.at_) (prog.call 3000 (n + 1) 24) := by
  obtain ⟨fd, F⟩ := SD.def_ 24 rfl
  exact fnT_call rfl (fnT_body ⟨1, 1, b__law_blocks⟩ F sc24 (bn24 F) rfl rfl (fld_of (flds_of SD)) (meth_of (meths_of SD ih)) fun cdv A outer s H E G po => der24 (mod_of KX Gn SD EX ih) _ cdv A outer s H E G po)
include KX Gn SD EX in
theorem step25 {n : Nat} (ih : AllI (fun i (d : He.DefD) => FnT P w K mg base (clA K) (2 * n) (He.fAd K d.at_) (prog.call 3000 n i)) 0 fnl) : FnT P w K mg base (clA K) (2 * (n + 1)) (He.fAd K dd25.at_) (prog.call 3000 (n + 1) 25) := by
  obtain ⟨fd, F⟩ := SD.def_ 25 rfl
  exact fnT_call rfl (fnT_body ⟨2, 7, b__law_all_paths⟩ F sc25 (bn25 F) rfl rfl (fld_of (flds_of SD)) (meth_of (meths_of SD ih)) fun cdv A outer s H E G po => der25 (mod_of KX Gn SD EX ih) _ cdv A outer s H E G po)
include KX Gn SD EX in
theorem step26 {n : Nat} (ih : AllI (fun i (d : He.DefD) => FnT P w K mg base (clA K) (2 * n) (He.fAd K d.at_) (prog.call 3000 n i)) 0 fnl) : FnT P w K mg base (clA K) (2 * (n + 1)) (He.fAd K dd26.at_) (prog.call 3000 (n + 1) 26) := by
  obtain ⟨fd, F⟩ := SD.def_ 26 rfl
  exact fnT_call rfl (fnT_body ⟨2, 4, b__law_block_at⟩ F sc26 (bn26 F) rfl rfl (fld_of (flds_of SD)) (meth_of (meths_of SD ih)) fun cdv A outer s H E G po => der26 (mod_of KX Gn SD EX ih) _ cdv A outer s H E G po)
include KX Gn SD EX in
theorem step27 {n : Nat} (ih : AllI (fun i (d : He.DefD) => FnT P w K mg base (clA K) (2 * n) (He.fAd K d.at_) (prog.call 3000 n i)) 0 fnl) : FnT P w K mg base (clA K) (2 * (n + 1)) (He.fAd K dd27.at_) (prog.call 3000 (n + 1) 27) := by
  obtain ⟨fd, F⟩ := SD.def_ 27 rfl
  exact fnT_call rfl (fnT_body ⟨2, 2, b__law_at⟩ F sc27 (bn27 F) rfl rfl (fld_of (flds_of SD)) (meth_of (meths_of SD ih)) fun cdv A outer s H E G po => der27 (mod_of KX Gn SD EX ih) _ cdv A outer s H E G po)
include KX Gn SD EX in
theorem step28 {n : Nat} (ih : AllI (fun i (d : He.DefD) => FnT P w K mg base (clA K) (2 * n) (He.fAd K d.at_) (prog.call 3000 n i)) 0 fnl) : FnT P w K mg base (clA K) (2 * (n + 1)) (He.fAd K dd28.at_) (prog.call 3000 (n + 1) 28) := by
  obtain ⟨fd, F⟩ := SD.def_ 28 rfl
  exact fnT_call rfl (fnT_body ⟨4, 9, b__law_statement⟩ F sc28 (bn28 F) rfl rfl (fld_of (flds_of SD)) (meth_of (meths_of SD ih)) fun cdv A outer s H E G po => der28 (mod_of KX Gn SD EX ih) _ cdv A outer s H E G po)
include KX Gn SD EX in
theorem step29 {n : Nat} (ih : AllI (fun i (d : He.DefD) => FnT P w K mg base (clA K) (2 * n) (He.fAd K d.at_) (prog.call 3000 n i)) 0 fnl) : FnT P w K mg base (clA K) (2 * (n + 1)) (He.fAd K dd29.at_) (prog.call 3000 (n + 1) 29) := by
  obtain ⟨fd, F⟩ := SD.def_ 29 rfl
  exact fnT_call rfl (fnT_body ⟨4, 6, b__law_block⟩ F sc29 (bn29 F) rfl rfl (fld_of (flds_of SD)) (meth_of (meths_of SD ih)) fun cdv A outer s H E G po => der29 (mod_of KX Gn SD EX ih) _ cdv A outer s H E G po)
include KX Gn SD EX in
theorem step30 {n : Nat} (ih : AllI (fun i (d : He.DefD) => FnT P w K mg base (clA K) (2 * n) (He.fAd K d.at_) (prog.call 3000 n i)) 0 fnl) : FnT P w K mg base (clA K) (2 * (n + 1)) (He.fAd K dd30.at_) (prog.call 3000 (n + 1) 30) := by
  obtain ⟨fd, F⟩ := SD.def_ 30 rfl
  exact fnT_call rfl (fnT_body ⟨5, 8, b__law_program⟩ F sc30 (bn30 F) rfl rfl (fld_of (flds_of SD)) (meth_of (meths_of SD ih)) fun cdv A outer s H E G po => der30 (mod_of KX Gn SD EX ih) _ cdv A outer s H E G po)
include KX Gn SD EX in
theorem step31 {n : Nat} (ih : AllI (fun i (d : He.DefD) => FnT P w K mg base (clA K) (2 * n) (He.fAd K d.at_) (prog.call 3000 n i)) 0 fnl) : FnT P w K mg base (clA K) (2 * (n + 1)) (He.fAd K dd31.at_) (prog.call 3000 (n + 1) 31) := by
  obtain ⟨fd, F⟩ := SD.def_ 31 rfl
  exact fnT_call rfl (fnT_body ⟨2, 3, b__law_list⟩ F sc31 (bn31 F) rfl rfl (fld_of (flds_of SD)) (meth_of (meths_of SD ih)) fun cdv A outer s H E G po => der31 (mod_of KX Gn SD EX ih) _ cdv A outer s H E G po)
include KX Gn SD EX in
theorem step32 {n : Nat} (ih : AllI (fun i (d : He.DefD) => FnT P w K mg base (clA K) (2 * n) (He.fAd K d.at_) (prog.call 3000 n i)) 0 fnl) : FnT P w K mg base (clA K) (2 * (n + 1)) (He.fAd K dd32.at_) (prog.call 3000 (n + 1) 32) := by
  obtain ⟨fd, F⟩ := SD.def_ 32 rfl
  exact fnT_call rfl (fnT_body ⟨2, 3, b__law_copying⟩ F sc32 (bn32 F) rfl rfl (fld_of (flds_of SD)) (meth_of (meths_of SD ih)) fun cdv A outer s H E G po => der32 (mod_of KX Gn SD EX ih) _ cdv A outer s H E G po)
include KX Gn SD EX in
theorem step33 {n : Nat} (ih : AllI (fun i (d : He.DefD) => FnT P w K mg base (clA K) (2 * n) (He.fAd K d.at_) (prog.call 3000 n i)) 0 fnl) : FnT P w K mg base (clA K) (2 * (n + 1)) (He.fAd K dd33.at_) (prog.call 3000 (n + 1) 33) := by
  obtain ⟨fd, F⟩ := SD.def_ 33 rfl
  exact fnT_call rfl (fnT_body ⟨1, 3, b__law_some_program⟩ F sc33 (bn33 F) rfl rfl (fld_of (flds_of SD)) (meth_of (meths_of SD ih)) fun cdv A outer s H E G po => der33 (mod_of KX Gn SD EX ih) _ cdv A outer s H E G po)
include KX Gn SD EX in
theorem step34 {n : Nat} (ih : AllI (fun i (d : He.DefD) => FnT P w K mg base (clA K) (2 * n) (He.fAd K d.at_) (prog.call 3000 n i)) 0 fnl) : FnT P w K mg base (clA K) (2 * (n + 1)) (He.fAd K dd34.at_) (prog.call 3000 (n + 1) 34) := by
  obtain ⟨fd, F⟩ := SD.def_ 34 rfl
  exact fnT_call rfl (fnT_body ⟨3, 6, b__law_mapped⟩ F sc34 (bn34 F) rfl rfl (fld_of (flds_of SD)) (meth_of (meths_of SD ih)) fun cdv A outer s H E G po => der34 (mod_of KX Gn SD EX ih) _ cdv A outer s H E G po)
include KX Gn SD EX in
theorem step35 {n : Nat} (ih : AllI (fun i (d : He.DefD) => FnT P w K mg base (clA K) (2 * n) (He.fAd K d.at_) (prog.call 3000 n i)) 0 fnl) : FnT P w K mg base (clA K) (2 * (n + 1)) (He.fAd K dd35.at_) (prog.call 3000 (n + 1) 35) := by
  obtain ⟨fd, F⟩ := SD.def_ 35 rfl
  exact fnT_call rfl (fnT_body ⟨2, 5, b__law_shuffled⟩ F sc35 (bn35 F) rfl rfl (fld_of (flds_of SD)) (meth_of (meths_of SD ih)) fun cdv A outer s H E G po => der35 (mod_of KX Gn SD EX ih) _ cdv A outer s H E G po)
include KX Gn SD EX in
theorem step36 {n : Nat} (ih : AllI (fun i (d : He.DefD) => FnT P w K mg base (clA K) (2 * n) (He.fAd K d.at_) (prog.call 3000 n i)) 0 fnl) : FnT P w K mg base (clA K) (2 * (n + 1)) (He.fAd K dd36.at_) (prog.call 3000 (n + 1) 36) := by
  obtain ⟨fd, F⟩ := SD.def_ 36 rfl
  exact fnT_call rfl (fnT_body ⟨1, 16, b_law⟩ F sc36 (bn36 F) rfl rfl (fld_of (flds_of SD)) (meth_of (meths_of SD ih)) fun cdv A outer s H E G po => der36 (mod_of KX Gn SD EX ih) _ cdv A outer s H E G po)
include KX Gn SD EX in
theorem allOk : ∀ n, AllI (fun i (d : He.DefD) => FnT P w K mg base (clA K) (2 * n) (He.fAd K d.at_) (prog.call 3000 n i)) 0 fnl
  | 0 => ⟨zero0 SD, zero1 SD, zero2 SD, zero3 SD, zero4 SD, zero5 SD, zero6 SD, zero7 SD, zero8 SD, zero9 SD, zero10 SD, zero11 SD, zero12 SD, zero13 SD, zero14 SD, zero15 SD, zero16 SD, zero17 SD, zero18 SD, zero19 SD, zero20 SD, zero21 SD, zero22 SD, zero23 SD, zero24 SD, zero25 SD, zero26 SD, zero27 SD, zero28 SD, zero29 SD, zero30 SD, zero31 SD, zero32 SD, zero33 SD, zero34 SD, zero35 SD, zero36 SD, trivial⟩
  | n + 1 => ⟨step0 KX Gn SD EX (allOk n), step1 KX Gn SD EX (allOk n), step2 KX Gn SD EX (allOk n), step3 KX Gn SD EX (allOk n), step4 KX Gn SD EX (allOk n), step5 KX Gn SD EX (allOk n), step6 KX Gn SD EX (allOk n), step7 KX Gn SD EX (allOk n), step8 KX Gn SD EX (allOk n), step9 KX Gn SD EX (allOk n), step10 KX Gn SD EX (allOk n), step11 KX Gn SD EX (allOk n), step12 KX Gn SD EX (allOk n), step13 KX Gn SD EX (allOk n), step14 KX Gn SD EX (allOk n), step15 KX Gn SD EX (allOk n), step16 KX Gn SD EX (allOk n), step17 KX Gn SD EX (allOk n), step18 KX Gn SD EX (allOk n), step19 KX Gn SD EX (allOk n), step20 KX Gn SD EX (allOk n), step21 KX Gn SD EX (allOk n), step22 KX Gn SD EX (allOk n), step23 KX Gn SD EX (allOk n), step24 KX Gn SD EX (allOk n), step25 KX Gn SD EX (allOk n), step26 KX Gn SD EX (allOk n), step27 KX Gn SD EX (allOk n), step28 KX Gn SD EX (allOk n), step29 KX Gn SD EX (allOk n), step30 KX Gn SD EX (allOk n), step31 KX Gn SD EX (allOk n), step32 KX Gn SD EX (allOk n), step33 KX Gn SD EX (allOk n), step34 KX Gn SD EX (allOk n), step35 KX Gn SD EX (allOk n), step36 KX Gn SD EX (allOk n), trivial⟩
end
abbrev lawM : List D → MI.R D := (⟨1, 16, b_law⟩ : MI.Fn).run (cx 100)
theorem law_ok {P : Program} {w : World} {K : PySem.W.Frag} {mg : Str → Option Value} {base h : Heap} (KX : K.In h) (Gn : h.Ns mainGlobals mg) (SD : He.SaysD fal fnl K) (EX : exB K = true) {fd : FuncData} (F : FunD K "law" "law" (defArgs s36) (defBody s36) (defScope s36) [] [] (He.ga K "law") fd) :
    FnOk P w K mg base (L2.CX P w) (2 * 100 + 2) (He.ga K "law") fd ["script"] (spOf K (clA K) 1 lawM) :=
  fnOk_body (ps := P36) ⟨1, 16, b_law⟩ F sc36 (bn36 F) rfl rfl (fld_of (flds_of SD)) (meth_of (meths_of SD (allOk KX Gn SD EX 100))) fun cdv A outer s H E G po => der36 (mod_of KX Gn SD EX (allOk KX Gn SD EX 100)) _ cdv A outer s H E G po
theorem law_holds (pure : ∀ ns : List Int, ns.length ≤ 63 → ∃ st, lawM [.frz (ns.map D.int)] [] = some (.ok (.bl true), st)) : PySem.Challenge.rw_copyplaces_k68_whole_copies_counted.Holds := by
  open PySem PySem.W PySem.Calls PyProof.Rows in
  w_on; o_law
  refine HandSHeadRun.head_any (r := OpenLaw.row PySem.Challenge.rw_copyplaces_k68_whole_copies_counted) (q := view (OpenLaw.row PySem.Challenge.rw_copyplaces_k68_whole_copies_counted).prog [36]) (H := Dv.hk) (ob := Dv.ob) (M := 4000) (loose := Dv.loose) (d := HandSHeadRun.topDef (OpenLaw.row PySem.Challenge.rw_copyplaces_k68_whole_copies_counted).prog 36) (kwd := []) Dv.ob_eq
    (by kernel_rfl) (fun s => by kernel_rfl) Dv.run (by kernel_rfl) (by kernel_rfl) (by kernel_rfl) (by rfl) (by first | assumption | decide +kernel) (by decide +kernel) ⟨rfl, rfl, rfl, rfl, rfl, by decide +kernel⟩ ?hw ?hc
  case hw => w_witness2
  case hc =>
    refine L2.walk_ofE (l := PySem.Challenge.rw_copyplaces_k68_whole_copies_counted) (n := 63) (k := 2 * 100 + 2) (x := "script") (CX := L2.CX0) rfl (by decide) (by kernel_rfl) ⟨rfl, by decide, by decide⟩ ?F (fun _ _ _ _ z => z)
    intro w mg fa h Y G hmg0
    obtain ⟨K, KX, SD, EX⟩ := Y
    have hmg : mg ("law" : PySem.Str) = some (.ref fa) := by
      have e : (HandSHeadRun.topDef (OpenLaw.row PySem.Challenge.rw_copyplaces_k68_whole_copies_counted).prog 36).name = ("law" : PySem.Str) := by kernel_rfl
      rw [← e]
      exact hmg0
    obtain ⟨fd, F⟩ := SD.def_ 36 rfl
    have e := hmg.symm.trans (He.glo_ok KX G (SD.fact 54 rfl))
    cases e
    exact ⟨K, fd, fun vs H Q _ => spOf K (clA K) 1 lawM vs H Q fun _ _ _ => False, KX, FunD.bindsA (ps := ["script"]) F (fun _ _ _ _ _ _ us hl => match us, hl with | [_], _ => rfl) |> fun b s v => b s [v] rfl, fun H a ns hl hO hS => sp_law pure hl hO hS, fun base _ _ => fnOk_none (law_ok KX G SD EX F)⟩
end Dv

set_option autoImplicit false
set_option maxRecDepth 100000
set_option linter.all false
/-! R0: running MI's combinators on plain data. -/
namespace MI
theorem call_np {p : Prog} {fuel n f : Nat} {fn : Fn} (h : p.fns[f]? = some fn) (hp : p.pures.contains f = false) : p.call fuel (n + 1) f = fn.run ⟨p.call fuel n, p.meth, p.fld, fuel⟩ := by
  rw [Prog.call, h]
  show (if p.pures.contains f = true then _ else _) = _
  rw [if_neg (by rw [hp]; decide)]
theorem call_p {p : Prog} {fuel n f : Nat} {fn : Fn} (h : p.fns[f]? = some fn) (hp : p.pures.contains f = true) : p.call fuel (n + 1) f = optC (fn.run ⟨p.call fuel n, p.meth, p.fld, fuel⟩) := by
  rw [Prog.call, h]
  show (if p.pures.contains f = true then _ else _) = _
  rw [if_pos hp]
mutual
theorem eqv_refl : ∀ (n : Nat) (d : D), D.ok n d = true → D.eqv d d = true
  | _, .non, _ => rfl
  | _, .bl b, _ => by simp [D.eqv]
  | _, .int b, _ => by simp [D.eqv]
  | _, .str b, _ => by simp [D.eqv]
  | 0, .tup _, h => by simp [D.ok] at h
  | n + 1, .tup l, h => by
    simp only [D.ok, Bool.and_eq_true] at h
    simp only [D.eqv]; exact eqvL_refl n l h.2
  | 0, .xtup _, h => by simp [D.ok] at h
  | n + 1, .xtup l, h => by
    simp only [D.ok, Bool.and_eq_true] at h
    simp only [D.eqv]; exact eqvL_refl n l h.2
  | 0, .frz _, h => by simp [D.ok] at h
  | n + 1, .frz l, h => by
    simp only [D.ok, Bool.and_eq_true] at h
    simp only [D.eqv]; exact eqvL_refl n l h.2
  | _, .loc _, h => by simp [D.ok] at h
theorem eqvL_refl : ∀ (n : Nat) (l : List D), D.okL n l = true → D.eqvL l l = true
  | _, [], _ => rfl
  | n, x :: xs, h => by
    simp only [D.okL, Bool.and_eq_true] at h
    simp only [D.eqvL, Bool.and_eq_true]
    exact ⟨eqv_refl n x h.1, eqvL_refl n xs h.2⟩
end
theorem dat_self {d : D} {st : Stt} {n : Nat} (h : D.ok n d = true) : dat d st = some d := by
  cases d <;> first | rfl | simp [D.ok] at h
/-! ### plain calls -/
theorem opt_run {g : List D → R D} {ds : List D} {st st' : Stt} {d : D} (ha : D.lfL ds = true) (h : g ds [] = some (.ok d, st')) (hn : ∀ n, d ≠ .loc n) (hd : D.lf d = true) : optC g ds st = some (.ok d, st) := by
  unfold optC
  rw [if_pos ha, h]
  cases d with
  | loc n => exact absurd rfl (hn n)
  | _ => simp only [hd, if_true]
theorem opt_lst {g : List D → R D} {ds : List D} {st st' : Stt} {n : Nat} {l : List D} (ha : D.lfL ds = true) (h : g ds [] = some (.ok (.loc n), st')) (hn : st'[n]? = some (.lst l)) (hd : D.lfL l = true) : optC g ds st = some (.ok (.frz l), st) := by
  unfold optC
  rw [if_pos ha, h]
  simp only [hn, hd, if_true]
theorem ret_run {e : SE} {c : Ctx} {env : Env} {st st' : Stt} {d : D} (h : e c env st = some (.ok d, st')) : sRet e c env st = some (.rt d, env, st') := by
  unfold sRet sBnd
  rw [h]
theorem expr_run {e : SE} {c : Ctx} {env : Env} {st st' : Stt} {d : D} (h : e c env st = some (.ok d, st')) : sExpr e c env st = some (.nx, env, st') := by
  unfold sExpr sBnd
  rw [h]
theorem call_run {f : Nat} {l : SL} {c : Ctx} {env : Env} {st st1 : Stt} {xs : List D} {r : Option (Rs D × Stt)} (h : l c env st = some (.ok xs, st1)) (hc : c.call f xs st1 = r) : eCall f l c env st = r := by
  unfold eCall
  rw [bnd_ok h]
  exact hc
theorem lnil_run {c : Ctx} {env : Env} {st : Stt} : lNil c env st = some (.ok [], st) := rfl
theorem lcons_run {a : SE} {l : SL} {c : Ctx} {env : Env} {st st1 st2 : Stt} {x : D} {xs : List D} (h : a c env st = some (.ok x, st1)) (hl : l c env st1 = some (.ok xs, st2)) : lCons a l c env st = some (.ok (x :: xs), st2) := by
  unfold lCons
  rw [bnd_ok h, bnd_ok hl]; rfl
theorem tup_run {l : SL} {c : Ctx} {env : Env} {st st1 : Stt} {xs : List D} (h : l c env st = some (.ok xs, st1)) (hl : xs.length < lim) : eTup l c env st = some (.ok (.tup xs), st1) := by
  unfold eTup
  rw [bnd_ok h, if_pos hl]; rfl
theorem cB_run {e : SE} {c : Ctx} {env : Env} {st st1 : Stt} {b : Bool} (h : e c env st = some (.ok (.bl b), st1)) : cB e c env st = some (.ok b, st1) := by
  unfold cB
  rw [bnd_ok h]; rfl
theorem if_t {t : ST} {a b : SS} {c : Ctx} {env : Env} {st st1 : Stt} (h : t c env st = some (.ok true, st1)) : sIf t a b c env st = a c env st1 := by
  unfold sIf sBnd
  rw [h]; rfl
theorem if_f {t : ST} {a b : SS} {c : Ctx} {env : Env} {st st1 : Stt} (h : t c env st = some (.ok false, st1)) : sIf t a b c env st = b c env st1 := by
  unfold sIf sBnd
  rw [h]; rfl
theorem for_run {g : SG} {it : SI} {b : SS} {c : Ctx} {env : Env} {st st1 : Stt} {s : Src} {r : Option (Fl × Env × Stt)} (h : it c env st = some (.ok s, st1)) (hf : forL s (turnOf g b c) c.fuel 0 env st1 = r) : sFor g it b c env st = r := by
  unfold sFor sBnd
  rw [h]; exact hf
theorem comp_run {own : List Nat} {g : SG} {it : SI} {t : ST} {e : SE} {c : Ctx} {env : Env} {st st1 st2 : Stt} {s : Src} {l : List D} (h : it c env st = some (.ok s, st1)) (hf : compL s (compT g t e c (wipeE env own)) c.fuel 0 [] st1 = some (.ok l, st2)) : eCompF own g it t e c env st = some (.ok (.frz l), st2) := by
  unfold eCompF
  rw [bnd_ok h, bnd_ok hf]; rfl
/-- a comprehension over items each of whose turns is known -/
theorem compL_map {l : List D} {T : D → R (Option D)} (f : D → Option D) {st : Stt} (step : ∀ (i : Nat) (d : D), l[i]? = some d → T d st = some (.ok (f d), st)) :
    ∀ (fuel i : Nat) (acc : List D), l.length < i + fuel → i ≤ l.length → acc.length + (l.length - i) < lim - 1 → compL (.items l) T fuel i acc st = some (.ok (acc ++ (l.drop i).filterMap f), st)
  | 0, i, acc, h1, h2, _ => by omega
  | fuel + 1, i, acc, h1, h2, h3 => by
    unfold compL
    by_cases hi : i < l.length
    · have e : l[i]? = some l[i] := List.getElem?_eq_getElem hi
      have e2 : l.drop i = l[i] :: l.drop (i + 1) := List.drop_eq_getElem_cons hi
      have q := step i _ e
      simp only [srcAt, e, q]
      cases hf : f l[i] with
      | none =>
        have := compL_map f step fuel (i + 1) acc (by omega) (by omega) (by omega)
        rw [e2, List.filterMap_cons, hf]
        exact this
      | some x =>
        have ha : acc.length < lim - 1 := by omega
        simp only [ha, if_true]
        have := compL_map f step fuel (i + 1) (acc ++ [x]) (by omega) (by omega) (by rw [List.length_append]; show acc.length + 1 + _ < _; omega)
        rw [e2, List.filterMap_cons, hf, this]
        simp
    · have e : l[i]? = none := List.getElem?_eq_none_iff.mpr (by omega)
      have hi' : l.drop i = [] := List.drop_eq_nil_of_le (by omega)
      simp only [srcAt, e, hi', List.filterMap_nil, List.append_nil]
theorem compF_map {own : List Nat} {g : SG} {it : SI} {t : ST} {e : SE} {c : Ctx} {env : Env} {st st1 : Stt} {l r : List D} (f : D → Option D) (h : it c env st = some (.ok (.items l), st1)) (step : ∀ (i : Nat) (d : D), l[i]? = some d → compT g t e c (wipeE env own) d st1 = some (.ok (f d), st1)) (hf : l.length < c.fuel) (hl : l.length < lim - 1) (hr : l.filterMap f = r) :
    eCompF own g it t e c env st = some (.ok (.frz r), st1) := by
  refine comp_run h ?_
  have := compL_map f step c.fuel 0 [] (by omega) (Nat.zero_le _) (by simpa using hl)
  rw [this]
  simp [hr]
/-- `T d env st` for each item in turn, what holds being P -/
theorem for_inv {g : SG} {it : SI} {b : SS} {c : Ctx} {env : Env} {st st1 : Stt} {l : List D} (P : Nat → Env → Stt → Prop) (h : it c env st = some (.ok (.items l), st1)) (h0 : P 0 env st1) (hf : l.length < c.fuel)
    (step : ∀ (i : Nat) (d : D) (env : Env) (st : Stt), l[i]? = some d → P i env st → ∃ env' st', turnOf g b c d env st = some (.nx, env', st') ∧ P (i + 1) env' st') :
    ∃ env' st', sFor g it b c env st = some (.nx, env', st') ∧ P l.length env' st' := by
  obtain ⟨env', st', e, p⟩ := forL_inv (l := l) (P := P) (T := turnOf g b c) step c.fuel 0 env st1 (by omega) (Nat.zero_le _) h0
  exact ⟨env', st', for_run h e, p⟩
theorem turn_var {i : Nat} {b : SS} {c : Ctx} {d : D} {env : Env} {st : Stt} {r : Option (Fl × Env × Stt)} (hi : i < env.length) (h : b c (env.set i (some d)) st = r) : turnOf (gVar i) b c d env st = r := by
  unfold turnOf gVar
  rw [if_pos hi]
  exact h
theorem turn_two {i j : Nat} {b : SS} {c : Ctx} {x y : D} {env : Env} {st : Stt} {r : Option (Fl × Env × Stt)} (hi : i < env.length) (hj : j < env.length) (h : b c ((env.set i (some x)).set j (some y)) st = r) : turnOf (gTup 2 (gCons (gVar i) (gCons (gVar j) gNil))) b c (.tup [x, y]) env st = r := by
  have hj' : j < (env.set i (some x)).length := by simpa using hj
  unfold turnOf gTup gCons gVar
  simp only [List.length_cons, List.length_nil, if_true, hi, gCons, gVar, hj', gNil]
  exact h
theorem enumD_get : ∀ (l : List D) (k i : Nat) (d : D), (enumD k l)[i]? = some d → ∃ x, l[i]? = some x ∧ d = .tup [.int ((k + i : Nat) : Int), x]
  | [], k, i, d, h => by simp [enumD] at h
  | x :: l, k, 0, d, h => by
    simp [enumD] at h
    exact ⟨x, by simp, by rw [← h]; simp⟩
  | x :: l, k, i + 1, d, h => by
    simp only [enumD, List.getElem?_cons_succ] at h
    obtain ⟨y, h1, h2⟩ := enumD_get l (k + 1) i d h
    exact ⟨y, by simpa using h1, by rw [h2, show k + 1 + i = k + (i + 1) by omega]⟩
theorem enumD_len : ∀ (l : List D) (k : Nat), (enumD k l).length = l.length
  | [], _ => rfl
  | x :: l, k => by simp [enumD, enumD_len l (k + 1)]
theorem append_run {a b : SE} {c : Ctx} {env : Env} {st st1 : Stt} {k : Nat} {l l' : List D} {y : D} (ha : a c env st = some (.ok (.loc k), st)) (hk : st[k]? = some (.lst l)) (hb : b c env st = some (.ok y, st1)) (hk1 : st1[k]? = some (.lst l')) (hl : l'.length < lim - 1) :
    eMt1 isLst mAppend a b c env st = some (.ok .non, st1.set k (.lst (l' ++ [y]))) := by
  have h1 : isLst (.loc k) st = some (.ok (), st) := by simp [isLst, hk]
  unfold eMt1
  rw [bnd_ok ha, bnd_ok h1, bnd_ok hb]
  simp only [mAppend, hk1, hl, if_true]
theorem extend_run {a b : SE} {c : Ctx} {env : Env} {st st1 : Stt} {k : Nat} {l l' m : List D} {y : D} (ha : a c env st = some (.ok (.loc k), st)) (hk : st[k]? = some (.lst l)) (hb : b c env st = some (.ok y, st1)) (hk1 : st1[k]? = some (.lst l')) (hm : lstD y st1 = some m) (hl : l'.length + m.length < lim) :
    eMt1 isLst mExtend a b c env st = some (.ok .non, st1.set k (.lst (l' ++ m))) := by
  have h1 : isLst (.loc k) st = some (.ok (), st) := by simp [isLst, hk]
  unfold eMt1
  rw [bnd_ok ha, bnd_ok h1, bnd_ok hb]
  simp only [mExtend, hk1, hm, hl, if_true]
theorem enum_run {a : SE} {c : Ctx} {env : Env} {st st1 : Stt} {l : List D} (h : a c env st = some (.ok (.tup l), st1)) (hl : l.length < lim) : iEnum a c env st = some (.ok (.items (enumD 0 l)), st1) := by
  unfold iEnum
  rw [bnd_ok h]
  simp only [hl, if_true]
theorem seq_tup {a : SE} {c : Ctx} {env : Env} {st st1 : Stt} {l : List D} (h : a c env st = some (.ok (.tup l), st1)) : iSeq a c env st = some (.ok (.items l), st1) := by
  unfold iSeq
  rw [bnd_ok h]
theorem seq_xtup {a : SE} {c : Ctx} {env : Env} {st st1 : Stt} {l : List D} (h : a c env st = some (.ok (.xtup l), st1)) : iSeq a c env st = some (.ok (.items l), st1) := by
  unfold iSeq
  rw [bnd_ok h]
theorem seq_frz {a : SE} {c : Ctx} {env : Env} {st st1 : Stt} {l : List D} (h : a c env st = some (.ok (.frz l), st1)) : iSeq a c env st = some (.ok (.items l), st1) := by
  unfold iSeq
  rw [bnd_ok h]
theorem lst_new {l : SL} {c : Ctx} {env : Env} {st st1 : Stt} {xs : List D} (h : l c env st = some (.ok xs, st1)) (hl : xs.length < lim) : eLst l c env st = some (.ok (.loc st1.length), st1 ++ [.lst xs]) := by
  unfold eLst
  rw [bnd_ok h, if_pos hl]; rfl
theorem tadd_run {l m : List D} (st : Stt) (h : l.length + m.length < lim) : opAdd (.tup l) (.tup m) st = some (.ok (.tup (l ++ m)), st) := by
  simp only [opAdd, h, if_true]
theorem ix_tup {l : List D} {k : Nat} {d : D} (st : Stt) (h : l[k]? = some d) : opIx (.tup l) (.int (k : Int)) st = some (.ok d, st) := by
  have hk := (List.getElem?_eq_some_iff.mp h).1
  simp only [opIx, ixN_ofNat hk, Option.bind_some, h]
theorem ix_xtup {l : List D} {k : Nat} {d : D} (st : Stt) (h : l[k]? = some d) : opIx (.xtup l) (.int (k : Int)) st = some (.ok d, st) := by
  have hk := (List.getElem?_eq_some_iff.mp h).1
  simp only [opIx, ixN_ofNat hk, Option.bind_some, h]
theorem ix_frz {l : List D} {k : Nat} {d : D} (st : Stt) (h : l[k]? = some d) : opIx (.frz l) (.int (k : Int)) st = some (.ok d, st) := by
  have hk := (List.getElem?_eq_some_iff.mp h).1
  simp only [opIx, ixN_ofNat hk, Option.bind_some, h]
theorem ix_loc {a : Nat} {l : List D} {k : Nat} {d : D} {st : Stt} (ha : st[a]? = some (.lst l)) (h : l[k]? = some d) : opIx (.loc a) (.int (k : Int)) st = some (.ok d, st) := by
  have hk := (List.getElem?_eq_some_iff.mp h).1
  simp only [opIx, ha, ixN_ofNat hk, Option.bind_some, h]
/-- x[-1] -/
theorem ix_last {l : List D} {d : D} (st : Stt) : opIx (.tup (l ++ [d])) (.int (-1)) st = some (.ok d, st) := by
  have e : ixN (l ++ [d]).length (-1) = some l.length := by
    unfold ixN
    rw [if_neg (by decide), if_pos (by simp; omega)]
    simp
    omega
  simp only [opIx, e, Option.bind_some]
  simp
/-- x[:-1] -/
theorem slc_last {a : SE} {c : Ctx} {env : Env} {st st1 : Stt} {l : List D} {d : D} (h : a c env st = some (.ok (.tup (l ++ [d])), st1)) : eSlc a oNone (oSome (eUn opNeg (eC (.int 1)))) c env st = some (.ok (.tup l), st1) := by
  have h2 : oSome (eUn opNeg (eC (.int 1))) c env st1 = some (.ok (some (-1)), st1) := rfl
  have e : cut (l ++ [d]) none (some (-1)) = l := by
    unfold cut clampI
    simp
    rw [show (-1 + ((l.length : Int) + 1)).toNat = l.length by omega]
    simp
  unfold eSlc
  rw [bnd_ok h, bnd_ok (x := oNone c env) (a := none) (st1 := st1) rfl, bnd_ok h2]
  simp only [opSlc, e]
theorem compL_mapG {α : Type} {xs : List α} {g : α → D} {T : D → R (Option D)} (f : α → Option D) {st : Stt} (step : ∀ x, x ∈ xs → T (g x) st = some (.ok (f x), st)) :
    ∀ (fuel i : Nat) (acc : List D), xs.length < i + fuel → i ≤ xs.length → acc.length + (xs.length - i) < lim - 1 → compL (.items (xs.map g)) T fuel i acc st = some (.ok (acc ++ (xs.drop i).filterMap f), st)
  | 0, i, acc, h1, h2, _ => by omega
  | fuel + 1, i, acc, h1, h2, h3 => by
    unfold compL
    by_cases hi : i < xs.length
    · have e : (xs.map g)[i]? = some (g xs[i]) := by rw [List.getElem?_map, List.getElem?_eq_getElem hi]; rfl
      have e2 : xs.drop i = xs[i] :: xs.drop (i + 1) := List.drop_eq_getElem_cons hi
      have q := step xs[i] (List.getElem_mem hi)
      simp only [srcAt, e, q]
      cases hf : f xs[i] with
      | none =>
        have := compL_mapG f step fuel (i + 1) acc (by omega) (by omega) (by omega)
        rw [e2, List.filterMap_cons, hf]
        exact this
      | some x =>
        have ha : acc.length < lim - 1 := by omega
        simp only [ha, if_true]
        have := compL_mapG f step fuel (i + 1) (acc ++ [x]) (by omega) (by omega) (by rw [List.length_append]; show acc.length + 1 + _ < _; omega)
        rw [e2, List.filterMap_cons, hf, this]
        simp
    · have e : (xs.map g)[i]? = none := List.getElem?_eq_none_iff.mpr (by rw [List.length_map]; omega)
      have hi' : xs.drop i = [] := List.drop_eq_nil_of_le (by omega)
      simp only [srcAt, e, hi', List.filterMap_nil, List.append_nil]
theorem compF_mapG {α : Type} {own : List Nat} {tg : SG} {it : SI} {t : ST} {e : SE} {c : Ctx} {env : Env} {st st1 : Stt} {xs : List α} {g : α → D} {r : List D} (f : α → Option D) (h : it c env st = some (.ok (.items (xs.map g)), st1)) (step : ∀ x, x ∈ xs → compT tg t e c (wipeE env own) (g x) st1 = some (.ok (f x), st1)) (hf : xs.length < c.fuel) (hl : xs.length < lim - 1) (hr : xs.filterMap f = r) :
    eCompF own tg it t e c env st = some (.ok (.frz r), st1) := by
  refine comp_run h ?_
  have := compL_mapG f step c.fuel 0 [] (by omega) (Nat.zero_le _) (by simpa using hl)
  rw [this]
  simp [hr]
/-- one turn of a comprehension over a name -/
theorem compT_y {i : Nat} {t : ST} {e : SE} {c : Ctx} {env : Env} {d x : D} {st st1 st2 : Stt} (hi : i < env.length) (ht : t c (env.set i (some d)) st = some (.ok true, st1)) (he : e c (env.set i (some d)) st1 = some (.ok x, st2)) : compT (gVar i) t e c env d st = some (.ok (some x), st2) := by
  unfold compT gVar
  rw [if_pos hi]
  show bnd (t c (env.set i (some d))) _ st = _
  rw [bnd_ok ht, if_pos rfl, bnd_ok he]; rfl
theorem compT_n {i : Nat} {t : ST} {e : SE} {c : Ctx} {env : Env} {d : D} {st st1 : Stt} (hi : i < env.length) (ht : t c (env.set i (some d)) st = some (.ok false, st1)) : compT (gVar i) t e c env d st = some (.ok none, st1) := by
  unfold compT gVar
  rw [if_pos hi]
  show bnd (t c (env.set i (some d))) _ st = _
  rw [bnd_ok ht]; rfl
theorem run_nx {fn : Fn} {c : Ctx} {ds : List D} {st st' : Stt} {env' : Env} (hl : ds.length = fn.pars) (h : fn.body c (ds.map some ++ List.replicate (fn.slots - fn.pars) none) st = some (.nx, env', st')) : fn.run c ds st = some (.ok .non, st') := by
  unfold Fn.run
  rw [if_pos hl, h]
theorem fr_rt {p k : Nat} {b : SS} {c : Ctx} {ds : List D} {env env' : Env} {st st' : Stt} {d : D} (hl : ds.length = p) (he : ds.map some ++ List.replicate (k - p) none = env) (h : b c env st = some (.rt d, env', st')) : (⟨p, k, b⟩ : Fn).run c ds st = some (.ok d, st') := by
  subst he
  exact run_rt (fn := ⟨p, k, b⟩) hl h
theorem fr_nx {p k : Nat} {b : SS} {c : Ctx} {ds : List D} {env env' : Env} {st st' : Stt} (hl : ds.length = p) (he : ds.map some ++ List.replicate (k - p) none = env) (h : b c env st = some (.nx, env', st')) : (⟨p, k, b⟩ : Fn).run c ds st = some (.ok .non, st') := by
  subst he
  exact run_nx (fn := ⟨p, k, b⟩) hl h
/-- the same over a list that stands in the store, unchanged by the turns -/
theorem compL_live {n : Nat} {l : List D} {T : D → R (Option D)} {st : Stt} (hn : st[n]? = some (.lst l)) (keep : ∀ d, d ∈ l → ∃ r, T d st = some (.ok r, st)) :
    ∀ (fuel i : Nat) (acc : List D), compL (.live n) T fuel i acc st = compL (.items l) T fuel i acc st
  | 0, _, _ => rfl
  | fuel + 1, i, acc => by
    unfold compL
    simp only [srcAt, hn]
    cases e : l[i]? with
    | none => rfl
    | some d =>
      obtain ⟨r, hr⟩ := keep d (List.mem_of_getElem? e)
      simp only [hr]
      cases r with
      | none => exact compL_live hn keep fuel (i + 1) acc
      | some x =>
        simp only
        by_cases h : acc.length < lim - 1
        · simp only [h, if_true]; exact compL_live hn keep fuel (i + 1) _
        · simp only [h, if_false]
theorem compF_live {α : Type} {own : List Nat} {tg : SG} {it : SI} {t : ST} {e : SE} {c : Ctx} {env : Env} {st st1 : Stt} {n : Nat} {xs : List α} {g : α → D} {r : List D} (f : α → Option D) (h : it c env st = some (.ok (.live n), st1)) (hn : st1[n]? = some (.lst (xs.map g))) (step : ∀ x, x ∈ xs → compT tg t e c (wipeE env own) (g x) st1 = some (.ok (f x), st1)) (hf : xs.length < c.fuel) (hl : xs.length < lim - 1) (hr : xs.filterMap f = r) :
    eCompF own tg it t e c env st = some (.ok (.frz r), st1) := by
  refine comp_run h ?_
  rw [compL_live hn (fun d hd => by
    obtain ⟨x, hx, rfl⟩ := List.mem_map.mp hd
    exact ⟨_, step x hx⟩)]
  have := compL_mapG f step c.fuel 0 [] (by omega) (Nat.zero_le _) (by simpa using hl)
  rw [this]
  simp [hr]
theorem seq_loc {a : SE} {c : Ctx} {env : Env} {st st1 : Stt} {n : Nat} {l : List D} (h : a c env st = some (.ok (.loc n), st1)) (hn : st1[n]? = some (.lst l)) : iSeq a c env st = some (.ok (.live n), st1) := by
  unfold iSeq
  rw [bnd_ok h]
  simp only [hn]
theorem tuple_frz {a : SE} {c : Ctx} {env : Env} {st st1 : Stt} {l : List D} (h : a c env st = some (.ok (.frz l), st1)) : eUn bTuple a c env st = some (.ok (.tup l), st1) := un_run h rfl
/-- a comprehension whose turns change the store -/
theorem compL_inv {l : List D} {T : D → R (Option D)} {P : Nat → List D → Stt → Prop} (step : ∀ (i : Nat) (d : D) (acc : List D) (st : Stt), l[i]? = some d → P i acc st → ∃ o st', T d st = some (.ok o, st') ∧ P (i + 1) (acc ++ o.toList) st') :
    ∀ (fuel i : Nat) (acc : List D) (st : Stt), l.length < i + fuel → i ≤ l.length → acc.length + (l.length - i) < lim - 1 → P i acc st → ∃ acc' st', compL (.items l) T fuel i acc st = some (.ok acc', st') ∧ P l.length acc' st'
  | 0, i, acc, st, h1, h2, _, _ => by omega
  | fuel + 1, i, acc, st, h1, h2, h3, p => by
    unfold compL
    by_cases hi : i < l.length
    · have e : l[i]? = some l[i] := List.getElem?_eq_getElem hi
      obtain ⟨o, st', q, p'⟩ := step i _ acc st e p
      simp only [srcAt, e, q]
      cases o with
      | none => exact compL_inv step fuel (i + 1) acc st' (by omega) (by omega) (by omega) (by simpa using p')
      | some x =>
        have ha : acc.length < lim - 1 := by omega
        simp only [ha, if_true]
        exact compL_inv step fuel (i + 1) (acc ++ [x]) st' (by omega) (by omega) (by rw [List.length_append]; show acc.length + 1 + _ < _; omega) (by simpa using p')
    · have e : l[i]? = none := List.getElem?_eq_none_iff.mpr (by omega)
      have hi' : i = l.length := by omega
      subst hi'
      exact ⟨acc, st, by simp only [srcAt, e], p⟩
theorem compF_inv {own : List Nat} {tg : SG} {it : SI} {t : ST} {e : SE} {c : Ctx} {env : Env} {st st1 : Stt} {l : List D} (P : Nat → List D → Stt → Prop) (h : it c env st = some (.ok (.items l), st1)) (h0 : P 0 [] st1) (hf : l.length < c.fuel) (hl : l.length < lim - 1)
    (step : ∀ (i : Nat) (d : D) (acc : List D) (st : Stt), l[i]? = some d → P i acc st → ∃ o st', compT tg t e c (wipeE env own) d st = some (.ok o, st') ∧ P (i + 1) (acc ++ o.toList) st') :
    ∃ acc st2, eCompF own tg it t e c env st = some (.ok (.frz acc), st2) ∧ P l.length acc st2 := by
  obtain ⟨acc, st2, q, p⟩ := compL_inv step c.fuel 0 [] st1 (by omega) (Nat.zero_le _) (by simpa using hl) h0
  exact ⟨acc, st2, comp_run h q, p⟩
end MI

set_option autoImplicit false
set_option maxRecDepth 100000
/-! N0: programs as trees. -/
namespace MI
open PySem
/-- what passes without a spot -/
inductive Pl where
  | fresh (x : Nat)
  | give (l x y : Nat)
  | change (l x m : Nat)
/-- a statement; br: a loop (one block) or a choice -/
inductive Stm where
  | pl (p : Pl)
  | look (x : Nat)
  | br (lp : Bool) (bs : List (List Stm))
def Pl.d : Pl → D
  | .fresh x => .tup [.str w_fresh, .int x]
  | .give l x y => .tup [.str w_give, .int l, .int x, .int y]
  | .change l x m => .tup [.str w_change, .int l, .int x, .int m]
mutual
def Stm.d : Stm → D
  | .pl p => p.d
  | .look x => .tup [.str w_look, .int x]
  | .br true bs => .tup (.str w_loop :: bsL bs)
  | .br false bs => .tup [.str w_choose, .tup (bsL bs)]
def blL : List Stm → List D
  | [] => []
  | s :: r => s.d :: blL r
def bsL : List (List Stm) → List D
  | [] => []
  | b :: r => .tup (blL b) :: bsL r
end
theorem blL_map : ∀ b : List Stm, blL b = b.map Stm.d
  | [] => rfl
  | s :: r => by simp [blL, blL_map r]
theorem bsL_map : ∀ b : List (List Stm), bsL b = b.map fun b => .tup (blL b)
  | [] => rfl
  | s :: r => by simp [bsL, bsL_map r]
def Stm.bs : Stm → List (List Stm)
  | .br _ bs => bs
  | _ => []
def Stm.isSpot : Stm → Bool
  | .pl _ => false
  | _ => true
def Stm.isLoop : Stm → Bool
  | .br lp _ => lp
  | _ => false
def Pl.ok (n : Nat) : Pl → Prop
  | .fresh x => x < n
  | .give l x y => x < n ∧ y < n ∧ x ≠ y ∧ l < 8
  | .change l x m => x < n ∧ l < 8 ∧ m < 10
mutual
/-- a statement about n names, so deep at most -/
def Stm.ok (n : Nat) : Nat → Stm → Prop
  | _, .pl p => p.ok n
  | _, .look x => x < n
  | 0, .br _ _ => False
  | k + 1, .br lp bs => (lp = true → bs.length = 1) ∧ bs.length ≤ 3 ∧ okBs n k bs
def okB (n : Nat) : Nat → List Stm → Prop
  | _, [] => True
  | k, s :: r => s.ok n k ∧ okB n k r
def okBs (n : Nat) : Nat → List (List Stm) → Prop
  | _, [] => True
  | k, b :: r => (b.length ≤ 8 ∧ okB n k b) ∧ okBs n k r
end
theorem okB_get {n k : Nat} : ∀ {b : List Stm} {i : Nat} {s : Stm}, okB n k b → b[i]? = some s → s.ok n k
  | [], _, _, _, h => by simp at h
  | x :: r, 0, s, h, e => by simp at e; subst e; exact h.1
  | x :: r, i + 1, s, h, e => okB_get (i := i) h.2 (by simpa using e)
theorem okBs_get {n k : Nat} : ∀ {b : List (List Stm)} {i : Nat} {s : List Stm}, okBs n k b → b[i]? = some s → s.length ≤ 8 ∧ okB n k s
  | [], _, _, _, h => by simp at h
  | x :: r, 0, s, h, e => by simp at e; subst e; exact h.1
  | x :: r, i + 1, s, h, e => okBs_get (i := i) h.2 (by simpa using e)
mutual
def psS : Stm → List Nat → List (List Nat)
  | .br _ bs, p => psBs bs p 0
  | .pl _, _ => []
  | .look _, _ => []
def psB : List Stm → List Nat → Nat → List (List Nat)
  | [], _, _ => []
  | s :: r, p, i => (p ++ [i]) :: (psS s (p ++ [i]) ++ psB r p (i + 1))
def psBs : List (List Stm) → List Nat → Nat → List (List Nat)
  | [], _, _ => []
  | b :: r, p, w => psB b (p ++ [w]) 0 ++ psBs r p (w + 1)
end
theorem psB_app : ∀ (a b : List Stm) (p : List Nat) (i : Nat), psB (a ++ b) p i = psB a p i ++ psB b p (i + a.length)
  | [], b, p, i => by simp [psB]
  | s :: a, b, p, i => by
    simp only [List.cons_append, psB, psB_app a b p (i + 1), List.length_cons, List.append_assoc]
    rw [show i + (a.length + 1) = i + 1 + a.length by omega]
theorem psBs_app : ∀ (a b : List (List Stm)) (p : List Nat) (i : Nat), psBs (a ++ b) p i = psBs a p i ++ psBs b p (i + a.length)
  | [], b, p, i => by simp [psBs]
  | s :: a, b, p, i => by
    simp only [List.cons_append, psBs, psBs_app a b p (i + 1), List.length_cons, List.append_assoc]
    rw [show i + (a.length + 1) = i + 1 + a.length by omega]
theorem psB_take {b : List Stm} {i : Nat} {s : Stm} (h : b[i]? = some s) (p : List Nat) : psB (b.take (i + 1)) p 0 = psB (b.take i) p 0 ++ (p ++ [i]) :: psS s (p ++ [i]) := by
  have hi := (List.getElem?_eq_some_iff.mp h)
  obtain ⟨hi, e⟩ := hi
  rw [List.take_succ_eq_append_getElem hi, psB_app, e]
  simp [psB, Nat.min_eq_left (Nat.le_of_lt hi)]
theorem psBs_take {b : List (List Stm)} {i : Nat} {s : List Stm} (h : b[i]? = some s) (p : List Nat) : psBs (b.take (i + 1)) p 0 = psBs (b.take i) p 0 ++ psB s (p ++ [i]) 0 := by
  obtain ⟨hi, e⟩ := (List.getElem?_eq_some_iff.mp h)
  rw [List.take_succ_eq_append_getElem hi, psBs_app, e]
  simp [psBs, Nat.min_eq_left (Nat.le_of_lt hi)]
theorem psS_bs (s : Stm) (p : List Nat) : psS s p = psBs s.bs p 0 := by cases s <;> simp [psS, Stm.bs, psBs]
/-- the block with a path -/
def blkAt : List Stm → List Nat → Option (List Stm)
  | b, [] => some b
  | b, i :: w :: r => match b[i]? with
    | some s => match s.bs[w]? with
      | some b' => blkAt b' r
      | none => none
    | none => none
  | _, [_] => none
def stAt (b : List Stm) (q : List Nat) : Option Stm := match q.getLast? with
  | some i => match blkAt b q.dropLast with
    | some b' => b'[i]?
    | none => none
  | none => none
theorem stAt_snoc (b : List Stm) (p : List Nat) (i : Nat) : stAt b (p ++ [i]) = (blkAt b p).bind (·[i]?) := by
  unfold stAt
  simp
  cases blkAt b p <;> rfl
theorem stAt_cons2 {b b' : List Stm} {i w : Nat} {s : Stm} (h : b[i]? = some s) (h2 : s.bs[w]? = some b') {r : List Nat} (hr : r ≠ []) : stAt b (i :: w :: r) = stAt b' r := by
  obtain ⟨r', j, rfl⟩ : ∃ r' j, r = r' ++ [j] := ⟨r.dropLast, r.getLast hr, (List.dropLast_concat_getLast hr).symm⟩
  rw [stAt_snoc, show i :: w :: (r' ++ [j]) = (i :: w :: r') ++ [j] from rfl, stAt_snoc]
  simp [blkAt, h, h2]
mutual
theorem mem_psS : ∀ (s : Stm) (p q : List Nat), q ∈ psS s p ↔ ∃ w b' r, s.bs[w]? = some b' ∧ q = p ++ w :: r ∧ (stAt b' r).isSome
  | .br lp bs, p, q => by
    rw [psS, mem_psBs bs p q 0]
    simp [Stm.bs]
  | .pl _, p, q => by simp [psS, Stm.bs]
  | .look _, p, q => by simp [psS, Stm.bs]
theorem mem_psB : ∀ (b : List Stm) (p q : List Nat) (k : Nat), q ∈ psB b p k ↔ ∃ i r, q = p ++ (k + i) :: r ∧ (stAt b (i :: r)).isSome
  | [], p, q, k => by
    constructor
    · intro h; simp [psB] at h
    · rintro ⟨i, r, _, h⟩
      exfalso
      cases r with
      | nil => rw [show [i] = [] ++ [i] from rfl, stAt_snoc] at h; simp [blkAt] at h
      | cons w r =>
        obtain ⟨r', j, e⟩ : ∃ r' j, i :: w :: r = (i :: r') ++ [j] := ⟨(w :: r).dropLast, (w :: r).getLast (by simp), by rw [List.cons_append, List.dropLast_concat_getLast]⟩
        rw [e, stAt_snoc] at h
        cases r' with
        | nil => simp [blkAt] at h
        | cons a r' => simp [blkAt] at h
  | s :: b, p, q, k => by
    have cc : ∀ (i : Nat) (r : List Nat), (stAt (s :: b) ((i + 1) :: r)) = stAt b (i :: r) := by
      intro i r
      cases r with
      | nil => rw [show [i + 1] = [] ++ [i + 1] from rfl, stAt_snoc, show [i] = [] ++ [i] from rfl, stAt_snoc]; simp [blkAt]
      | cons w r =>
        obtain ⟨r', j, e⟩ : ∃ r' j, w :: r = r' ++ [j] := ⟨(w :: r).dropLast, (w :: r).getLast (by simp), by rw [List.dropLast_concat_getLast]⟩
        rw [e, show (i + 1) :: (r' ++ [j]) = ((i + 1) :: r') ++ [j] from rfl, stAt_snoc, show i :: (r' ++ [j]) = (i :: r') ++ [j] from rfl, stAt_snoc]
        cases r' with
        | nil => simp [blkAt]
        | cons a r' => simp [blkAt]
    rw [psB]
    simp only [List.mem_cons, List.mem_append]
    rw [mem_psS s (p ++ [k]) q, mem_psB b p q (k + 1)]
    constructor
    · rintro (h | ⟨w, b', r, h1, h2, h3⟩ | ⟨i, r, h1, h2⟩)
      · refine ⟨0, [], by simpa using h, ?_⟩
        rw [show [0] = [] ++ [0] from rfl, stAt_snoc]; simp [blkAt]
      · refine ⟨0, w :: r, by rw [h2]; simp, ?_⟩
        have hr : r ≠ [] := fun e => by subst e; simp [stAt] at h3
        rw [stAt_cons2 (s := s) (by simp) h1 hr]; exact h3
      · exact ⟨i + 1, r, by rw [h1, show k + 1 + i = k + (i + 1) by omega], by rw [cc]; exact h2⟩
    · rintro ⟨i, r, h1, h2⟩
      cases i with
      | zero =>
        cases r with
        | nil => exact .inl (by simpa using h1)
        | cons w r =>
          refine .inr (.inl ?_)
          by_cases hr : r = []
          · subst hr
            rw [show [0, w] = [0] ++ [w] from rfl, stAt_snoc] at h2; simp [blkAt] at h2
          · cases hb : s.bs[w]? with
            | none =>
              exfalso
              obtain ⟨r', j, rfl⟩ : ∃ r' j, r = r' ++ [j] := ⟨r.dropLast, r.getLast hr, (List.dropLast_concat_getLast hr).symm⟩
              rw [show 0 :: w :: (r' ++ [j]) = (0 :: w :: r') ++ [j] from rfl, stAt_snoc] at h2
              simp [blkAt, hb] at h2
            | some b' =>
              refine ⟨w, b', r, hb, by rw [h1]; simp, ?_⟩
              rw [stAt_cons2 (s := s) (by simp) hb hr] at h2; exact h2
      | succ i => exact .inr (.inr ⟨i, r, by rw [h1, show k + 1 + i = k + (i + 1) by omega], by rw [cc] at h2; exact h2⟩)
theorem mem_psBs : ∀ (bs : List (List Stm)) (p q : List Nat) (k : Nat), q ∈ psBs bs p k ↔ ∃ w b' r, bs[w]? = some b' ∧ q = p ++ (k + w) :: r ∧ (stAt b' r).isSome
  | [], p, q, k => by simp [psBs]
  | b :: bs, p, q, k => by
    rw [psBs]
    simp only [List.mem_append]
    rw [mem_psB b (p ++ [k]) q 0, mem_psBs bs p q (k + 1)]
    constructor
    · rintro (⟨i, r, h1, h2⟩ | ⟨w, b', r, h1, h2, h3⟩)
      · exact ⟨0, b, i :: r, by simp, by rw [h1]; simp, h2⟩
      · exact ⟨w + 1, b', r, by simpa using h1, by rw [h2, show k + 1 + w = k + (w + 1) by omega], h3⟩
    · rintro ⟨w, b', r, h1, h2, h3⟩
      cases w with
      | zero =>
        simp at h1; subst h1
        cases r with
        | nil => simp [stAt] at h3
        | cons i r => exact .inl ⟨i, r, by rw [h2]; simp, h3⟩
      | succ w => exact .inr ⟨w, b', r, by simpa using h1, by rw [h2, show k + 1 + w = k + (w + 1) by omega], h3⟩
end
/-- all paths of a program -/
def paths (b : List Stm) : List (List Nat) := psB b [] 0
theorem mem_paths {b : List Stm} {q : List Nat} : q ∈ paths b ↔ (stAt b q).isSome := by
  unfold paths
  rw [mem_psB]
  constructor
  · rintro ⟨i, r, h1, h2⟩
    rw [h1]; simpa using h2
  · intro h
    cases q with
    | nil => simp [stAt] at h
    | cons i r => exact ⟨i, r, by simp, h⟩
end MI

set_option autoImplicit false
set_option maxRecDepth 100000
set_option linter.all false
/-! R1: blocks_of, paths_in, block_at, statement_at run. -/
namespace MI
open PySem
abbrev CX (N : Nat) : Ctx := ⟨prog.call 3000 N, prog.meth, prog.fld, 3000⟩
def pD (p : List Nat) : D := .tup (p.map fun (k : Nat) => D.int (k : Int))
theorem lim_eq : lim = 16777216 := rfl
theorem lim1 : 1 < lim := by decide
theorem lim2 : 2 < lim := by decide
theorem Pl.lf (p : Pl) : D.lf p.d = true := by cases p <;> rfl
mutual
theorem Stm.lf : ∀ s : Stm, D.lf s.d = true
  | .pl p => p.lf
  | .look x => rfl
  | .br true bs => by simp only [Stm.d, D.lf, D.lfL, Bool.true_and]; exact bsL_lf bs
  | .br false bs => by simp only [Stm.d, D.lf, D.lfL, Bool.true_and, Bool.and_true]; exact bsL_lf bs
theorem blL_lf : ∀ b : List Stm, D.lfL (blL b) = true
  | [] => rfl
  | s :: r => by simp only [blL, D.lfL, Stm.lf s, blL_lf r, Bool.and_self]
theorem bsL_lf : ∀ b : List (List Stm), D.lfL (bsL b) = true
  | [] => rfl
  | s :: r => by simp only [bsL, D.lfL, D.lf, blL_lf s, bsL_lf r, Bool.and_self]
end
theorem pD_lf (p : List Nat) : D.lf (pD p) = true := by
  unfold pD
  simp only [D.lf]
  induction p with
  | nil => rfl
  | cons x p ih => simp only [List.map_cons, D.lfL, D.lf, ih, Bool.and_self]
theorem pDs_lf : ∀ l : List (List Nat), D.lfL (l.map pD) = true
  | [] => rfl
  | x :: l => by simp only [List.map_cons, D.lfL, pD_lf x, pDs_lf l, Bool.and_self]
theorem pD_app (p q : List Nat) : D.tup ((p.map fun (k : Nat) => D.int (k : Int)) ++ (q.map fun (k : Nat) => D.int (k : Int))) = pD (p ++ q) := by
  unfold pD; rw [List.map_append]
theorem pD_len (p : List Nat) : (p.map fun (k : Nat) => D.int (k : Int)).length = p.length := by simp
theorem bsL_len (bs : List (List Stm)) : (bsL bs).length = bs.length := by rw [bsL_map]; simp
theorem blL_len (bs : List Stm) : (blL bs).length = bs.length := by rw [blL_map]; simp
theorem blL_get (b : List Stm) (i : Nat) : (blL b)[i]? = b[i]?.map Stm.d := by rw [blL_map]; simp
theorem bsL_get (b : List (List Stm)) (i : Nat) : (bsL b)[i]? = b[i]?.map fun b => .tup (blL b) := by rw [bsL_map]; simp

theorem fn_blocks_of : prog.fns[F_blocks_of]? = some ⟨1, 1, b_blocks_of⟩ := rfl
theorem fn_paths_in : prog.fns[F_paths_in]? = some ⟨2, 7, b_paths_in⟩ := rfl
theorem fn_block_at : prog.fns[F_block_at]? = some ⟨2, 5, b_block_at⟩ := rfl
theorem fn_statement_at : prog.fns[F_statement_at]? = some ⟨2, 2, b_statement_at⟩ := rfl
theorem fn_statements_of : prog.fns[F_statements_of]? = some ⟨1, 2, b_statements_of⟩ := rfl
theorem fn_spot_paths : prog.fns[F_spot_paths]? = some ⟨1, 3, b_spot_paths⟩ := rfl
theorem fn_spots_of : prog.fns[F_spots_of]? = some ⟨1, 2, b_spots_of⟩ := rfl
theorem fn_way_count : prog.fns[F_way_count]? = some ⟨2, 3, b_way_count⟩ := rfl
theorem fn_flow_on : prog.fns[F_flow_on]? = some ⟨3, 8, b_flow_on⟩ := rfl
theorem fn_flow_start : prog.fns[F_flow_start]? = some ⟨1, 1, b_flow_start⟩ := rfl
theorem fn_flow : prog.fns[F_flow]? = some ⟨3, 5, b_flow⟩ := rfl
/-- what a def in prog.pures does to plain arguments -/
theorem pure_tup {f N : Nat} {fn : Fn} {ds : List D} {d : D} {env' : Env} {st st' : Stt} (hf : prog.fns[f]? = some fn) (hp : prog.pures.contains f = true) (ha : D.lfL ds = true) (hl : ds.length = fn.pars)
    (h : fn.body (CX N) (ds.map some ++ List.replicate (fn.slots - fn.pars) none) [] = some (.rt d, env', st')) (hn : ∀ n, d ≠ .loc n) (hd : D.lf d = true) : prog.call 3000 (N + 1) f ds st = some (.ok d, st) := by
  rw [call_p hf hp]
  exact opt_run ha (run_rt hl h) hn hd
theorem pure_lst {f N n : Nat} {fn : Fn} {ds l : List D} {env' : Env} {st st' : Stt} (hf : prog.fns[f]? = some fn) (hp : prog.pures.contains f = true) (ha : D.lfL ds = true) (hl : ds.length = fn.pars)
    (h : fn.body (CX N) (ds.map some ++ List.replicate (fn.slots - fn.pars) none) [] = some (.rt (.loc n), env', st')) (hn : st'[n]? = some (.lst l)) (hd : D.lfL l = true) : prog.call 3000 (N + 1) f ds st = some (.ok (.frz l), st) := by
  rw [call_p hf hp]
  exact opt_lst ha (run_rt hl h) hn hd
theorem blocks_of_run {n k : Nat} {s : Stm} (h : s.ok n k) (N : Nat) (st : Stt) : prog.call 3000 (N + 1) F_blocks_of [s.d] st = some (.ok (.tup (bsL s.bs)), st) := by
  have lf : D.lfL [s.d] = true := by simp [D.lfL, Stm.lf s]
  have lf2 : D.lf (.tup (bsL s.bs)) = true := bsL_lf _
  refine pure_tup fn_blocks_of (by decide) lf rfl (env' := [some s.d]) (st' := []) ?_ (fun _ z => by cases z) lf2
  match s, h with
  | .pl (.fresh x), _ => rfl
  | .pl (.give l x y), _ => rfl
  | .pl (.change l x m), _ => rfl
  | .look x, _ => rfl
  | .br false bs, _ => kernel_rfl
  | .br true [b], _ => kernel_rfl
  | .br true [], h => cases k with
    | zero => exact h.elim
    | succ k => exact absurd (h.1 rfl) (by simp)
  | .br true (_ :: _ :: _), h => cases k with
    | zero => exact h.elim
    | succ k => exact absurd (h.1 rfl) (by simp)
mutual
theorem psS_len : ∀ (s : Stm) (p q : List Nat), (psS s p).length = (psS s q).length
  | .br lp bs, p, q => by rw [psS, psS]; exact psBs_len bs p q 0
  | .pl _, p, q => rfl
  | .look _, p, q => rfl
theorem psB_len : ∀ (b : List Stm) (p q : List Nat) (i : Nat), (psB b p i).length = (psB b q i).length
  | [], _, _, _ => rfl
  | s :: b, p, q, i => by
    rw [psB, psB]
    simp only [List.length_cons, List.length_append, psS_len s (p ++ [i]) (q ++ [i]), psB_len b p q (i + 1)]
theorem psBs_len : ∀ (b : List (List Stm)) (p q : List Nat) (i : Nat), (psBs b p i).length = (psBs b q i).length
  | [], _, _, _ => rfl
  | s :: b, p, q, i => by
    rw [psBs, psBs]
    simp only [List.length_append, psB_len s (p ++ [i]) (q ++ [i]) 0, psBs_len b p q (i + 1)]
end
theorem take_len {α : Type} {l : List α} {i : Nat} {s : α} (h : l[i]? = some s) : (l.take i).length = i := by
  have := (List.getElem?_eq_some_iff.mp h).1
  simp; omega
theorem psB_pre (b : List Stm) (p : List Nat) (i : Nat) : (psB (b.take i) p 0).length ≤ (psB b p 0).length := by
  have e : psB b p 0 = psB (b.take i) p 0 ++ psB (b.drop i) p (0 + (b.take i).length) := by rw [← psB_app, List.take_append_drop]
  rw [e, List.length_append]; omega
theorem psBs_pre (b : List (List Stm)) (p : List Nat) (i : Nat) : (psBs (b.take i) p 0).length ≤ (psBs b p 0).length := by
  have e : psBs b p 0 = psBs (b.take i) p 0 ++ psBs (b.drop i) p (0 + (b.take i).length) := by rw [← psBs_app, List.take_append_drop]
  rw [e, List.length_append]; omega
theorem paths_in_run {n : Nat} : ∀ (k : Nat) (b : List Stm), okB n k b → b.length ≤ 8 → (psB b [] 0).length ≤ 1000 → ∀ (p : List Nat), p.length + 2 * k ≤ 100 → ∀ (N : Nat), k < N → ∀ st, prog.call 3000 (N + 1) F_paths_in [.tup (blL b), pD p] st = some (.ok (.frz ((psB b p 0).map pD)), st) := by
  intro k
  induction k using Nat.strongRecOn with
  | ind k ih =>
  intro b hb hl hs p hp N hN st
  obtain ⟨N, rfl⟩ : ∃ M, N = M + 1 := ⟨N - 1, by omega⟩
  have lfa : D.lfL [.tup (blL b), pD p] = true := by
    show (D.lf (.tup (blL b)) && (D.lf (pD p) && true)) = true
    rw [pD_lf p, show D.lf (.tup (blL b)) = true from blL_lf b]; rfl
  have hs' : (psB b p 0).length ≤ 1000 := by rw [psB_len b p [] 0]; exact hs
  -- the outer walk
  obtain ⟨env', st', e, P⟩ := for_inv (g := gTup 2 (gCons (gVar 3) (gCons (gVar 4) gNil))) (it := iEnum (eVar 0)) (b := (sSeq (sExpr (eMt1 isLst mAppend (eVar 2) (eBin opAdd (eVar 1) (eTup (lCons (eVar 3) lNil)))))
  (sFor (gTup 2 (gCons (gVar 5) (gCons (gVar 6) gNil))) (iEnum (eCall F_blocks_of (lCons (eVar 4) lNil)))
  (sExpr (eMt1 isLst mExtend (eVar 2) (eCall F_paths_in (lCons (eVar 6) (lCons (eBin opAdd (eVar 1) (eTup (lCons (eVar 3) (lCons (eVar 5) lNil)))) lNil)))))))) (c := CX (N + 1)) (env := [some (.tup (blL b)), some (pD p), some (.loc 0), none, none, none, none]) (st := [.lst []]) (st1 := [.lst []])
    (l := enumD 0 (blL b)) (fun i env st => ∃ a b' c' d', env = [some (.tup (blL b)), some (pD p), some (.loc 0), a, b', c', d'] ∧ st = [.lst ((psB (b.take i) p 0).map pD)])
    (enum_run (var_run rfl) (by rw [blL_len]; rw [lim_eq]; omega)) ⟨_, _, _, _, rfl, by simp [psB]⟩ (by rw [enumD_len, blL_len]; show b.length < 3000; omega) (by
      rintro i d env st hd ⟨a, b', c', d', rfl, rfl⟩
      obtain ⟨x, hx, rfl⟩ := enumD_get _ _ _ _ hd
      rw [blL_get] at hx
      obtain ⟨s, hs1, rfl⟩ := Option.map_eq_some_iff.mp hx
      have hok := okB_get hb hs1
      rw [Nat.zero_add]
      have bnd1 := psB_pre b p (i + 1)
      rw [psB_take hs1 p, psS_bs] at bnd1
      simp only [List.length_append, List.length_cons] at bnd1
      have hp2 : (p ++ [i]).length = p.length + 1 := by simp
      have app : sExpr (eMt1 isLst mAppend (eVar 2) (eBin opAdd (eVar 1) (eTup (lCons (eVar 3) lNil)))) (CX (N + 1)) [some (.tup (blL b)), some (pD p), some (.loc 0), some (.int (i : Int)), some s.d, c', d'] [.lst ((psB (b.take i) p 0).map pD)] = some (.nx, [some (.tup (blL b)), some (pD p), some (.loc 0), some (.int (i : Int)), some s.d, c', d'], [.lst ((psB (b.take i) p 0 ++ [p ++ [i]]).map pD)]) := by
        have := append_run (c := CX (N + 1)) (st := [.lst ((psB (b.take i) p 0).map pD)]) (a := eVar 2) (b := eBin opAdd (eVar 1) (eTup (lCons (eVar 3) lNil))) (env := [some (.tup (blL b)), some (pD p), some (.loc 0), some (.int (i : Int)), some s.d, c', d']) (k := 0) (y := pD (p ++ [i])) (var_run rfl) rfl
          (bin_run (var_run rfl) (tup_run (lcons_run (var_run rfl) lnil_run) lim1) (by rw [← pD_app]; exact tadd_run _ (by rw [pD_len]; show p.length + 1 < lim; rw [lim_eq]; omega))) rfl (by rw [List.length_map, lim_eq]; omega)
        rw [expr_run this]
        simp
      obtain ⟨env2, st2, e2, a2, b2, rfl, rfl⟩ := for_inv (g := gTup 2 (gCons (gVar 5) (gCons (gVar 6) gNil))) (it := iEnum (eCall F_blocks_of (lCons (eVar 4) lNil))) (b := (sExpr (eMt1 isLst mExtend (eVar 2) (eCall F_paths_in (lCons (eVar 6) (lCons (eBin opAdd (eVar 1) (eTup (lCons (eVar 3) (lCons (eVar 5) lNil)))) lNil)))))) (c := CX (N + 1)) (env := [some (.tup (blL b)), some (pD p), some (.loc 0), some (.int (i : Int)), some s.d, c', d'])
        (st := [.lst ((psB (b.take i) p 0 ++ [p ++ [i]]).map pD)]) (st1 := [.lst ((psB (b.take i) p 0 ++ [p ++ [i]]).map pD)]) (l := enumD 0 (bsL s.bs))
        (fun j env st => ∃ a2 b2, env = [some (.tup (blL b)), some (pD p), some (.loc 0), some (.int (i : Int)), some s.d, a2, b2] ∧ st = [.lst ((psB (b.take i) p 0 ++ (p ++ [i]) :: psBs (s.bs.take j) (p ++ [i]) 0).map pD)])
        (enum_run (call_run (lcons_run (var_run rfl) lnil_run) (blocks_of_run hok N _)) (by
          rw [bsL_len]; rw [lim_eq]
          match s, k, hok with
          | .pl _, _, _ => simp [Stm.bs]
          | .look _, _, _ => simp [Stm.bs]
          | .br _ bs, k + 1, h => have := h.2.1; simp [Stm.bs]; omega)) ⟨_, _, rfl, by simp [psBs]⟩ (by
          rw [enumD_len, bsL_len]
          show s.bs.length < 3000
          match s, k, hok with
          | .pl _, _, _ => simp [Stm.bs]
          | .look _, _, _ => simp [Stm.bs]
          | .br _ bs, k + 1, h => have := h.2.1; simp [Stm.bs]; omega) (by
          rintro j d env st hd ⟨a2, b2, rfl, rfl⟩
          obtain ⟨x, hx, rfl⟩ := enumD_get _ _ _ _ hd
          rw [bsL_get] at hx
          obtain ⟨t, ht, rfl⟩ := Option.map_eq_some_iff.mp hx
          rw [Nat.zero_add]
          obtain ⟨lp, bs, k', rfl, rfl⟩ : ∃ lp bs k', s = .br lp bs ∧ k = k' + 1 := by
            match s, k, hok, ht with
            | .br lp bs, k + 1, _, _ => exact ⟨_, _, _, rfl, rfl⟩
            | .pl _, _, _, h => simp [Stm.bs] at h
            | .look _, _, _, h => simp [Stm.bs] at h
          have hbs := okBs_get hok.2.2 ht
          have b1 := psBs_pre (Stm.br lp bs).bs (p ++ [i]) (j + 1)
          rw [psBs_take ht (p ++ [i])] at b1
          simp only [List.length_append] at b1
          have b3 : (psB t [] 0).length ≤ 1000 := by
            rw [psB_len t [] (p ++ [i] ++ [j]) 0]; omega
          have hrec := ih k' (by omega) t hbs.2 hbs.1 b3 (p ++ [i] ++ [j]) (by simp; omega) N (by omega) [.lst ((psB (b.take i) p 0 ++ (p ++ [i]) :: psBs ((Stm.br lp bs).bs.take j) (p ++ [i]) 0).map pD)]
          refine ⟨_, _, turn_two (by show 5 < 7; decide) (by show 6 < 7; decide) (expr_run (extend_run (k := 0) (l' := ((psB (b.take i) p 0 ++ (p ++ [i]) :: psBs ((Stm.br lp bs).bs.take j) (p ++ [i]) 0).map pD)) (m := (psB t (p ++ [i] ++ [j]) 0).map pD) (var_run rfl) rfl
            (call_run (lcons_run (var_run rfl) (lcons_run (bin_run (var_run rfl) (tup_run (lcons_run (var_run rfl) (lcons_run (var_run rfl) lnil_run)) lim2) (r := some (.ok (pD (p ++ [i] ++ [j])), _)) (by
              rw [List.append_assoc, ← pD_app]; exact tadd_run _ (by rw [pD_len]; show p.length + 2 < lim; rw [lim_eq]; omega))) lnil_run)) hrec) rfl rfl (by simp only [List.length_map, List.length_append, List.length_cons]; rw [lim_eq]; omega))), _, _, rfl, ?_⟩
          rw [psBs_take ht (p ++ [i])]
          simp)
      refine ⟨_, _, turn_two (by show 3 < 7; decide) (by show 4 < 7; decide) ((seq_nx app).trans e2), _, _, _, _, rfl, ?_⟩
      rw [enumD_len, bsL_len, List.take_length, psB_take hs1 p, psS_bs])
  obtain ⟨a, b', c', d', rfl, rfl⟩ := P
  rw [enumD_len, blL_len, List.take_length] at e
  refine pure_lst fn_paths_in (by decide) lfa rfl (n := 0) (env' := [some (.tup (blL b)), some (pD p), some (.loc 0), a, b', c', d']) (st' := [.lst ((psB b p 0).map pD)]) (l := (psB b p 0).map pD) ?_ rfl (pDs_lf _)
  show b_paths_in (CX (N + 1)) [some (.tup (blL b)), some (pD p), none, none, none, none, none] [] = _
  have h0 : b_paths_in_0 (CX (N + 1)) [some (.tup (blL b)), some (pD p), none, none, none, none, none] [] = some (.nx, [some (.tup (blL b)), some (pD p), some (.loc 0), none, none, none, none], [.lst []]) := rfl
  unfold b_paths_in
  rw [seq_nx h0]
  refine (seq_nx (a := b_paths_in_1) e).trans ?_
  exact ret_run (var_run rfl)
end MI

set_option autoImplicit false
set_option maxRecDepth 100000
set_option linter.all false
/-! R2: block_at .. way_count run. -/
namespace MI
open PySem
theorem blkAt_app : ∀ (p q : List Nat) (b b1 : List Stm), blkAt b p = some b1 → blkAt b (p ++ q) = blkAt b1 q
  | [], q, b, b1, h => by simp [blkAt] at h; subst h; rfl
  | [_], q, b, b1, h => by simp [blkAt] at h
  | i :: w :: r, q, b, b1, h => by
    show blkAt b (i :: w :: (r ++ q)) = _
    simp only [blkAt] at h ⊢
    cases h1 : b[i]? with
    | none => rw [h1] at h; cases h
    | some s =>
      rw [h1] at h
      simp only at h ⊢
      cases h2 : s.bs[w]? with
      | none => rw [h2] at h; cases h
      | some b' =>
        rw [h2] at h
        exact blkAt_app r q b' b1 h
/-- pairs in a row -/
def unp : List (Nat × Nat) → List Nat
  | [] => []
  | (i, w) :: r => i :: w :: unp r
theorem unp_app : ∀ a b : List (Nat × Nat), unp (a ++ b) = unp a ++ unp b
  | [], b => rfl
  | (i, w) :: a, b => by simp [unp, unp_app a b]
theorem blkAt_unp : ∀ {p : List Nat} {b b1 : List Stm}, blkAt b p = some b1 → ∃ pr, p = unp pr
  | [], _, _, _ => ⟨[], rfl⟩
  | [_], _, _, h => by simp [blkAt] at h
  | i :: w :: r, b, b1, h => by
    simp only [blkAt] at h
    cases h1 : b[i]? with
    | none => rw [h1] at h; cases h
    | some s =>
      rw [h1] at h
      simp only at h
      cases h2 : s.bs[w]? with
      | none => rw [h2] at h; cases h
      | some b' =>
        rw [h2] at h
        obtain ⟨pr, rfl⟩ := blkAt_unp h
        exact ⟨(i, w) :: pr, rfl⟩
theorem blkAt_pre {a c : List (Nat × Nat)} {b b1 : List Stm} (h : blkAt b (unp (a ++ c)) = some b1) : ∃ b2, blkAt b (unp a) = some b2 := by
  induction a generalizing b with
  | nil => exact ⟨b, rfl⟩
  | cons x a ih =>
    obtain ⟨i, w⟩ := x
    simp only [List.cons_append, unp, blkAt] at h ⊢
    cases h1 : b[i]? with
    | none => rw [h1] at h; cases h
    | some s =>
      rw [h1] at h
      simp only at h ⊢
      cases h2 : s.bs[w]? with
      | none => rw [h2] at h; cases h
      | some b' =>
        rw [h2] at h
        exact ih h
theorem blkAt_ok {n : Nat} : ∀ {p : List Nat} {k : Nat} {b b1 : List Stm}, okB n k b → b.length ≤ 8 → blkAt b p = some b1 → ∃ k', k' + p.length / 2 = k ∧ okB n k' b1 ∧ b1.length ≤ 8
  | [], k, b, b1, hb, hl, h => by simp [blkAt] at h; subst h; exact ⟨k, by simp, hb, hl⟩
  | [_], _, _, _, _, _, h => by simp [blkAt] at h
  | i :: w :: r, k, b, b1, hb, hl, h => by
    simp only [blkAt] at h
    cases h1 : b[i]? with
    | none => rw [h1] at h; cases h
    | some s =>
      rw [h1] at h
      simp only at h
      cases h2 : s.bs[w]? with
      | none => rw [h2] at h; cases h
      | some b' =>
        rw [h2] at h
        have hs := okB_get hb h1
        match s, k, hs, h2 with
        | .br lp bs, k + 1, hs, h2 =>
          have hb' := okBs_get hs.2.2 h2
          obtain ⟨k', e, q⟩ := blkAt_ok hb'.2 hb'.1 h
          exact ⟨k', by simp only [List.length_cons]; omega, q⟩
        | .pl _, _, _, h2 => simp [Stm.bs] at h2
        | .look _, _, _, h2 => simp [Stm.bs] at h2
theorem everyOther_unp (f : Nat → D) : ∀ pr : List (Nat × Nat), everyOther ((unp pr).map f) = pr.map fun x => f x.1
  | [] => rfl
  | (i, w) :: r => by simp [unp, everyOther, everyOther_unp f r]
theorem everyOther_unp2 (f : Nat → D) : ∀ pr : List (Nat × Nat), everyOther (((unp pr).map f).drop 1) = pr.map fun x => f x.2
  | [] => rfl
  | [(i, w)] => rfl
  | (i, w) :: (i2, w2) :: r => by
    have := everyOther_unp2 f ((i2, w2) :: r)
    simp [unp, everyOther] at this ⊢
    exact this
theorem zipD_map (f g : Nat × Nat → D) : ∀ pr : List (Nat × Nat), zipD (pr.map f) (pr.map g) = pr.map fun x => .tup [f x, g x]
  | [] => rfl
  | x :: r => by simp [zipD, zipD_map f g r]
theorem cut_all {α : Type} (l : List α) : cut l none none = l := by
  unfold cut
  simp
theorem cut_one {α : Type} (l : List α) : cut l (some 1) none = l.drop 1 := by
  unfold cut clampI
  simp
  cases l with
  | nil => rfl
  | cons x l => simp
def prD (n : Nat) (b : List Stm) : D := .tup [.int (n : Int), .tup (blL b)]
theorem prD_lf (n : Nat) (b : List Stm) : D.lf (prD n b) = true := by
  show (true && (D.lf (.tup (blL b)) && true)) = true
  rw [show D.lf (.tup (blL b)) = true from blL_lf b]; rfl
structure PrOk (n : Nat) (b : List Stm) : Prop where
  ok : okB n 5 b
  len : b.length ≤ 8
  all : (paths b).length ≤ 1000
theorem unp_len (pr : List (Nat × Nat)) : (unp pr).length = 2 * pr.length := by
  induction pr with
  | nil => rfl
  | cons x r ih => obtain ⟨i, w⟩ := x; simp [unp, ih]; omega
theorem blkAt_short {n : Nat} {b b1 : List Stm} {p : List Nat} (hP : PrOk n b) (h : blkAt b p = some b1) : p.length ≤ 11 := by
  obtain ⟨k', e, _⟩ := blkAt_ok hP.ok hP.len h
  obtain ⟨pr, rfl⟩ := blkAt_unp h
  rw [unp_len] at e ⊢
  omega
theorem block_at_run {n : Nat} {b b1 : List Stm} {p : List Nat} (hP : PrOk n b) (h : blkAt b p = some b1) (N : Nat) (st : Stt) : prog.call 3000 (N + 2) F_block_at [prD n b, pD p] st = some (.ok (.tup (blL b1)), st) := by
  have hsh := blkAt_short hP h
  obtain ⟨pr, rfl⟩ := blkAt_unp h
  have lfa : D.lfL [prD n b, pD (unp pr)] = true := by
    show (D.lf (prD n b) && (D.lf (pD (unp pr)) && true)) = true
    rw [prD_lf, pD_lf]; rfl
  have hit : iZip (eSlc2 (eVar 1) none none) (eSlc2 (eVar 1) (some (1)) none) (CX (N + 1)) [some (prD n b), some (pD (unp pr)), some (.tup (blL b)), none, none] [] = some (.ok (.items (pr.map fun x => .tup [.int (x.1 : Int), .int (x.2 : Int)])), []) := by
    have e1 : eSlc2 (eVar 1) none none (CX (N + 1)) [some (prD n b), some (pD (unp pr)), some (.tup (blL b)), none, none] [] = some (.ok (.tup (pr.map fun x => .int (x.1 : Int))), []) := by
      unfold eSlc2
      rw [bnd_ok (var_run rfl)]
      show some (Rs.ok (D.tup (everyOther (cut ((unp pr).map fun (k : Nat) => D.int (k : Int)) none none))), ([] : Stt)) = _
      rw [cut_all, everyOther_unp]
    have e2 : eSlc2 (eVar 1) (some (1)) none (CX (N + 1)) [some (prD n b), some (pD (unp pr)), some (.tup (blL b)), none, none] [] = some (.ok (.tup (pr.map fun x => .int (x.2 : Int))), []) := by
      unfold eSlc2
      rw [bnd_ok (var_run rfl)]
      show some (Rs.ok (D.tup (everyOther (cut ((unp pr).map fun (k : Nat) => D.int (k : Int)) (some 1) none))), ([] : Stt)) = _
      rw [cut_one, everyOther_unp2]
    unfold iZip
    rw [bnd_ok e1, bnd_ok e2]
    show (if (pr.map fun x => D.int (x.1 : Int)).length = (pr.map fun x => D.int (x.2 : Int)).length then ret (Src.items (zipD (pr.map fun x => D.int (x.1 : Int)) (pr.map fun x => D.int (x.2 : Int)))) else fail) [] = _
    rw [if_pos (by simp), zipD_map]; rfl
  obtain ⟨env', st', e, P⟩ := for_inv (g := gTup 2 (gCons (gVar 3) (gCons (gVar 4) gNil))) (b := (sSet 2 (eBin opIx (eCall F_blocks_of (lCons (eBin opIx (eVar 2) (eVar 3)) lNil)) (eVar 4)))) (c := CX (N + 1))
    (fun j env st => st = [] ∧ ∃ b2 x y, blkAt b (unp (pr.take j)) = some b2 ∧ env = [some (prD n b), some (pD (unp pr)), some (.tup (blL b2)), x, y]) hit ⟨rfl, b, none, none, rfl, rfl⟩ (by
      show (pr.map _).length < 3000
      rw [List.length_map]; rw [unp_len] at hsh; omega) (by
      rintro j d env st hd ⟨rfl, b2, x, y, hb2, rfl⟩
      rw [List.getElem?_map] at hd
      obtain ⟨⟨i, w⟩, hj, rfl⟩ := Option.map_eq_some_iff.mp hd
      have e3 : pr = pr.take j ++ (i, w) :: pr.drop (j + 1) := by
        obtain ⟨hlt, e⟩ := List.getElem?_eq_some_iff.mp hj
        rw [← e, ← List.drop_eq_getElem_cons hlt, List.take_append_drop]
      have e4 : unp (pr.take (j + 1)) = unp (pr.take j) ++ [i, w] := by
        obtain ⟨hlt, e⟩ := List.getElem?_eq_some_iff.mp hj
        rw [List.take_succ_eq_append_getElem hlt, e, unp_app]; rfl
      have h5 : ∃ b3, blkAt b (unp (pr.take (j + 1))) = some b3 := blkAt_pre (c := pr.drop (j + 1)) (b1 := b1) (by rw [List.take_append_drop]; exact h)
      obtain ⟨b3, h5⟩ := h5
      have h6 := h5
      rw [e4, blkAt_app _ _ _ _ hb2] at h6
      simp only [blkAt] at h6
      cases h7 : b2[i]? with
      | none => rw [h7] at h6; cases h6
      | some s =>
        rw [h7] at h6
        simp only at h6
        cases h8 : s.bs[w]? with
        | none => rw [h8] at h6; cases h6
        | some b' =>
          rw [h8] at h6
          have h6' : b' = b3 := by simpa using h6
          subst h6'
          obtain ⟨k2, _, hok2, hl2⟩ := blkAt_ok hP.ok hP.len hb2
          have hs := okB_get hok2 h7
          refine ⟨_, _, turn_two (by show 3 < 5; decide) (by show 4 < 5; decide) (set_run (bin_run (call_run (lcons_run (bin_run (var_run rfl) (var_run rfl) (ix_tup (k := i) _ (by rw [blL_get, h7]; rfl))) lnil_run) (blocks_of_run hs N _)) (var_run rfl) (ix_tup (k := w) (d := .tup (blL b')) _ (by rw [bsL_get, h8]; rfl))) (by show 2 < 5; decide)), rfl, b', _, _, h5, rfl⟩)
  obtain ⟨rfl, b2, x, y, hb2, rfl⟩ := P
  rw [List.length_map, List.take_length, h] at hb2
  cases hb2
  refine pure_tup fn_block_at (by decide) lfa rfl (env' := [some (prD n b), some (pD (unp pr)), some (.tup (blL b1)), x, y]) (st' := []) ?_ (fun _ z => by cases z) (blL_lf b1)
  have h0 : b_block_at_0 (CX (N + 1)) [some (prD n b), some (pD (unp pr)), none, none, none] [] = some (.nx, [some (prD n b), some (pD (unp pr)), some (.tup (blL b)), none, none], []) := rfl
  show b_block_at (CX (N + 1)) [some (prD n b), some (pD (unp pr)), none, none, none] [] = _
  unfold b_block_at
  rw [seq_nx h0]
  refine (seq_nx (a := b_block_at_1) e).trans ?_
  exact ret_run (var_run rfl)
theorem stAt_some {b : List Stm} {q : List Nat} {s : Stm} (h : stAt b q = some s) : ∃ p i b1, q = p ++ [i] ∧ blkAt b p = some b1 ∧ b1[i]? = some s := by
  have hq : q ≠ [] := fun e => by subst e; simp [stAt] at h
  obtain ⟨p, i, rfl⟩ : ∃ p i, q = p ++ [i] := ⟨q.dropLast, q.getLast hq, (List.dropLast_concat_getLast hq).symm⟩
  rw [stAt_snoc] at h
  obtain ⟨b1, h1, h2⟩ := Option.bind_eq_some_iff.mp h
  exact ⟨p, i, b1, rfl, h1, h2⟩
theorem stAt_ok {n : Nat} {b : List Stm} {q : List Nat} {s : Stm} (hP : PrOk n b) (h : stAt b q = some s) : ∃ k, s.ok n k := by
  obtain ⟨p, i, b1, rfl, h1, h2⟩ := stAt_some h
  obtain ⟨k', _, h3, _⟩ := blkAt_ok hP.ok hP.len h1
  exact ⟨k', okB_get h3 h2⟩
theorem pD_snoc (p : List Nat) (i : Nat) : pD (p ++ [i]) = .tup ((p.map fun (k : Nat) => D.int (k : Int)) ++ [.int (i : Int)]) := by simp [pD]
theorem statement_at_run {n : Nat} {b : List Stm} {q : List Nat} {s : Stm} (hP : PrOk n b) (h : stAt b q = some s) (N : Nat) (st : Stt) : prog.call 3000 (N + 3) F_statement_at [prD n b, pD q] st = some (.ok s.d, st) := by
  obtain ⟨p, i, b1, rfl, h1, h2⟩ := stAt_some h
  have lfa : D.lfL [prD n b, pD (p ++ [i])] = true := by
    show (D.lf (prD n b) && (D.lf (pD (p ++ [i])) && true)) = true
    rw [prD_lf, pD_lf]; rfl
  refine pure_tup fn_statement_at (by decide) lfa rfl (env' := [some (prD n b), some (pD (p ++ [i]))]) (st' := []) ?_ (fun _ z => by cases s with | pl p => cases p <;> cases z | look _ => cases z | br lp _ => cases lp <;> cases z) s.lf
  show b_statement_at (CX (N + 2)) [some (prD n b), some (pD (p ++ [i]))] [] = _
  refine ret_run (bin_run (call_run (lcons_run (var_run rfl) (lcons_run (slc_last (l := p.map fun (k : Nat) => D.int (k : Int)) (d := .int (i : Int)) (var_run (by rw [pD_snoc]; rfl))) lnil_run)) (block_at_run hP h1 N [])) (bin_run (y := .int (-1)) (var_run rfl) rfl (by rw [pD_snoc]; exact ix_last _)) (ix_tup _ (by rw [blL_get, h2]; rfl)))
end MI

set_option autoImplicit false
set_option maxRecDepth 100000
set_option linter.all false
/-! R3: statements_of .. way_count run. -/
namespace MI
open PySem
def Pl.word : Pl → List Nat
  | .fresh _ => w_fresh
  | .give _ _ _ => w_give
  | .change _ _ _ => w_change
def Stm.word : Stm → List Nat
  | .pl p => p.word
  | .look _ => w_look
  | .br true _ => w_loop
  | .br false _ => w_choose
theorem word_run (s : Stm) (st : Stt) : opIx s.d (.int 0) st = some (.ok (.str s.word), st) := by
  match s with
  | .pl (.fresh x) => rfl
  | .pl (.give l x y) => rfl
  | .pl (.change l x m) => rfl
  | .look x => rfl
  | .br false bs => rfl
  | .br true bs =>
    show opIx (.tup (.str w_loop :: bsL bs)) (.int ((0 : Nat) : Int)) st = _
    exact ix_tup _ rfl
theorem spotword (s : Stm) (st : Stt) : opIn (.str s.word) (.tup [.str w_look, .str w_choose, .str w_loop]) st = some (.ok (.bl s.isSpot), st) := by
  match s with
  | .pl (.fresh x) => kernel_rfl
  | .pl (.give l x y) => kernel_rfl
  | .pl (.change l x m) => kernel_rfl
  | .look x => kernel_rfl
  | .br false bs => kernel_rfl
  | .br true bs => kernel_rfl
theorem loopword (s : Stm) (st : Stt) : opEq (.str s.word) (.str w_loop) st = some (.ok (.bl s.isLoop), st) := by
  match s with
  | .pl (.fresh x) => kernel_rfl
  | .pl (.give l x y) => kernel_rfl
  | .pl (.change l x m) => kernel_rfl
  | .look x => kernel_rfl
  | .br false bs => kernel_rfl
  | .br true bs => kernel_rfl
def stD (b : List Stm) (q : List Nat) : D := match stAt b q with
  | some s => s.d
  | none => .non
theorem stD_some {b : List Stm} {q : List Nat} {s : Stm} (h : stAt b q = some s) : stD b q = s.d := by unfold stD; rw [h]
theorem stD_lf (b : List Stm) (q : List Nat) : D.lf (stD b q) = true := by
  unfold stD
  cases stAt b q with
  | none => rfl
  | some s => exact s.lf
theorem lfL_map {α : Type} (f : α → D) (h : ∀ x, D.lf (f x) = true) : ∀ l : List α, D.lfL (l.map f) = true
  | [] => rfl
  | x :: l => by simp only [List.map_cons, D.lfL, h x, lfL_map f h l, Bool.and_self]
theorem path_in {b : List Stm} {q : List Nat} (h : q ∈ paths b) : ∃ s, stAt b q = some s := Option.isSome_iff_exists.mp (mem_paths.mp h)
theorem pr_one {n : Nat} {b : List Stm} (st : Stt) : opIx (prD n b) (.int 1) st = some (.ok (.tup (blL b)), st) := rfl
theorem paths_run {n : Nat} {b : List Stm} (hP : PrOk n b) {N : Nat} (hN : 5 < N) (st : Stt) : prog.call 3000 (N + 1) F_paths_in [.tup (blL b), .tup []] st = some (.ok (.frz ((paths b).map pD)), st) :=
  paths_in_run 5 b hP.ok hP.len hP.all [] (by simp) N hN st
theorem lf1 {d : D} (h : D.lf d = true) : D.lfL [d] = true := by simp [D.lfL, h]
theorem lf2 {d e : D} (h : D.lf d = true) (h2 : D.lf e = true) : D.lfL [d, e] = true := by simp [D.lfL, h, h2]
theorem lf3 {d e f : D} (h : D.lf d = true) (h2 : D.lf e = true) (h3 : D.lf f = true) : D.lfL [d, e, f] = true := by simp [D.lfL, h, h2, h3]
/-- a def that returns a read-only list or a tuple -/
theorem pure_frz {f N : Nat} {fn : Fn} {ds l : List D} {env' : Env} {st st' : Stt} (hf : prog.fns[f]? = some fn) (hp : prog.pures.contains f = true) (ha : D.lfL ds = true) (hl : ds.length = fn.pars)
    (h : fn.body (CX N) (ds.map some ++ List.replicate (fn.slots - fn.pars) none) [] = some (.rt (.frz l), env', st')) (hd : D.lfL l = true) : prog.call 3000 (N + 1) f ds st = some (.ok (.frz l), st) :=
  pure_tup hf hp ha hl h (fun _ z => by cases z) hd
theorem statements_of_run {n : Nat} {b : List Stm} (hP : PrOk n b) {N : Nat} (hN : 5 < N) (st : Stt) : prog.call 3000 (N + 2) F_statements_of [prD n b] st = some (.ok (.frz ((paths b).map (stD b))), st) := by
  obtain ⟨M, rfl⟩ : ∃ M, N = M + 2 := ⟨N - 2, by omega⟩
  refine pure_frz fn_statements_of (by decide) (lf1 (prD_lf n b)) rfl (env' := [some (prD n b), none]) (st' := []) ?_ (lfL_map _ (stD_lf b) _)
  show b_statements_of (CX (M + 3)) [some (prD n b), none] [] = _
  have hit : (iSeq (eCall F_paths_in (lCons (eBin opIx (eVar 0) (eC (.int 1))) (lCons (eTup lNil) lNil)))) (CX (M + 3)) [some (prD n b), none] [] = some (.ok (.items ((paths b).map pD)), []) :=
    seq_frz (call_run (lcons_run (bin_run (y := .int 1) (var_run rfl) rfl (pr_one _)) (lcons_run (x := .tup []) rfl lnil_run)) (paths_run hP hN []))
  refine ret_run (compF_mapG (fun q => some (stD b q)) hit (fun q hq => ?_) (by have := hP.all; show (paths b).length < 3000; omega) (by have := hP.all; rw [lim_eq]; omega) (by simp))
  obtain ⟨s, hs⟩ := path_in hq
  refine compT_y (by show 1 < 2; decide) (st1 := []) rfl ?_
  rw [stD_some hs]
  exact call_run (lcons_run (var_run rfl) (lcons_run (var_run rfl) lnil_run)) (statement_at_run hP hs M [])
def isSp (b : List Stm) (q : List Nat) : Bool := match stAt b q with
  | some s => s.isSpot
  | none => false
/-- the paths of the spots -/
def spots (b : List Stm) : List (List Nat) := (paths b).filter (isSp b)
theorem spots_le {n : Nat} {b : List Stm} (hP : PrOk n b) : (spots b).length ≤ 1000 := Nat.le_trans (List.length_filter_le _ _) hP.all
theorem mem_spots {b : List Stm} {q : List Nat} : q ∈ spots b ↔ ∃ s, stAt b q = some s ∧ s.isSpot = true := by
  unfold spots
  rw [List.mem_filter, mem_paths]
  unfold isSp
  constructor
  · rintro ⟨h1, h2⟩
    obtain ⟨s, hs⟩ := Option.isSome_iff_exists.mp h1
    rw [hs] at h2
    exact ⟨s, hs, h2⟩
  · rintro ⟨s, hs, h⟩
    rw [hs]
    exact ⟨rfl, h⟩
theorem filterMap_if {α β : Type} (p : α → Bool) (f : α → β) (l : List α) : (l.filterMap fun x => if p x = true then some (f x) else none) = (l.filter p).map f := by
  induction l with
  | nil => rfl
  | cons x l ih =>
    by_cases h : p x = true
    · simp [List.filterMap_cons, h, ih]
    · simp [List.filterMap_cons, h, ih]
theorem spot_paths_run {n : Nat} {b : List Stm} (hP : PrOk n b) {N : Nat} (hN : 5 < N) (st : Stt) : prog.call 3000 (N + 2) F_spot_paths [prD n b] st = some (.ok (.xtup ((spots b).map pD)), st) := by
  obtain ⟨M, rfl⟩ : ∃ M, N = M + 2 := ⟨N - 2, by omega⟩
  refine pure_tup fn_spot_paths (by decide) (lf1 (prD_lf n b)) rfl (env' := [some (prD n b), some (.frz ((paths b).map pD)), none]) (st' := []) ?_ (fun _ z => by cases z) (pDs_lf _)
  show b_spot_paths (CX (M + 3)) [some (prD n b), none, none] [] = _
  have h0 : b_spot_paths_0 (CX (M + 3)) [some (prD n b), none, none] [] = some (.nx, [some (prD n b), some (.frz ((paths b).map pD)), none], []) :=
    set_run (call_run (lcons_run (bin_run (y := .int 1) (var_run rfl) rfl (pr_one _)) (lcons_run (x := .tup []) rfl lnil_run)) (paths_run hP hN [])) (by show 1 < 3; decide)
  unfold b_spot_paths
  rw [seq_nx h0]
  refine ret_run (un_run (x := .frz ((spots b).map pD)) (st1 := []) (compF_mapG (xs := paths b) (g := pD) (fun q => if isSp b q = true then some (pD q) else none) (seq_frz (var_run rfl)) (fun q hq => ?_) (by have := hP.all; show (paths b).length < 3000; omega) (by have := hP.all; rw [lim_eq]; omega) (filterMap_if _ _ _)) rfl)
  obtain ⟨s, hs⟩ := path_in hq
  have ht : (cB (eBin opIn (eBin opIx (eCall F_statement_at (lCons (eVar 0) (lCons (eVar 2) lNil))) (eC (.int 0))) (eC (.tup [(.str w_look), (.str w_choose), (.str w_loop)])))) (CX (M + 3)) [some (prD n b), some (.frz ((paths b).map pD)), some (pD q)] [] = some (.ok s.isSpot, []) :=
    cB_run (bin_run (y := .tup [(.str w_look), (.str w_choose), (.str w_loop)]) (bin_run (y := .int 0) (call_run (lcons_run (var_run rfl) (lcons_run (var_run rfl) lnil_run)) (statement_at_run hP hs M [])) rfl (word_run s _)) rfl (spotword s _))
  have e : isSp b q = s.isSpot := by unfold isSp; rw [hs]
  rw [e]
  cases hsp : s.isSpot with
  | true => exact compT_y (by show 2 < 3; decide) (by rw [hsp] at ht; exact ht) (var_run rfl)
  | false => exact compT_n (by show 2 < 3; decide) (by rw [hsp] at ht; exact ht)
theorem spots_of_run {n : Nat} {b : List Stm} (hP : PrOk n b) {N : Nat} (hN : 6 < N) (st : Stt) : prog.call 3000 (N + 2) F_spots_of [prD n b] st = some (.ok (.frz ((spots b).map (stD b))), st) := by
  obtain ⟨M, rfl⟩ : ∃ M, N = M + 1 := ⟨N - 1, by omega⟩
  refine pure_frz fn_spots_of (by decide) (lf1 (prD_lf n b)) rfl (env' := [some (prD n b), none]) (st' := []) ?_ (lfL_map _ (stD_lf b) _)
  show b_spots_of (CX (M + 2)) [some (prD n b), none] [] = _
  refine ret_run (compF_mapG (xs := paths b) (g := stD b) (fun q => if isSp b q = true then some (stD b q) else none) (seq_frz (call_run (lcons_run (var_run rfl) lnil_run) (statements_of_run hP (by omega) []))) (fun q hq => ?_) (by have := hP.all; show (paths b).length < 3000; omega) (by have := hP.all; rw [lim_eq]; omega) (filterMap_if _ _ _))
  obtain ⟨s, hs⟩ := path_in hq
  rw [stD_some hs]
  have ht : (cB (eBin opIn (eBin opIx (eVar 1) (eC (.int 0))) (eC (.tup [(.str w_look), (.str w_choose), (.str w_loop)])))) (CX (M + 2)) [some (prD n b), some s.d] [] = some (.ok s.isSpot, []) :=
    cB_run (bin_run (y := .tup [(.str w_look), (.str w_choose), (.str w_loop)]) (bin_run (y := .int 0) (var_run rfl) rfl (word_run s _)) rfl (spotword s _))
  have e : isSp b q = s.isSpot := by unfold isSp; rw [hs]
  rw [e]
  cases hsp : s.isSpot with
  | true => exact compT_y (by show 1 < 2; decide) (by rw [hsp] at ht; exact ht) (var_run rfl)
  | false => exact compT_n (by show 1 < 2; decide) (by rw [hsp] at ht; exact ht)
/-- the number of ways -/
def Stm.ways : Stm → Nat
  | .look _ => 1
  | .br true _ => 2
  | .br false bs => bs.length
  | .pl _ => 0
theorem spot_get {b : List Stm} {i : Nat} {q : List Nat} (h : (spots b)[i]? = some q) : ∃ s, stAt b q = some s ∧ s.isSpot = true := mem_spots.mp (List.mem_of_getElem? h)
theorem way_count_run {n : Nat} {b : List Stm} {i : Nat} {q : List Nat} {s : Stm} (hP : PrOk n b) (h : (spots b)[i]? = some q) (hs : stAt b q = some s) {N : Nat} (hN : 9 < N) (st : Stt) : prog.call 3000 (N + 1) F_way_count [prD n b, .int (i : Int)] st = some (.ok (.int (s.ways : Int)), st) := by
  obtain ⟨M, rfl⟩ : ∃ M, N = M + 2 := ⟨N - 2, by omega⟩
  refine pure_tup fn_way_count (by decide) (lf2 (prD_lf n b) rfl) rfl (env' := [some (prD n b), some (.int (i : Int)), some s.d]) (st' := []) ?_ (fun _ z => by cases z) rfl
  show b_way_count (CX (M + 2)) [some (prD n b), some (.int (i : Int)), none] [] = _
  have h0 : b_way_count_0 (CX (M + 2)) [some (prD n b), some (.int (i : Int)), none] [] = some (.nx, [some (prD n b), some (.int (i : Int)), some s.d], []) :=
    set_run (bin_run (call_run (lcons_run (var_run rfl) lnil_run) (spots_of_run hP (by omega) [])) (var_run rfl) (ix_frz _ (by rw [List.getElem?_map, h]; exact congrArg some (stD_some hs)))) (by show 2 < 3; decide)
  unfold b_way_count
  rw [seq_nx h0]
  obtain ⟨k, hok⟩ := stAt_ok hP hs
  have h1 : (eBin opIx (eVar 2) (eC (.int 0))) (CX (M + 2)) [some (prD n b), some (.int (i : Int)), some s.d] [] = some (.ok (.str s.word), []) := bin_run (y := .int 0) (var_run rfl) rfl (word_run s _)
  have h2 : (eUn bLen (eCall F_blocks_of (lCons (eVar 2) lNil))) (CX (M + 2)) [some (prD n b), some (.int (i : Int)), some s.d] [] = some (.ok (.int ((bsL s.bs).length : Int)), []) :=
    un_run (call_run (lcons_run (var_run rfl) lnil_run) (blocks_of_run hok (M + 1) [])) rfl
  refine ret_run ?_
  unfold eDGet
  rw [bnd_ok h1, bnd_ok h2]
  rw [bsL_len]
  obtain ⟨s', hs', hsp⟩ := spot_get h
  rw [hs] at hs'
  cases hs'
  match s, hsp with
  | .look x, _ => kernel_rfl
  | .br true bs, _ => kernel_rfl
  | .br false bs, _ => kernel_rfl
end MI

set_option autoImplicit false
set_option maxRecDepth 100000
set_option linter.all false
/-! R4: flow_on, flow_start, flow run. -/
namespace MI
open PySem
theorem map_int_inj : ∀ {p q : List Nat}, (p.map fun (k : Nat) => D.int (k : Int)) = (q.map fun (k : Nat) => D.int (k : Int)) → p = q
  | [], [], _ => rfl
  | [], _ :: _, h => by simp at h
  | _ :: _, [], h => by simp at h
  | x :: p, y :: q, h => by
    simp only [List.map_cons, List.cons.injEq, D.int.injEq, Int.natCast_inj] at h
    rw [h.1, map_int_inj h.2]
theorem pD_eqvL : ∀ (p q : List Nat), D.eqvL (p.map fun (k : Nat) => D.int (k : Int)) (q.map fun (k : Nat) => D.int (k : Int)) = decide (p = q)
  | [], [] => by simp [D.eqvL]
  | [], _ :: _ => by simp [D.eqvL]
  | _ :: _, [] => by simp [D.eqvL]
  | x :: p, y :: q => by
    have h := pD_eqvL p q
    by_cases h1 : x = y
    · subst h1
      simp only [List.map_cons, D.eqvL, D.eqv, h, beq_self_eq_true, Bool.true_and, List.cons.injEq, true_and]
    · have h2 : ((x : Int) == (y : Int)) = false := by simp; omega
      simp only [List.map_cons, D.eqvL, D.eqv, h2, Bool.false_and, List.cons.injEq, h1, false_and, decide_false]
theorem pD_eqv (p q : List Nat) : D.eqv (pD p) (pD q) = decide (p = q) := pD_eqvL p q
theorem pD_ok (n : Nat) {p : List Nat} (h : p.length ≤ 1000) : D.ok (n + 1) (pD p) = true := by
  have : ∀ q : List Nat, D.okL n (q.map fun (k : Nat) => D.int (k : Int)) = true := fun q => by
    induction q with
    | nil => simp [D.okL]
    | cons x q ih => simp [D.okL, D.ok, ih]
  unfold pD
  simp only [D.ok, this, Bool.and_true, decide_eq_true_eq, List.length_map]
  rw [lim_eq]; omega
theorem pDs_ok (n : Nat) : ∀ {l : List (List Nat)}, (∀ q ∈ l, q.length ≤ 1000) → D.okL (n + 1) (l.map pD) = true
  | [], _ => by simp [D.okL]
  | q :: l, h => by
    simp only [List.map_cons, D.okL, pD_ok n (h q (by simp)), pDs_ok n (l := l) (fun r hr => h r (by simp [hr])), Bool.and_self]
theorem spot_short {n : Nat} {b : List Stm} (hP : PrOk n b) {q : List Nat} {s : Stm} (h : stAt b q = some s) : q.length ≤ 12 := by
  obtain ⟨p, i, b1, rfl, h1, h2⟩ := stAt_some h
  have := blkAt_short hP h1
  simp; omega
theorem spots_ok {n : Nat} {b : List Stm} (hP : PrOk n b) : ∀ q ∈ spots b, q.length ≤ 1000 := fun q h => by
  obtain ⟨s, hs, _⟩ := mem_spots.mp h
  have := spot_short hP hs
  omega
theorem in_spots {n : Nat} {b : List Stm} (hP : PrOk n b) {q : List Nat} (hq : q.length ≤ 100) (st : Stt) : opIn (pD q) (.xtup ((spots b).map pD)) st = some (.ok (.bl (decide (q ∈ spots b))), st) := by
  have e : isInT (pD q) (.xtup ((spots b).map pD)) st = some (.ok (decide (q ∈ spots b)), st) := by
    unfold isInT
    simp only [deep, pD_ok 39 (p := q) (by omega), pDs_ok 39 (spots_ok hP), Bool.and_self, if_true]
    have e : (((spots b).map pD).any fun y => D.eqv y (pD q)) = decide (q ∈ spots b) := by
      rw [List.any_map, Bool.eq_iff_iff, List.any_eq_true]
      simp only [Function.comp, pD_eqv, decide_eq_true_eq]
      constructor
      · rintro ⟨x, h1, h2⟩; subst h2; exact h1
      · intro h; exact ⟨q, h, rfl⟩
    rw [e]
  unfold opIn
  rw [bnd_ok e]; rfl
theorem findIdx_map (q : List Nat) : ∀ l : List (List Nat), q ∈ l → (l.map pD).findIdx? (fun z => D.eqv z (pD q)) = some (l.idxOf q)
  | [], h => by simp at h
  | x :: l, h => by
    rw [List.map_cons, List.findIdx?_cons, pD_eqv]
    by_cases e : x = q
    · subst e; simp
    · rw [decide_eq_false e]
      have hq : q ∈ l := by
        rcases List.mem_cons.mp h with h | h
        · exact absurd h.symm e
        · exact h
      rw [if_neg (by decide), findIdx_map q l hq]
      have : (x == q) = false := by simpa using e
      rw [List.idxOf_cons, this]
      simp
theorem index_spots {n : Nat} {b : List Stm} (hP : PrOk n b) {q : List Nat} (hq : q ∈ spots b) (st : Stt) : mIndex (.xtup ((spots b).map pD)) (pD q) st = some (.ok (.int ((spots b).idxOf q : Nat)), st) := by
  unfold mIndex
  simp only [deep, pD_ok 39 (p := q) (spots_ok hP q hq), pDs_ok 39 (spots_ok hP), Bool.and_self, if_true, findIdx_map q _ hq]
theorem index_run {a e : SE} {c : Ctx} {env : Env} {st : Stt} {n : Nat} {b : List Stm} (hP : PrOk n b) {q : List Nat} (hq : q ∈ spots b) (ha : a c env st = some (.ok (.xtup ((spots b).map pD)), st)) (he : e c env st = some (.ok (pD q), st)) : eMt1 isIxd mIndex a e c env st = some (.ok (.int ((spots b).idxOf q : Nat)), st) := by
  unfold eMt1
  rw [bnd_ok ha, bnd_ok (x := isIxd (.xtup ((spots b).map pD))) (a := ()) (st1 := st) rfl, bnd_ok he]
  exact index_spots hP hq st
def spD : Option Nat → D
  | none => .non
  | some k => .int (k : Int)
/-- from a place in a block to the next spot -/
def flN (b : List Stm) : Nat → List Nat → Nat → List Pl → Option (List Pl × Option Nat)
  | 0, _, _, _ => none
  | f + 1, p, i, acc => match stAt b (p ++ [i]) with
    | some (.pl x) => flN b f p (i + 1) (acc ++ [x])
    | some _ => some (acc, some ((spots b).idxOf (p ++ [i])))
    | none => if p = [] then some (acc, none)
      else match stAt b p.dropLast with
        | some s => if s.isLoop = true then some (acc, some ((spots b).idxOf p.dropLast)) else flN b f p.dropLast.dropLast (p.dropLast.getLastD 0 + 1) acc
        | none => none
theorem blkAt_up {b blk : List Stm} {p : List Nat} (h : blkAt b p = some blk) (hp : p ≠ []) : ∃ p' i w b1 s, p = p' ++ [i, w] ∧ blkAt b p' = some b1 ∧ b1[i]? = some s ∧ s.bs[w]? = some blk := by
  obtain ⟨pr, rfl⟩ := blkAt_unp h
  have hpr : pr ≠ [] := fun e => by subst e; exact hp rfl
  obtain ⟨a, x, rfl⟩ : ∃ a x, pr = a ++ [x] := ⟨pr.dropLast, pr.getLast hpr, (List.dropLast_concat_getLast hpr).symm⟩
  obtain ⟨i, w⟩ := x
  obtain ⟨b1, h1⟩ := blkAt_pre h
  rw [unp_app, blkAt_app _ _ _ _ h1] at h
  simp only [unp, blkAt] at h
  cases h2 : b1[i]? with
  | none => rw [h2] at h; cases h
  | some s =>
    rw [h2] at h
    simp only at h
    cases h3 : s.bs[w]? with
    | none => rw [h3] at h; cases h
    | some b' =>
      rw [h3] at h
      have : b' = blk := by simpa using h
      subst this
      exact ⟨unp a, i, w, b1, s, by rw [unp_app]; rfl, h1, h2, h3⟩
theorem pD_nil_eq (p : List Nat) (st : Stt) (hp : p.length ≤ 1000) : opEq (pD p) (.tup []) st = some (.ok (.bl (decide (p = []))), st) := by
  have e : eqD (pD p) (.tup []) st = some (.ok (decide (p = [])), st) := by
    unfold eqD
    rw [dat_self (pD_ok 39 hp)]
    have := pD_eqv p []
    rw [show pD [] = .tup [] from rfl] at this
    simp only [dat, deep, pD_ok 39 hp, show D.ok 40 (.tup []) = true from by decide, Bool.and_self, if_true, this]
  unfold opEq
  rw [bnd_ok e]; rfl
abbrev fbody : SS := (sSeq (sSet 5 (eCall F_block_at (lCons (eVar 0) (lCons (eVar 1) lNil))))
  (sIf (cB (eBin opLt (eVar 2) (eUn bLen (eVar 5))))
  (sSeq (sSet 6 (eBin opAdd (eVar 1) (eTup (lCons (eVar 2) lNil))))
  (sSeq (sIf (cB (eBin opIn (eVar 6) (eVar 3)))
  (sRet (eTup (lCons (eUn bTuple (eVar 4)) (lCons (eMt1 isIxd mIndex (eVar 3) (eVar 6)) lNil))))
  sPass)
  (sSeq (sExpr (eMt1 isLst mAppend (eVar 4) (eBin opIx (eVar 5) (eVar 2))))
  (sAug 2 opIAdd (eC (.int 1))))))
  (sIf (cB (eBin opEq (eVar 1) (eTup lNil)))
  (sRet (eTup (lCons (eUn bTuple (eVar 4)) (lCons (eC .non) lNil))))
  (sSeq (sSet 7 (eSlc (eVar 1) oNone (oSome (eUn opNeg (eC (.int 1))))))
  (sSeq (sIf (cB (eBin opEq (eBin opIx (eCall F_statement_at (lCons (eVar 0) (lCons (eVar 7) lNil))) (eC (.int 0))) (eC (.str w_loop))))
  (sRet (eTup (lCons (eUn bTuple (eVar 4)) (lCons (eMt1 isIxd mIndex (eVar 3) (eVar 7)) lNil))))
  sPass)
  (sPar 1 2 (lCons (eSlc (eVar 7) oNone (oSome (eUn opNeg (eC (.int 1))))) (lCons (eBin opAdd (eBin opIx (eVar 7) (eUn opNeg (eC (.int 1)))) (eC (.int 1))) lNil))))))))
theorem tuple_loc {a : SE} {c : Ctx} {env : Env} {st st1 : Stt} {k : Nat} {l : List D} (h : a c env st = some (.ok (.loc k), st1)) (hk : st1[k]? = some (.lst l)) : eUn bTuple a c env st = some (.ok (.tup l), st1) := by
  refine un_run h ?_
  unfold bTuple
  have : seqOf (.loc k) st1 = some (.ok l, st1) := by simp [seqOf, hk]
  rw [bnd_ok this]; rfl
theorem while_t {t : Env → R Bool} {T : Env → Stt → Option (Fl × Env × Stt)} {f : Nat} {env env' : Env} {st st' : Stt} (ht : t env st = some (.ok true, st)) (h : T env st = some (.nx, env', st')) : whileL t T (f + 1) env st = whileL t T f env' st' := by
  rw [whileL, ht]
  simp only [h]
theorem while_rt {t : Env → R Bool} {T : Env → Stt → Option (Fl × Env × Stt)} {f : Nat} {env env' : Env} {st st' : Stt} {d : D} (ht : t env st = some (.ok true, st)) (h : T env st = some (.rt d, env', st')) : whileL t T (f + 1) env st = some (.rt d, env', st') := by
  rw [whileL, ht]
  simp only [h]
theorem lt_run (i l : Nat) (st : Stt) : opLt (.int (i : Int)) (.int (l : Int)) st = some (.ok (.bl (decide (i < l))), st) := by
  simp only [opLt, Int.ofNat_lt]
def fres (r : List Pl × Option Nat) : D := .tup [.tup (r.1.map Pl.d), spD r.2]
theorem flow_loop {n : Nat} {b : List Stm} (hP : PrOk n b) {N : Nat} (hN : 9 < N) : ∀ (f : Nat) (p : List Nat) (i : Nat) (acc : List Pl) (r : List Pl × Option Nat), flN b f p i acc = some r → (∃ blk, blkAt b p = some blk ∧ i ≤ blk.length) → acc.length + f ≤ 2000 → ∀ (F : Nat) (x5 x6 x7 : Option D),
    ∃ env' st', whileL ((cB (eC (.bl true))) (CX N)) (fbody (CX N)) (F + f) [some (prD n b), some (pD p), some (.int (i : Int)), some (.xtup ((spots b).map pD)), some (.loc 0), x5, x6, x7] [.lst (acc.map Pl.d)] = some (.rt (fres r), env', st') := by
  intro f
  induction f with
  | zero => intro p i acc r h; simp [flN] at h
  | succ f ih =>
    intro p i acc r h ⟨blk, hb, hi⟩ hacc F x5 x6 x7
    obtain ⟨M, rfl⟩ : ∃ M, N = M + 3 := ⟨N - 3, by omega⟩
    have hsh := blkAt_short hP hb
    have tt : ∀ env st, (cB (eC (.bl true))) (CX (M + 3)) env st = some (.ok true, st) := fun _ _ => rfl
    have h5 : ∀ st, (sSet 5 (eCall F_block_at (lCons (eVar 0) (lCons (eVar 1) lNil)))) (CX (M + 3)) [some (prD n b), some (pD p), some (.int (i : Int)), some (.xtup ((spots b).map pD)), some (.loc 0), x5, x6, x7] st = some (.nx, [some (prD n b), some (pD p), some (.int (i : Int)), some (.xtup ((spots b).map pD)), some (.loc 0), some (.tup (blL blk)), x6, x7], st) := fun st =>
      set_run (call_run (lcons_run (var_run rfl) (lcons_run (var_run rfl) lnil_run)) (block_at_run hP hb (M + 1) st)) (by show 5 < 8; decide)
    have hlt : ∀ st, (cB (eBin opLt (eVar 2) (eUn bLen (eVar 5)))) (CX (M + 3)) [some (prD n b), some (pD p), some (.int (i : Int)), some (.xtup ((spots b).map pD)), some (.loc 0), some (.tup (blL blk)), x6, x7] st = some (.ok (decide (i < blk.length)), st) := fun st =>
      cB_run (bin_run (var_run rfl) (un_run (var_run rfl) (show bLen (.tup (blL blk)) st = some (.ok (.int (blk.length : Int)), st) by rw [← blL_len blk]; rfl)) (lt_run _ _ _))
    have hst : stAt b (p ++ [i]) = blk[i]? := by rw [stAt_snoc, hb]; rfl
    rw [flN, hst] at h
    by_cases hil : i < blk.length
    · -- a statement here
      have hs : blk[i]? = some blk[i] := List.getElem?_eq_getElem hil
      generalize blk[i] = s at hs
      rw [hs] at h hst
      have h6 : ∀ st, (sSet 6 (eBin opAdd (eVar 1) (eTup (lCons (eVar 2) lNil)))) (CX (M + 3)) [some (prD n b), some (pD p), some (.int (i : Int)), some (.xtup ((spots b).map pD)), some (.loc 0), some (.tup (blL blk)), x6, x7] st = some (.nx, [some (prD n b), some (pD p), some (.int (i : Int)), some (.xtup ((spots b).map pD)), some (.loc 0), some (.tup (blL blk)), some (pD (p ++ [i])), x7], st) := fun st =>
        set_run (bin_run (var_run rfl) (tup_run (lcons_run (var_run rfl) lnil_run) lim1) (by rw [← pD_app]; exact tadd_run _ (by rw [pD_len]; show p.length + 1 < lim; rw [lim_eq]; omega))) (by show 6 < 8; decide)
      have hin : ∀ st, (cB (eBin opIn (eVar 6) (eVar 3))) (CX (M + 3)) [some (prD n b), some (pD p), some (.int (i : Int)), some (.xtup ((spots b).map pD)), some (.loc 0), some (.tup (blL blk)), some (pD (p ++ [i])), x7] st = some (.ok (decide (p ++ [i] ∈ spots b)), st) := fun st =>
        cB_run (bin_run (var_run rfl) (var_run rfl) (in_spots hP (by simp; omega) st))
      by_cases hsp : s.isSpot = true
      · -- a spot
        have hm : p ++ [i] ∈ spots b := mem_spots.mpr ⟨s, hst, hsp⟩
        have h' : r = (acc, some ((spots b).idxOf (p ++ [i]))) := by
          match s, hsp, h with
          | .look _, _, h => exact (Option.some.inj h).symm
          | .br _ _, _, h => exact (Option.some.inj h).symm
        subst h'
        exact ⟨_, _, while_rt (tt _ _) ((seq_nx (h5 _)).trans ((if_t (by rw [hlt, decide_eq_true hil])).trans ((seq_nx (h6 _)).trans ((seq_rt ((if_t (by rw [hin, decide_eq_true hm])).trans (ret_run (tup_run (lcons_run (tuple_loc (var_run rfl) rfl) (lcons_run (index_run hP hm (var_run rfl) (var_run rfl)) lnil_run)) lim2))))))))⟩
      · have hm : ¬ p ++ [i] ∈ spots b := fun hc => by
          obtain ⟨s', h1, h2⟩ := mem_spots.mp hc
          rw [hst] at h1; cases h1; exact hsp h2
        obtain ⟨x, rfl⟩ : ∃ x, s = .pl x := by
          match s, hsp with
          | .pl x, _ => exact ⟨x, rfl⟩
          | .look _, h => exact absurd rfl h
          | .br _ _, h => exact absurd rfl h
        have hT : fbody (CX (M + 3)) [some (prD n b), some (pD p), some (.int (i : Int)), some (.xtup ((spots b).map pD)), some (.loc 0), x5, x6, x7] [.lst (acc.map Pl.d)] = some (.nx, [some (prD n b), some (pD p), some (.int ((i + 1 : Nat) : Int)), some (.xtup ((spots b).map pD)), some (.loc 0), some (.tup (blL blk)), some (pD (p ++ [i])), x7], [.lst ((acc ++ [x]).map Pl.d)]) := by
          refine (seq_nx (h5 _)).trans ((if_t (by rw [hlt, decide_eq_true hil])).trans ((seq_nx (h6 _)).trans ((seq_nx ((if_f (by rw [hin, decide_eq_false hm])).trans rfl)).trans ?_)))
          have ap := append_run (c := CX (M + 3)) (st := [.lst (acc.map Pl.d)]) (a := eVar 4) (b := eBin opIx (eVar 5) (eVar 2)) (env := [some (prD n b), some (pD p), some (.int (i : Int)), some (.xtup ((spots b).map pD)), some (.loc 0), some (.tup (blL blk)), some (pD (p ++ [i])), x7]) (k := 0) (y := x.d) (var_run rfl) rfl
            (bin_run (var_run rfl) (var_run rfl) (ix_tup _ (by rw [blL_get, hs]; rfl))) rfl (by rw [List.length_map, lim_eq]; omega)
          refine (seq_nx (expr_run ap)).trans ?_
          rw [List.map_append]
          rfl
        obtain ⟨env', st', e⟩ := ih p (i + 1) (acc ++ [x]) r h ⟨blk, hb, hil⟩ (by simp; omega) F (some (.tup (blL blk))) (some (pD (p ++ [i]))) x7
        exact ⟨env', st', (while_t (tt _ _) hT).trans e⟩
    · have hi' : i = blk.length := by omega
      have hs : blk[i]? = none := List.getElem?_eq_none_iff.mpr (by omega)
      rw [hs] at h
      have hn : ∀ st, (cB (eBin opEq (eVar 1) (eTup lNil))) (CX (M + 3)) [some (prD n b), some (pD p), some (.int (i : Int)), some (.xtup ((spots b).map pD)), some (.loc 0), some (.tup (blL blk)), x6, x7] st = some (.ok (decide (p = [])), st) := fun st =>
        cB_run (bin_run (y := .tup []) (var_run rfl) rfl (pD_nil_eq p st (by omega)))
      by_cases hp : p = []
      · simp only [hp, if_true] at h
        cases h
        exact ⟨_, _, while_rt (tt _ _) ((seq_nx (h5 _)).trans ((if_f (by rw [hlt, decide_eq_false hil])).trans ((if_t (by rw [hn, decide_eq_true hp])).trans (ret_run (tup_run (lcons_run (tuple_loc (var_run rfl) rfl) (lcons_run (x := .non) rfl lnil_run)) lim2)))))⟩
      · simp only [hp, if_false] at h
        obtain ⟨p', j, w, b1, s, rfl, hb1, hs1, hw⟩ := blkAt_up hb hp
        have ed : (p' ++ [j, w]).dropLast = p' ++ [j] := by rw [show p' ++ [j, w] = (p' ++ [j]) ++ [w] by simp, List.dropLast_concat]
        have hso : stAt b (p' ++ [j]) = some s := by rw [stAt_snoc, hb1]; exact hs1
        rw [ed, hso] at h
        simp only [List.dropLast_concat] at h
        have eg : (p' ++ [j]).getLastD 0 = j := by simp
        rw [eg] at h
        have h7 : ∀ st, (sSet 7 (eSlc (eVar 1) oNone (oSome (eUn opNeg (eC (.int 1)))))) (CX (M + 3)) [some (prD n b), some (pD (p' ++ [j, w])), some (.int (i : Int)), some (.xtup ((spots b).map pD)), some (.loc 0), some (.tup (blL blk)), x6, x7] st = some (.nx, [some (prD n b), some (pD (p' ++ [j, w])), some (.int (i : Int)), some (.xtup ((spots b).map pD)), some (.loc 0), some (.tup (blL blk)), x6, some (pD (p' ++ [j]))], st) := fun st =>
          set_run (slc_last (l := (p' ++ [j]).map fun (k : Nat) => D.int (k : Int)) (d := .int (w : Int)) (var_run (by rw [show p' ++ [j, w] = (p' ++ [j]) ++ [w] by simp, pD_snoc]; rfl))) (by show 7 < 8; decide)
        have hlo : ∀ st, (cB (eBin opEq (eBin opIx (eCall F_statement_at (lCons (eVar 0) (lCons (eVar 7) lNil))) (eC (.int 0))) (eC (.str w_loop)))) (CX (M + 3)) [some (prD n b), some (pD (p' ++ [j, w])), some (.int (i : Int)), some (.xtup ((spots b).map pD)), some (.loc 0), some (.tup (blL blk)), x6, some (pD (p' ++ [j]))] st = some (.ok s.isLoop, st) := fun st =>
          cB_run (bin_run (y := .str w_loop) (bin_run (y := .int 0) (call_run (lcons_run (var_run rfl) (lcons_run (var_run rfl) lnil_run)) (statement_at_run hP hso M st)) rfl (word_run s _)) rfl (loopword s _))
        by_cases hl : s.isLoop = true
        · rw [if_pos hl] at h
          cases h
          have hm : p' ++ [j] ∈ spots b := mem_spots.mpr ⟨s, hso, by
            match s, hl with
            | .br _ _, _ => rfl⟩
          exact ⟨_, _, while_rt (tt _ _) ((seq_nx (h5 _)).trans ((if_f (by rw [hlt, decide_eq_false hil])).trans ((if_f (by rw [hn, decide_eq_false hp])).trans ((seq_nx (h7 _)).trans ((seq_rt ((if_t (by rw [hlo, hl])).trans (ret_run (tup_run (lcons_run (tuple_loc (var_run rfl) rfl) (lcons_run (index_run hP hm (var_run rfl) (var_run rfl)) lnil_run)) lim2)))))))))⟩
        · rw [if_neg hl] at h
          have hl' : s.isLoop = false := by simpa using hl
          have hT : fbody (CX (M + 3)) [some (prD n b), some (pD (p' ++ [j, w])), some (.int (i : Int)), some (.xtup ((spots b).map pD)), some (.loc 0), x5, x6, x7] [.lst (acc.map Pl.d)] = some (.nx, [some (prD n b), some (pD p'), some (.int ((j + 1 : Nat) : Int)), some (.xtup ((spots b).map pD)), some (.loc 0), some (.tup (blL blk)), x6, some (pD (p' ++ [j]))], [.lst (acc.map Pl.d)]) := by
            refine (seq_nx (h5 _)).trans ((if_f (by rw [hlt, decide_eq_false hil])).trans ((if_f (by rw [hn, decide_eq_false hp])).trans ((seq_nx (h7 _)).trans ((seq_nx ((if_f (by rw [hlo, hl'])).trans rfl)).trans ?_))))
            have e1 : (lCons (eSlc (eVar 7) oNone (oSome (eUn opNeg (eC (.int 1))))) (lCons (eBin opAdd (eBin opIx (eVar 7) (eUn opNeg (eC (.int 1)))) (eC (.int 1))) lNil)) (CX (M + 3)) [some (prD n b), some (pD (p' ++ [j, w])), some (.int (i : Int)), some (.xtup ((spots b).map pD)), some (.loc 0), some (.tup (blL blk)), x6, some (pD (p' ++ [j]))] [.lst (acc.map Pl.d)] = some (.ok [pD p', .int ((j + 1 : Nat) : Int)], [.lst (acc.map Pl.d)]) :=
              lcons_run (slc_last (l := p'.map fun (k : Nat) => D.int (k : Int)) (d := .int (j : Int)) (var_run (by rw [pD_snoc]; rfl))) (lcons_run (bin_run (x := .int (j : Int)) (y := .int 1) (bin_run (y := .int (-1)) (var_run rfl) rfl (by rw [pD_snoc]; exact ix_last _)) rfl rfl) lnil_run)
            unfold sPar sBnd
            rw [e1]
            rfl
          have hj : j < b1.length := (List.getElem?_eq_some_iff.mp hs1).1
          obtain ⟨env', st', e⟩ := ih p' (j + 1) acc r h ⟨b1, hb1, hj⟩ (by omega) F (some (.tup (blL blk))) x6 (some (pD (p' ++ [j])))
          exact ⟨env', st', (while_t (tt _ _) hT).trans e⟩
end MI

set_option autoImplicit false
set_option maxRecDepth 100000
set_option linter.all false
/-! R5: flow_on ends; flow_start, flow. -/
namespace MI
open PySem
/-- what a flow may be -/
structure FlOk (n : Nat) (b : List Stm) (r : List Pl × Option Nat) : Prop where
  pls : ∀ x ∈ r.1, x.ok n
  spot : ∀ k, r.2 = some k → k < (spots b).length
  few : r.1.length ≤ 200
theorem Stm.ok_pl {n k : Nat} {x : Pl} (h : (Stm.pl x).ok n k) : x.ok n := by cases k <;> exact h
theorem flN_ok {n : Nat} {b : List Stm} (hP : PrOk n b) : ∀ (f : Nat) (p : List Nat) (i : Nat) (acc : List Pl), (∃ blk, blkAt b p = some blk ∧ i ≤ blk.length) → (9 - i) + 9 * (p.length / 2) ≤ f → (∀ x ∈ acc, x.ok n) → acc.length + f ≤ 200 → ∃ r, flN b f p i acc = some r ∧ FlOk n b r := by
  intro f
  induction f with
  | zero =>
    intro p i acc ⟨blk, hb, hi⟩ hf hacc hl
    obtain ⟨k', _, _, h8⟩ := blkAt_ok hP.ok hP.len hb
    omega
  | succ f ih =>
    intro p i acc ⟨blk, hb, hi⟩ hf hacc hl
    obtain ⟨k', _, hok, h8⟩ := blkAt_ok hP.ok hP.len hb
    have hst : stAt b (p ++ [i]) = blk[i]? := by rw [stAt_snoc, hb]; rfl
    rw [flN, hst]
    by_cases hil : i < blk.length
    · have hs : blk[i]? = some blk[i] := List.getElem?_eq_getElem hil
      have hsok := okB_get hok hs
      generalize blk[i] = s at hs hsok
      rw [hs] at hst ⊢
      have spot : s.isSpot = true → FlOk n b (acc, some ((spots b).idxOf (p ++ [i]))) := fun hsp =>
        ⟨hacc, fun k e => by cases e; exact List.idxOf_lt_length_of_mem (mem_spots.mpr ⟨s, hst, hsp⟩), by show acc.length ≤ 200; omega⟩
      match s, spot, hsok with
      | .pl x, _, hsok =>
        refine ih p (i + 1) (acc ++ [x]) ⟨blk, hb, hil⟩ (by omega) (fun y hy => ?_) (by simp; omega)
        rcases List.mem_append.mp hy with hy | hy
        · exact hacc y hy
        · have : y = x := by simpa using hy
          subst this; exact Stm.ok_pl hsok
      | .look _, spot, _ => exact ⟨_, rfl, spot rfl⟩
      | .br _ _, spot, _ => exact ⟨_, rfl, spot rfl⟩
    · have hs : blk[i]? = none := List.getElem?_eq_none_iff.mpr (by omega)
      rw [hs]
      by_cases hp : p = []
      · simp only [hp, if_true]
        exact ⟨_, rfl, hacc, (fun k e => by cases e), by show acc.length ≤ 200; omega⟩
      · simp only [hp, if_false]
        obtain ⟨p', j, w, b1, s, rfl, hb1, hs1, hw⟩ := blkAt_up hb hp
        have ed : (p' ++ [j, w]).dropLast = p' ++ [j] := by rw [show p' ++ [j, w] = (p' ++ [j]) ++ [w] by simp, List.dropLast_concat]
        have hso : stAt b (p' ++ [j]) = some s := by rw [stAt_snoc, hb1]; exact hs1
        rw [ed, hso]
        simp only [List.dropLast_concat]
        have eg : (p' ++ [j]).getLastD 0 = j := by simp
        rw [eg]
        have hj : j < b1.length := (List.getElem?_eq_some_iff.mp hs1).1
        by_cases hlo : s.isLoop = true
        · rw [if_pos hlo]
          exact ⟨_, rfl, hacc, fun k e => by
            cases e
            exact List.idxOf_lt_length_of_mem (mem_spots.mpr ⟨s, hso, by
              match s, hlo with
              | .br _ _, _ => rfl⟩), by show acc.length ≤ 200; omega⟩
        · rw [if_neg hlo]
          have ep : (p' ++ [j, w]).length = p'.length + 2 := by simp
          exact ih p' (j + 1) acc ⟨b1, hb1, hj⟩ (by omega) hacc (by omega)
theorem flN_mono {b : List Stm} : ∀ (f g : Nat) (p : List Nat) (i : Nat) (acc : List Pl) (r : List Pl × Option Nat), flN b f p i acc = some r → flN b (f + g) p i acc = some r
  | 0, g, p, i, acc, r, h => by simp [flN] at h
  | f + 1, g, p, i, acc, r, h => by
    rw [show f + 1 + g = (f + g) + 1 by omega]
    rw [flN] at h ⊢
    cases hs : stAt b (p ++ [i]) with
    | some s =>
      rw [hs] at h
      cases s with
      | pl x => exact flN_mono f g p (i + 1) _ r h
      | look _ => exact h
      | br _ _ => exact h
    | none =>
      rw [hs] at h
      by_cases hp : p = []
      · simp only [hp, if_true] at h ⊢; exact h
      · simp only [hp, if_false] at h ⊢
        cases ho : stAt b p.dropLast with
        | none => rw [ho] at h; cases h
        | some s =>
          rw [ho] at h
          by_cases hl : s.isLoop = true
          · simp only [hl, if_true] at h ⊢; exact h
          · simp only [hl, if_false] at h ⊢
            exact flN_mono f g _ _ _ r h
/-- from a place on, as a function -/
def flowOn (b : List Stm) (p : List Nat) (i : Nat) : List Pl × Option Nat := (flN b 100 p i []).getD ([], none)
theorem flowOn_ok {n : Nat} {b blk : List Stm} (hP : PrOk n b) {p : List Nat} {i : Nat} (hb : blkAt b p = some blk) (hi : i ≤ blk.length) : flN b 100 p i [] = some (flowOn b p i) ∧ FlOk n b (flowOn b p i) := by
  have := blkAt_short hP hb
  obtain ⟨r, e, h⟩ := flN_ok hP 100 p i [] ⟨blk, hb, hi⟩ (by omega) (by simp) (by simp)
  have : flowOn b p i = r := by unfold flowOn; rw [e]; rfl
  rw [this]; exact ⟨e, h⟩
theorem spD_lf (o : Option Nat) : D.lf (spD o) = true := by cases o <;> rfl
theorem fres_lf (r : List Pl × Option Nat) : D.lf (fres r) = true := by
  show (D.lf (.tup (r.1.map Pl.d)) && (D.lf (spD r.2) && true)) = true
  rw [spD_lf, show D.lf (.tup (r.1.map Pl.d)) = true from lfL_map _ Pl.lf _]; rfl
theorem flow_on_run {n : Nat} {b blk : List Stm} (hP : PrOk n b) {p : List Nat} {i : Nat} (hb : blkAt b p = some blk) (hi : i ≤ blk.length) {N : Nat} (hN : 9 < N) (st : Stt) : prog.call 3000 (N + 1) F_flow_on [prD n b, pD p, .int (i : Int)] st = some (.ok (fres (flowOn b p i)), st) := by
  obtain ⟨env', st', e⟩ := flow_loop hP hN 100 p i [] _ (flowOn_ok hP hb hi).1 ⟨blk, hb, hi⟩ (by simp) 2900 none none none
  have h0 : b_flow_on_0 (CX N) [some (prD n b), some (pD p), some (.int (i : Int)), none, none, none, none, none] [] = some (.nx, [some (prD n b), some (pD p), some (.int (i : Int)), some (.xtup ((spots b).map pD)), none, none, none, none], []) := by
    obtain ⟨M, rfl⟩ : ∃ M, N = M + 2 := ⟨N - 2, by omega⟩
    exact set_run (call_run (lcons_run (var_run rfl) lnil_run) (spot_paths_run hP (by omega) [])) (by show 3 < 8; decide)
  have h1 : b_flow_on_1 (CX N) [some (prD n b), some (pD p), some (.int (i : Int)), some (.xtup ((spots b).map pD)), none, none, none, none] [] = some (.nx, [some (prD n b), some (pD p), some (.int (i : Int)), some (.xtup ((spots b).map pD)), some (.loc 0), none, none, none], [.lst []]) := rfl
  refine pure_tup fn_flow_on (by decide) (lf3 (prD_lf n b) (pD_lf p) rfl) rfl (env' := env') (st' := st') ?_ (fun _ z => by unfold fres at z; cases z) (fres_lf _)
  show b_flow_on (CX N) [some (prD n b), some (pD p), some (.int (i : Int)), none, none, none, none, none] [] = _
  unfold b_flow_on
  rw [seq_nx h0, seq_nx h1]
  exact e
def goesOn (s : Stm) (w : Nat) : Bool := match s with
  | .look _ => true
  | s => s.isLoop && w == 1
/-- flow_start, flow as functions -/
def flowS (b : List Stm) : List Pl × Option Nat := flowOn b [] 0
def flowF (b : List Stm) (k w : Nat) : List Pl × Option Nat := match (spots b)[k]? with
  | some q => match stAt b q with
    | some s => if goesOn s w = true then flowOn b q.dropLast (q.getLastD 0 + 1) else flowOn b (q ++ [w]) 0
    | none => ([], none)
  | none => ([], none)
theorem flow_start_run {n : Nat} {b : List Stm} (hP : PrOk n b) {N : Nat} (hN : 9 < N) (st : Stt) : prog.call 3000 (N + 2) F_flow_start [prD n b] st = some (.ok (fres (flowS b)), st) := by
  refine pure_tup fn_flow_start (by decide) (lf1 (prD_lf n b)) rfl (env' := [some (prD n b)]) (st' := []) ?_ (fun _ z => by unfold fres at z; cases z) (fres_lf _)
  show b_flow_start (CX (N + 1)) [some (prD n b)] [] = _
  exact ret_run (call_run (lcons_run (var_run rfl) (lcons_run (x := .tup []) rfl (lcons_run (x := .int 0) rfl lnil_run))) (flow_on_run (p := []) (i := 0) (blk := b) hP rfl (Nat.zero_le _) hN []))
theorem flowS_ok {n : Nat} {b : List Stm} (hP : PrOk n b) : FlOk n b (flowS b) := (flowOn_ok hP (p := []) (i := 0) (blk := b) rfl (Nat.zero_le _)).2
theorem blk_down {b b1 blk : List Stm} {p : List Nat} {i w : Nat} {s : Stm} (h1 : blkAt b p = some b1) (h2 : b1[i]? = some s) (h3 : s.bs[w]? = some blk) : blkAt b (p ++ [i] ++ [w]) = some blk := by
  rw [show p ++ [i] ++ [w] = p ++ [i, w] by simp, blkAt_app _ _ _ _ h1]
  simp [blkAt, h2, h3]
theorem flowF_case {n : Nat} {b : List Stm} (hP : PrOk n b) {k w : Nat} {q : List Nat} {s : Stm} (hq : (spots b)[k]? = some q) (hs : stAt b q = some s) (hw : w < s.ways) :
    ∃ p i b1, q = p ++ [i] ∧ blkAt b p = some b1 ∧ b1[i]? = some s ∧ ((goesOn s w = true ∧ flowF b k w = flowOn b p (i + 1)) ∨ (goesOn s w = false ∧ flowF b k w = flowOn b (q ++ [w]) 0 ∧ ∃ blk, blkAt b (q ++ [w]) = some blk)) := by
  obtain ⟨p, i, b1, rfl, h1, h2⟩ := stAt_some hs
  refine ⟨p, i, b1, rfl, h1, h2, ?_⟩
  have e : flowF b k w = (if goesOn s w = true then flowOn b (p ++ [i]).dropLast ((p ++ [i]).getLastD 0 + 1) else flowOn b ((p ++ [i]) ++ [w]) 0) := by
    unfold flowF
    rw [hq]
    simp only [hs]
  rw [List.dropLast_concat, show (p ++ [i]).getLastD 0 = i by simp] at e
  obtain ⟨kk, hok⟩ := stAt_ok hP hs
  match s, hw, e, h2, hok with
  | .look x, hw, e, h2, _ => exact .inl ⟨rfl, by rw [e]; rfl⟩
  | .pl x, hw, e, h2, _ => simp [Stm.ways] at hw
  | .br true bs, hw, e, h2, hok =>
    by_cases hw1 : w = 1
    · subst hw1
      exact .inl ⟨rfl, by rw [e]; rfl⟩
    · have hf : ((Stm.br true bs).isLoop && w == 1) = false := by simp [Stm.isLoop, hw1]
      have hw0 : w = 0 := by simp only [Stm.ways] at hw; omega
      subst hw0
      refine .inr ⟨rfl, by rw [e]; rfl, ?_⟩
      cases kk with
      | zero => exact hok.elim
      | succ kk =>
        have hl := hok.1 rfl
        match bs, hl, h2 with
        | [blk], _, h2 => exact ⟨blk, blk_down h1 h2 rfl⟩
  | .br false bs, hw, e, h2, hok =>
    refine .inr ⟨rfl, by rw [e]; rfl, ?_⟩
    have : (Stm.br false bs).bs[w]? = some bs[w] := List.getElem?_eq_getElem hw
    exact ⟨_, blk_down h1 h2 this⟩
theorem flowF_ok {n : Nat} {b : List Stm} (hP : PrOk n b) {k w : Nat} {q : List Nat} {s : Stm} (hq : (spots b)[k]? = some q) (hs : stAt b q = some s) (hw : w < s.ways) : FlOk n b (flowF b k w) := by
  obtain ⟨p, i, b1, rfl, h1, h2, ⟨_, e⟩ | ⟨_, e, blk, h3⟩⟩ := flowF_case hP hq hs hw
  · rw [e]; exact (flowOn_ok hP h1 (List.getElem?_eq_some_iff.mp h2).1).2
  · rw [e]; exact (flowOn_ok hP h3 (Nat.zero_le _)).2
theorem eqs (s t : List Nat) (hs : (s.all (· < 1114112)) = true) (ht : (t.all (· < 1114112)) = true) (st : Stt) : opEq (.str s) (.str t) st = some (.ok (.bl (s == t)), st) := by
  have e : eqD (.str s) (.str t) st = some (.ok (s == t), st) := by
    unfold eqD
    simp only [dat, deep, D.ok, hs, ht, Bool.and_self, if_true, D.eqv]
  unfold opEq
  rw [bnd_ok e]; rfl
theorem eqi (i j : Int) (st : Stt) : opEq (.int i) (.int j) st = some (.ok (.bl (i == j)), st) := by
  have e : eqD (.int i) (.int j) st = some (.ok (i == j), st) := by
    unfold eqD
    simp only [dat, deep, D.ok, Bool.and_self, if_true, D.eqv]
  unfold opEq
  rw [bnd_ok e]; rfl
theorem or_run {a b : ST} {c : Ctx} {env : Env} {st : Stt} {x y : Bool} (h1 : a c env st = some (.ok x, st)) (h2 : b c env st = some (.ok y, st)) : cOr a b c env st = some (.ok (x || y), st) := by
  unfold cOr bnd
  rw [h1]
  cases x with
  | true => rfl
  | false => exact h2
theorem flow_run {n : Nat} {b : List Stm} (hP : PrOk n b) {k w : Nat} {q : List Nat} {s : Stm} (hq : (spots b)[k]? = some q) (hs : stAt b q = some s) (hw : w < s.ways) {N : Nat} (hN : 9 < N) (st : Stt) : prog.call 3000 (N + 2) F_flow [prD n b, .int (k : Int), .int (w : Int)] st = some (.ok (fres (flowF b k w)), st) := by
  obtain ⟨M, rfl⟩ : ∃ M, N = M + 2 := ⟨N - 2, by omega⟩
  have h0 : b_flow_0 (CX (M + 3)) [some (prD n b), some (.int (k : Int)), some (.int (w : Int)), none, none] [] = some (.nx, [some (prD n b), some (.int (k : Int)), some (.int (w : Int)), some (pD q), none], []) :=
    set_run (bin_run (call_run (lcons_run (var_run rfl) lnil_run) (spot_paths_run hP (N := M + 1) (by omega) [])) (var_run rfl) (ix_xtup _ (by rw [List.getElem?_map, hq]; rfl))) (by show 3 < 5; decide)
  have h1 : b_flow_1 (CX (M + 3)) [some (prD n b), some (.int (k : Int)), some (.int (w : Int)), some (pD q), none] [] = some (.nx, [some (prD n b), some (.int (k : Int)), some (.int (w : Int)), some (pD q), some (.str s.word)], []) :=
    set_run (bin_run (y := .int 0) (call_run (lcons_run (var_run rfl) (lcons_run (var_run rfl) lnil_run)) (statement_at_run hP hs M [])) rfl (word_run s _)) (by show 4 < 5; decide)
  have hwd : (s.word.all (· < 1114112)) = true := by
    match s with
    | .pl (.fresh _) => rfl
    | .pl (.give _ _ _) => rfl
    | .pl (.change _ _ _) => rfl
    | .look _ => rfl
    | .br true _ => rfl
    | .br false _ => rfl
  obtain ⟨s', hs', hsp⟩ := spot_get hq
  rw [hs] at hs'
  cases hs'
  have ht : (cOr (cB (eBin opEq (eVar 4) (eC (.str w_look)))) (cAnd (cB (eBin opEq (eVar 4) (eC (.str w_loop)))) (cB (eBin opEq (eVar 2) (eC (.int 1)))))) (CX (M + 3)) [some (prD n b), some (.int (k : Int)), some (.int (w : Int)), some (pD q), some (.str s.word)] [] = some (.ok (goesOn s w), []) := by
    have e := or_run (c := CX (M + 3)) (env := [some (prD n b), some (.int (k : Int)), some (.int (w : Int)), some (pD q), some (.str s.word)]) (st := []) (a := cB (eBin opEq (eVar 4) (eC (.str w_look)))) (b := (cAnd (cB (eBin opEq (eVar 4) (eC (.str w_loop)))) (cB (eBin opEq (eVar 2) (eC (.int 1))))))
      (cB_run (bin_run (y := .str w_look) (var_run rfl) rfl (eqs _ _ hwd (by decide) _))) (and_run (cB_run (bin_run (y := .str w_loop) (var_run rfl) rfl (eqs _ _ hwd (by decide) _))) (cB_run (bin_run (y := .int 1) (var_run rfl) rfl (eqi _ _ _))))
    rw [e]
    have ew : (((w : Int) == 1) : Bool) = (w == 1) := by
      by_cases h : w = 1
      · subst h; rfl
      · have h2 : ((w : Int) == 1) = false := by simp; omega
        rw [h2]; simp [h]
    rw [ew]
    match s, hsp with
    | .look _, _ => rfl
    | .br true _, _ => rfl
    | .br false _, _ => rfl
  obtain ⟨p, i, b1, rfl, hb1, hs1, ⟨hb, e⟩ | ⟨hb, e, blk, hblk⟩⟩ := flowF_case hP hq hs hw
  · refine pure_tup fn_flow (by decide) (lf3 (prD_lf n b) rfl rfl) rfl (env' := [some (prD n b), some (.int (k : Int)), some (.int (w : Int)), some (pD (p ++ [i])), some (.str s.word)]) (st' := []) ?_ (fun _ z => by unfold fres at z; cases z) (fres_lf _)
    show b_flow (CX (M + 3)) [some (prD n b), some (.int (k : Int)), some (.int (w : Int)), none, none] [] = _
    unfold b_flow
    rw [seq_nx h0, seq_nx h1, e]
    refine seq_rt ((if_t (by rw [ht, hb])).trans (ret_run (call_run (lcons_run (var_run rfl) (lcons_run (slc_last (l := p.map fun (k : Nat) => D.int (k : Int)) (d := .int (i : Int)) (var_run (by rw [pD_snoc]; rfl))) (lcons_run (bin_run (x := .int (i : Int)) (y := .int 1) (bin_run (y := .int (-1)) (var_run rfl) rfl (by rw [pD_snoc]; exact ix_last _)) rfl rfl) lnil_run))) (flow_on_run (i := i + 1) hP hb1 (List.getElem?_eq_some_iff.mp hs1).1 (N := M + 2) (by omega) []))))
  · refine pure_tup fn_flow (by decide) (lf3 (prD_lf n b) rfl rfl) rfl (env' := [some (prD n b), some (.int (k : Int)), some (.int (w : Int)), some (pD (p ++ [i])), some (.str s.word)]) (st' := []) ?_ (fun _ z => by unfold fres at z; cases z) (fres_lf _)
    show b_flow (CX (M + 3)) [some (prD n b), some (.int (k : Int)), some (.int (w : Int)), none, none] [] = _
    unfold b_flow
    have hsh := spot_short hP hs
    rw [seq_nx h0, seq_nx h1, e, seq_nx (a := b_flow_2) ((if_f (by rw [ht, hb])).trans rfl)]
    exact ret_run (call_run (lcons_run (var_run rfl) (lcons_run (bin_run (var_run rfl) (tup_run (lcons_run (var_run rfl) lnil_run) lim1) (by rw [← pD_app (p ++ [i]) [w]]; exact tadd_run (l := (p ++ [i]).map fun (k : Nat) => D.int (k : Int)) (m := [.int (w : Int)]) _ (by rw [pD_len]; show (p ++ [i]).length + 1 < lim; rw [lim_eq]; omega))) (lcons_run (x := .int 0) rfl lnil_run))) (flow_on_run (i := 0) hP hblk (Nat.zero_le _) (N := M + 2) (by omega) []))
end MI

set_option autoImplicit false
set_option maxRecDepth 100000
set_option linter.all false
/-! R6: run_on, over any state. -/
namespace MI
open PySem
theorem fn_run_on : prog.fns[F_run_on]? = some ⟨3, 9, b_run_on⟩ := rfl
/-- a kind of state: its objects (it stands at 0), what it does -/
structure Mach (n : Nat) where
  σ : Type
  ob : σ → Stt
  L : Nat
  /-- good for so many more statements -/
  inv : Nat → σ → Prop
  act : σ → Pl → σ
  shown : σ → Nat → D
  len : ∀ s, (ob s).length = L
  weak : ∀ k k' s, inv k s → k' ≤ k → inv k' s
  keep : ∀ k s x, inv (k + 1) s → x.ok n → inv k (act s x)
  Fd : Nat
  Fs : Nat
  resd : ∀ N s rest, opRes (CX N) w_do (.loc 0) (ob s ++ rest) = some (.ok Fd, ob s ++ rest)
  ress : ∀ N s rest, opRes (CX N) w_shown (.loc 0) (ob s ++ rest) = some (.ok Fs, ob s ++ rest)
  calld : ∀ N k s x rest, inv (k + 1) s → x.ok n → prog.call 3000 (N + 8) Fd [.loc 0, x.d] (ob s ++ rest) = some (.ok .non, ob (act s x) ++ rest)
  calls : ∀ N k s x rest, inv k s → x < n → prog.call 3000 (N + 8) Fs [.loc 0, .int (x : Int)] (ob s ++ rest) = some (.ok (shown s x), ob s ++ rest)
theorem meth_run {a : SE} {l : SL} {m : List Nat} {c : Ctx} {env : Env} {st st1 st2 : Stt} {x : D} {f : Nat} {xs : List D} {r : Option (Rs D × Stt)} (ha : a c env st = some (.ok x, st1)) (hr : opRes c m x st1 = some (.ok f, st1)) (hl : l c env st1 = some (.ok xs, st2)) (hc : c.call f (x :: xs) st2 = r) : eMeth a m l c env st = r := by
  unfold eMeth
  rw [bnd_ok ha, bnd_ok hr, bnd_ok hl]
  exact hc
inductive RunEnd where
  | fin
  | open_ (k : Nat)
  | astray (k : Nat)
def RunEnd.d : RunEnd → D
  | .fin => .tup [.str w_end]
  | .open_ k => .tup [.str w_open, .int (k : Int)]
  | .astray k => .tup [.str w_astray, .int (k : Int)]
def endOf : Option Nat → RunEnd
  | none => .fin
  | some k => .open_ k
def lookD (x : Nat × D) : D := .tup [.int (x.1 : Int), x.2]
def Stm.look? : Stm → Option Nat
  | .look x => some x
  | _ => none
section
variable {n : Nat} (M : Mach n)
def Mach.acts (s : M.σ) (xs : List Pl) : M.σ := xs.foldl M.act s
/-- a run from a spot on: what is shown, the end, the state there -/
def Mach.runW {n : Nat} (M : Mach n) (b : List Stm) : List Nat → Option Nat → M.σ → List (Nat × D) → List (Nat × D) × RunEnd × M.σ
  | [], o, s, lk => (lk, endOf o, s)
  | _ :: _, none, s, lk => (lk, .fin, s)
  | w :: ws, some k, s, lk => match stAt b ((spots b)[k]?.getD []) with
    | none => (lk, .fin, s)
    | some t => if t.ways ≤ w then (lk, .astray k, s)
      else M.runW b ws (flowF b k w).2 (M.acts s (flowF b k w).1) (match t.look? with
        | some x => lk ++ [(k, M.shown s x)]
        | none => lk)
theorem runW_some (b : List Stm) (w : Nat) (ws : List Nat) (k : Nat) (s : M.σ) (lk : List (Nat × D)) : M.runW b (w :: ws) (some k) s lk = (match stAt b ((spots b)[k]?.getD []) with
    | none => (lk, .fin, s)
    | some t => if t.ways ≤ w then (lk, .astray k, s)
      else M.runW b ws (flowF b k w).2 (M.acts s (flowF b k w).1) (match t.look? with
        | some x => lk ++ [(k, M.shown s x)]
        | none => lk)) := by rw [Mach.runW]
def Mach.run (b : List Stm) (ws : List Nat) (s : M.σ) : List (Nat × D) × RunEnd × M.σ := M.runW b ws (flowS b).2 (M.acts s (flowS b).1) []
def resD (r : List (Nat × D) × RunEnd) : D := .tup [.tup (r.1.map lookD), r.2.d]
theorem acts_inv : ∀ (xs : List Pl) (s : M.σ) (k : Nat), M.inv (xs.length + k) s → (∀ x ∈ xs, x.ok n) → M.inv k (M.acts s xs)
  | [], s, k, h, _ => M.weak _ _ _ h (by simp)
  | x :: xs, s, k, h, hx => acts_inv xs (M.act s x) k (M.keep _ s x (by rw [List.length_cons] at h; rw [show xs.length + k + 1 = xs.length + 1 + k by omega]; exact h) (hx x (by simp))) fun y hy => hx y (by simp [hy])
theorem acts_take {s : M.σ} {xs : List Pl} {i : Nat} {x : Pl} (h : xs[i]? = some x) : M.acts s (xs.take (i + 1)) = M.act (M.acts s (xs.take i)) x := by
  obtain ⟨hi, e⟩ := List.getElem?_eq_some_iff.mp h
  unfold Mach.acts
  rw [List.take_succ_eq_append_getElem hi, List.foldl_append, e]; rfl
variable {M}
abbrev doB : SS := (sExpr (eMeth (eVar 1) w_do (lCons (eVar 6) lNil)))
/-- the walk over what is passed -/
theorem do_loop {N k : Nat} {xs : List Pl} {s : M.σ} {x0 x2 x3 x5 x6 x7 x8 : Option D} {rest : Stt} (hs : M.inv (xs.length + k) s) (hx : ∀ x ∈ xs, x.ok n) (hl : xs.length ≤ 200) :
    ∃ x6', sFor (gVar 6) (iSeq (eVar 4)) doB (CX (N + 8)) [x0, some (.loc 0), x2, x3, some (.tup (xs.map Pl.d)), x5, x6, x7, x8] (M.ob s ++ rest) = some (.nx, [x0, some (.loc 0), x2, x3, some (.tup (xs.map Pl.d)), x5, x6', x7, x8], M.ob (M.acts s xs) ++ rest) := by
  obtain ⟨env', st', e, x6', rfl, rfl⟩ := for_inv (g := gVar 6) (it := iSeq (eVar 4)) (b := doB) (c := CX (N + 8)) (env := [x0, some (.loc 0), x2, x3, some (.tup (xs.map Pl.d)), x5, x6, x7, x8]) (st := M.ob s ++ rest) (l := xs.map Pl.d)
    (fun i env st => ∃ x6, env = [x0, some (.loc 0), x2, x3, some (.tup (xs.map Pl.d)), x5, x6, x7, x8] ∧ st = M.ob (M.acts s (xs.take i)) ++ rest) (seq_tup (var_run rfl)) ⟨x6, rfl, rfl⟩ (by rw [List.length_map]; show xs.length < 3000; omega) (by
      rintro i d env st hd ⟨x6, rfl, rfl⟩
      rw [List.getElem?_map] at hd
      obtain ⟨x, hi, rfl⟩ := Option.map_eq_some_iff.mp hd
      have hxm := List.mem_of_getElem? hi
      refine ⟨_, _, turn_var (by show 6 < 9; decide) (expr_run (meth_run (var_run rfl) (M.resd _ _ _) (lcons_run (var_run rfl) lnil_run) (M.calld N 0 _ x rest (acts_inv M _ _ 1 (M.weak _ _ _ hs (by have := (List.getElem?_eq_some_iff.mp hi).1; simp; omega)) fun y hy => hx y (List.mem_of_mem_take hy)) (hx x hxm)))), some x.d, rfl, ?_⟩
      rw [acts_take M hi])
  rw [List.length_map, List.take_length] at e
  exact ⟨x6', e⟩
abbrev lookB : SS := sIf (cB (eBin opEq (eBin opIx (eVar 8) (eC (.int 0))) (eC (.str w_look))))
  (sExpr (eMt1 isLst mAppend (eVar 3) (eTup (lCons (eVar 5) (lCons (eMeth (eVar 1) w_shown (lCons (eBin opIx (eVar 8) (eC (.int 1))) lNil)) lNil)))))
  sPass
abbrev turnB : SS := (sSeq (sIf (cB (eUn opIsN (eVar 5)))
  sBrk
  sPass)
  (sSeq (sIf (cB (eBin opGe (eVar 7) (eCall F_way_count (lCons (eVar 0) (lCons (eVar 5) lNil)))))
  (sRet (eTup (lCons (eUn bTuple (eVar 3)) (lCons (eTup (lCons (eC (.str w_astray)) (lCons (eVar 5) lNil))) lNil))))
  sPass)
  (sSeq (sSet 8 (eBin opIx (eCall F_spots_of (lCons (eVar 0) lNil)) (eVar 5)))
  (sSeq (sIf (cB (eBin opEq (eBin opIx (eVar 8) (eC (.int 0))) (eC (.str w_look))))
  (sExpr (eMt1 isLst mAppend (eVar 3) (eTup (lCons (eVar 5) (lCons (eMeth (eVar 1) w_shown (lCons (eBin opIx (eVar 8) (eC (.int 1))) lNil)) lNil)))))
  sPass)
  (sSeq (sAsg (gTup 2 (gCons (gVar 4) (gCons (gVar 5) gNil))) (eCall F_flow (lCons (eVar 0) (lCons (eVar 5) (lCons (eVar 7) lNil)))))
  (sFor (gVar 6) (iSeq (eVar 4)) doB))))))
def kont (c : Ctx) (r : Option (Fl × Env × Stt)) : Option (Fl × Env × Stt) := match r with
  | some (.nx, e, s) => b_run_on_4 c e s
  | r => r
theorem asg_two {i j : Nat} {e : SE} {c : Ctx} {env : Env} {st st1 : Stt} {x y : D} (he : e c env st = some (.ok (.tup [x, y]), st1)) (hi : i < env.length) (hj : j < env.length) : sAsg (gTup 2 (gCons (gVar i) (gCons (gVar j) gNil))) e c env st = some (.nx, (env.set i (some x)).set j (some y), st1) := by
  have hj' : j < (env.set i (some x)).length := by simpa using hj
  unfold sAsg sBnd
  rw [he]
  simp only [gTup, List.length_cons, List.length_nil, if_true, gCons, gVar, hi, hj', gNil]
theorem ge_run (i l : Nat) (st : Stt) : opGe (.int (i : Int)) (.int (l : Int)) st = some (.ok (.bl (decide (l ≤ i))), st) := by
  simp only [opGe, Int.ofNat_le]
theorem look_word (t : Stm) (h : t.isSpot = true) : (t.word == w_look) = t.look?.isSome := by
  match t, h with
  | .look x, _ => rfl
  | .br true _, _ => rfl
  | .br false _, _ => rfl
theorem word_ascii (s : Stm) : (s.word.all (· < 1114112)) = true := by
  match s with
  | .pl (.fresh _) => rfl
  | .pl (.give _ _ _) => rfl
  | .pl (.change _ _ _) => rfl
  | .look _ => rfl
  | .br true _ => rfl
  | .br false _ => rfl
theorem ob_get (s : M.σ) (l : List D) : (M.ob s ++ [Ob.lst l])[M.L]? = some (.lst l) := by rw [← M.len s]; simp
theorem ob_set (s : M.σ) (l m : List D) : (M.ob s ++ [Ob.lst l]).set M.L (.lst m) = M.ob s ++ [.lst m] := by rw [← M.len s]; simp
theorem run_loop {b : List Stm} (hP : PrOk n b) {N kk : Nat} (hN : 11 < N) {wd : D} {full : List D} : ∀ (ws : List Nat) (i : Nat) (F : Nat) (o : Option Nat) (s : M.σ) (lk : List (Nat × D)) (x4 x6 x7 x8 : Option D), full.drop i = ws.map (fun (k : Nat) => D.int (k : Int)) → i + ws.length = full.length → ws.length < F → M.inv (200 * ws.length + kk) s → (∀ k, o = some k → k < (spots b).length) → lk.length + ws.length ≤ 3000 →
    ∃ env' l', kont (CX N) (forL (.items full) (turnOf (gVar 7) turnB (CX N)) F i [some (prD n b), some (.loc 0), some wd, some (.loc M.L), x4, some (spD o), x6, x7, x8] (M.ob s ++ [.lst (lk.map lookD)])) = some (.rt (resD ((M.runW b ws o s lk).1, (M.runW b ws o s lk).2.1)), env', M.ob (M.runW b ws o s lk).2.2 ++ [.lst l']) ∧ M.inv kk (M.runW b ws o s lk).2.2 := by
  have fin : ∀ (o : Option Nat) (s : M.σ) (lk : List (Nat × D)) (x4 x6 x7 x8 : Option D), b_run_on_4 (CX N) [some (prD n b), some (.loc 0), some wd, some (.loc M.L), x4, some (spD o), x6, x7, x8] (M.ob s ++ [.lst (lk.map lookD)]) = some (.rt (resD (lk, endOf o)), [some (prD n b), some (.loc 0), some wd, some (.loc M.L), x4, some (spD o), x6, x7, x8], M.ob s ++ [.lst (lk.map lookD)]) := by
    intro o s lk x4 x6 x7 x8
    have ht : (eUn bTuple (eVar 3)) (CX N) [some (prD n b), some (.loc 0), some wd, some (.loc M.L), x4, some (spD o), x6, x7, x8] (M.ob s ++ [.lst (lk.map lookD)]) = some (.ok (.tup (lk.map lookD)), M.ob s ++ [.lst (lk.map lookD)]) := tuple_loc (var_run rfl) (ob_get s _)
    refine ret_run (tup_run (lcons_run ht (lcons_run (x := (endOf o).d) ?_ lnil_run)) lim2)
    cases o <;> rfl
  intro ws
  induction ws with
  | nil =>
    intro i F o s lk x4 x6 x7 x8 hd hi hF hs ho hlk
    obtain ⟨F, rfl⟩ : ∃ G, F = G + 1 := ⟨F - 1, by simp at hF; omega⟩
    have e : full[i]? = none := List.getElem?_eq_none_iff.mpr (by simp at hi; omega)
    have key : kont (CX N) (forL (.items full) (turnOf (gVar 7) turnB (CX N)) (F + 1) i [some (prD n b), some (.loc 0), some wd, some (.loc M.L), x4, some (spD o), x6, x7, x8] (M.ob s ++ [.lst (lk.map lookD)])) = b_run_on_4 (CX N) [some (prD n b), some (.loc 0), some wd, some (.loc M.L), x4, some (spD o), x6, x7, x8] (M.ob s ++ [.lst (lk.map lookD)]) := by
      rw [forL]
      simp only [srcAt, e]
      rfl
    exact ⟨_, _, key.trans (fin o s lk x4 x6 x7 x8), M.weak _ _ _ hs (by omega)⟩
  | cons w ws ih =>
    intro i F o s lk x4 x6 x7 x8 hd hi hF hs ho hlk
    obtain ⟨F, rfl⟩ : ∃ G, F = G + 1 := ⟨F - 1, by omega⟩
    have hil : i < full.length := by simp at hi; omega
    have e : full[i]? = some (.int (w : Int)) := by
      have := List.drop_eq_getElem_cons hil
      rw [this] at hd
      simp only [List.map_cons, List.cons.injEq] at hd
      rw [List.getElem?_eq_getElem hil, hd.1]
    have hd2 : full.drop (i + 1) = ws.map (fun (k : Nat) => D.int (k : Int)) := by
      have := List.drop_eq_getElem_cons hil
      rw [this] at hd
      simp only [List.map_cons, List.cons.injEq] at hd
      exact hd.2
    cases o with
    | none =>
      have hT : turnOf (gVar 7) turnB (CX N) (.int (w : Int)) [some (prD n b), some (.loc 0), some wd, some (.loc M.L), x4, some (spD none), x6, x7, x8] (M.ob s ++ [.lst (lk.map lookD)]) = some (.bk, [some (prD n b), some (.loc 0), some wd, some (.loc M.L), x4, some (spD none), x6, some (.int (w : Int)), x8], M.ob s ++ [.lst (lk.map lookD)]) := turn_var (by show 7 < 9; decide) rfl
      have key : kont (CX N) (forL (.items full) (turnOf (gVar 7) turnB (CX N)) (F + 1) i [some (prD n b), some (.loc 0), some wd, some (.loc M.L), x4, some (spD none), x6, x7, x8] (M.ob s ++ [.lst (lk.map lookD)])) = b_run_on_4 (CX N) [some (prD n b), some (.loc 0), some wd, some (.loc M.L), x4, some (spD none), x6, some (.int (w : Int)), x8] (M.ob s ++ [.lst (lk.map lookD)]) := by
        rw [forL]
        simp only [srcAt, e, hT]
        rfl
      exact ⟨_, _, key.trans (fin none s lk x4 x6 _ x8), M.weak _ _ _ hs (by omega)⟩
    | some k =>
      have hk := ho k rfl
      have hq : (spots b)[k]? = some (spots b)[k] := List.getElem?_eq_getElem hk
      obtain ⟨t, ht, hsp⟩ := spot_get hq
      generalize (spots b)[k] = q at hq ht
      obtain ⟨K, rfl⟩ : ∃ K, N = K + 11 := ⟨N - 11, by omega⟩
      have er : ∀ ws, M.runW b (w :: ws) (some k) s lk = (if t.ways ≤ w then (lk, .astray k, s)
        else M.runW b ws (flowF b k w).2 (M.acts s (flowF b k w).1) (match t.look? with
          | some x => lk ++ [(k, M.shown s x)]
          | none => lk)) := fun ws => by rw [Mach.runW, hq]; simp only [Option.getD_some, ht]
      rw [er]
      have s1 : ∀ st, sIf (cB (eUn opIsN (eVar 5))) sBrk sPass (CX (K + 11)) [some (prD n b), some (.loc 0), some wd, some (.loc M.L), x4, some (spD (some k)), x6, some (.int (w : Int)), x8] st = some (.nx, [some (prD n b), some (.loc 0), some wd, some (.loc M.L), x4, some (spD (some k)), x6, some (.int (w : Int)), x8], st) := fun st => rfl
      have t2 : ∀ st, (cB (eBin opGe (eVar 7) (eCall F_way_count (lCons (eVar 0) (lCons (eVar 5) lNil))))) (CX (K + 11)) [some (prD n b), some (.loc 0), some wd, some (.loc M.L), x4, some (spD (some k)), x6, some (.int (w : Int)), x8] st = some (.ok (decide (t.ways ≤ w)), st) := fun st =>
        cB_run (bin_run (var_run rfl) (call_run (lcons_run (var_run rfl) (lcons_run (var_run rfl) lnil_run)) (way_count_run hP hq ht (N := K + 10) (by omega) st)) (ge_run _ _ _))
      by_cases hw : t.ways ≤ w
      · rw [if_pos hw]
        have hT : turnOf (gVar 7) turnB (CX (K + 11)) (.int (w : Int)) [some (prD n b), some (.loc 0), some wd, some (.loc M.L), x4, some (spD (some k)), x6, x7, x8] (M.ob s ++ [.lst (lk.map lookD)]) = some (.rt (resD (lk, .astray k)), [some (prD n b), some (.loc 0), some wd, some (.loc M.L), x4, some (spD (some k)), x6, some (.int (w : Int)), x8], M.ob s ++ [.lst (lk.map lookD)]) := by
          refine turn_var (by show 7 < 9; decide) ((seq_nx (s1 _)).trans (seq_rt ((if_t (by rw [t2, decide_eq_true hw])).trans (ret_run (tup_run (lcons_run (tuple_loc (var_run rfl) (ob_get s _)) (lcons_run (x := (RunEnd.astray k).d) rfl lnil_run)) lim2)))))
        have key : kont (CX (K + 11)) (forL (.items full) (turnOf (gVar 7) turnB (CX (K + 11))) (F + 1) i [some (prD n b), some (.loc 0), some wd, some (.loc M.L), x4, some (spD (some k)), x6, x7, x8] (M.ob s ++ [.lst (lk.map lookD)])) = some (.rt (resD (lk, .astray k)), [some (prD n b), some (.loc 0), some wd, some (.loc M.L), x4, some (spD (some k)), x6, some (.int (w : Int)), x8], M.ob s ++ [.lst (lk.map lookD)]) := by
          rw [forL]
          simp only [srcAt, e, hT]
          rfl
        exact ⟨_, _, key, M.weak _ _ _ hs (by omega)⟩
      · rw [if_neg hw]
        have hw' : w < t.ways := by omega
        have fok := flowF_ok hP hq ht hw'
        have s2 : ∀ st, sIf (cB (eBin opGe (eVar 7) (eCall F_way_count (lCons (eVar 0) (lCons (eVar 5) lNil))))) (sRet (eTup (lCons (eUn bTuple (eVar 3)) (lCons (eTup (lCons (eC (.str w_astray)) (lCons (eVar 5) lNil))) lNil)))) sPass (CX (K + 11)) [some (prD n b), some (.loc 0), some wd, some (.loc M.L), x4, some (spD (some k)), x6, some (.int (w : Int)), x8] st = some (.nx, [some (prD n b), some (.loc 0), some wd, some (.loc M.L), x4, some (spD (some k)), x6, some (.int (w : Int)), x8], st) := fun st =>
          (if_f (by rw [t2, decide_eq_false hw])).trans rfl
        have s3 : ∀ st, (sSet 8 (eBin opIx (eCall F_spots_of (lCons (eVar 0) lNil)) (eVar 5))) (CX (K + 11)) [some (prD n b), some (.loc 0), some wd, some (.loc M.L), x4, some (spD (some k)), x6, some (.int (w : Int)), x8] st = some (.nx, [some (prD n b), some (.loc 0), some wd, some (.loc M.L), x4, some (spD (some k)), x6, some (.int (w : Int)), some t.d], st) := fun st =>
          set_run (bin_run (call_run (lcons_run (var_run rfl) lnil_run) (spots_of_run hP (N := K + 9) (by omega) st)) (var_run rfl) (ix_frz _ (by rw [List.getElem?_map, hq]; exact congrArg some (stD_some ht)))) (by show 8 < 9; decide)
        have t4 : ∀ st, (cB (eBin opEq (eBin opIx (eVar 8) (eC (.int 0))) (eC (.str w_look)))) (CX (K + 11)) [some (prD n b), some (.loc 0), some wd, some (.loc M.L), x4, some (spD (some k)), x6, some (.int (w : Int)), some t.d] st = some (.ok t.look?.isSome, st) := fun st => by
          rw [← look_word t hsp]
          exact cB_run (bin_run (y := .str w_look) (bin_run (y := .int 0) (var_run rfl) rfl (word_run t _)) rfl (eqs _ _ (word_ascii t) (by decide) _))
        obtain ⟨lk', elk, hlk', s4⟩ : ∃ lk', lk' = (match t.look? with
          | some x => lk ++ [(k, M.shown s x)]
          | none => lk) ∧ lk'.length ≤ lk.length + 1 ∧ lookB (CX (K + 11)) [some (prD n b), some (.loc 0), some wd, some (.loc M.L), x4, some (spD (some k)), x6, some (.int (w : Int)), some t.d] (M.ob s ++ [.lst (lk.map lookD)]) = some (.nx, [some (prD n b), some (.loc 0), some wd, some (.loc M.L), x4, some (spD (some k)), x6, some (.int (w : Int)), some t.d], M.ob s ++ [.lst (lk'.map lookD)]) := by
          cases hlk : t.look? with
          | none => exact ⟨lk, rfl, by omega, (if_f (by rw [t4, hlk]; rfl)).trans rfl⟩
          | some x =>
            refine ⟨lk ++ [(k, M.shown s x)], rfl, by simp, (if_t (by rw [t4, hlk]; rfl)).trans ?_⟩
            have ht' : t = .look x := by
              match t, hlk with
              | .look y, h => cases h; rfl
            subst ht'
            obtain ⟨kk, hok⟩ := stAt_ok hP ht
            have hx : x < n := by cases kk <;> exact hok
            have ap := append_run (c := CX (K + 11)) (st := M.ob s ++ [.lst (lk.map lookD)]) (a := eVar 3) (b := (eTup (lCons (eVar 5) (lCons (eMeth (eVar 1) w_shown (lCons (eBin opIx (eVar 8) (eC (.int 1))) lNil)) lNil)))) (env := [some (prD n b), some (.loc 0), some wd, some (.loc M.L), x4, some (spD (some k)), x6, some (.int (w : Int)), some (Stm.look x).d]) (k := M.L) (y := lookD (k, M.shown s x)) (var_run rfl) (ob_get s _)
              (tup_run (lcons_run (var_run rfl) (lcons_run (meth_run (var_run rfl) (M.ress _ _ _) (lcons_run (x := .int (x : Int)) rfl lnil_run) (M.calls (K + 3) _ s x _ hs hx)) lnil_run)) lim2) (ob_get s _) (by rw [List.length_map, lim_eq]; omega)
            rw [ob_set] at ap
            refine (expr_run ap).trans ?_
            rw [List.map_append]; rfl
        have s5 : ∀ st, sAsg (gTup 2 (gCons (gVar 4) (gCons (gVar 5) gNil))) (eCall F_flow (lCons (eVar 0) (lCons (eVar 5) (lCons (eVar 7) lNil)))) (CX (K + 11)) [some (prD n b), some (.loc 0), some wd, some (.loc M.L), x4, some (spD (some k)), x6, some (.int (w : Int)), some t.d] st = some (.nx, [some (prD n b), some (.loc 0), some wd, some (.loc M.L), some (.tup ((flowF b k w).1.map Pl.d)), some (spD (flowF b k w).2), x6, some (.int (w : Int)), some t.d], st) := fun st =>
          asg_two (call_run (lcons_run (var_run rfl) (lcons_run (var_run rfl) (lcons_run (var_run rfl) lnil_run))) (flow_run hP hq ht hw' (N := K + 9) (by omega) st)) (by show 4 < 9; decide) (by show 5 < 9; decide)
        have hs2 : M.inv ((flowF b k w).1.length + (200 * ws.length + kk)) s := M.weak _ _ _ hs (by have := fok.few; simp only [List.length_cons]; omega)
        obtain ⟨x6', s6⟩ := do_loop (M := M) (N := K + 3) (xs := (flowF b k w).1) (s := s) (x0 := some (prD n b)) (x2 := some wd) (x3 := some (.loc M.L)) (x5 := some (spD (flowF b k w).2)) (x6 := x6) (x7 := some (.int (w : Int))) (x8 := some t.d) (rest := [.lst (lk'.map lookD)]) hs2 fok.pls fok.few
        have hT : turnOf (gVar 7) turnB (CX (K + 11)) (.int (w : Int)) [some (prD n b), some (.loc 0), some wd, some (.loc M.L), x4, some (spD (some k)), x6, x7, x8] (M.ob s ++ [.lst (lk.map lookD)]) = some (.nx, [some (prD n b), some (.loc 0), some wd, some (.loc M.L), some (.tup ((flowF b k w).1.map Pl.d)), some (spD (flowF b k w).2), x6', some (.int (w : Int)), some t.d], M.ob (M.acts s (flowF b k w).1) ++ [.lst (lk'.map lookD)]) :=
          turn_var (by show 7 < 9; decide) ((seq_nx (s1 _)).trans ((seq_nx (s2 _)).trans ((seq_nx (s3 _)).trans ((seq_nx s4).trans ((seq_nx (s5 _)).trans s6)))))
        rw [← elk]
        obtain ⟨env', l', h1, h2⟩ := ih (i + 1) F (flowF b k w).2 (M.acts s (flowF b k w).1) lk' (some (.tup ((flowF b k w).1.map Pl.d))) x6' (some (.int (w : Int))) (some t.d) hd2 (by simp at hi; omega) (by simp at hF; omega) (acts_inv M _ _ _ hs2 fok.pls) fok.spot (by simp at hlk; omega)
        refine ⟨env', l', ?_, h2⟩
        · rw [forL]
          simp only [srcAt, e, hT]
          exact h1
theorem run_on_run {b : List Stm} (hP : PrOk n b) {N kk : Nat} (hN : 11 < N) (ws : List Nat) (hw : ws.length ≤ 2000) {s : M.σ} (hs : M.inv (200 * (ws.length + 1) + kk) s) : ∃ l', prog.call 3000 (N + 1) F_run_on [prD n b, .loc 0, pD ws] (M.ob s) = some (.ok (resD ((M.run b ws s).1, (M.run b ws s).2.1)), M.ob (M.run b ws s).2.2 ++ [.lst l']) ∧ M.inv kk (M.run b ws s).2.2 := by
  have fok := flowS_ok hP
  have hs2 : M.inv ((flowS b).1.length + (200 * ws.length + kk)) s := M.weak _ _ _ hs (by have := fok.few; omega)
  obtain ⟨K, rfl⟩ : ∃ K, N = K + 11 := ⟨N - 11, by omega⟩
  have h0 : b_run_on_0 (CX (K + 11)) [some (prD n b), some (.loc 0), some (pD ws), none, none, none, none, none, none] (M.ob s) = some (.nx, [some (prD n b), some (.loc 0), some (pD ws), some (.loc M.L), none, none, none, none, none], M.ob s ++ [.lst []]) := by
    rw [← M.len s]; rfl
  have h1 : b_run_on_1 (CX (K + 11)) [some (prD n b), some (.loc 0), some (pD ws), some (.loc M.L), none, none, none, none, none] (M.ob s ++ [.lst []]) = some (.nx, [some (prD n b), some (.loc 0), some (pD ws), some (.loc M.L), some (.tup ((flowS b).1.map Pl.d)), some (spD (flowS b).2), none, none, none], M.ob s ++ [.lst []]) :=
    asg_two (call_run (lcons_run (var_run rfl) lnil_run) (flow_start_run hP (N := K + 9) (by omega) _)) (by show 4 < 9; decide) (by show 5 < 9; decide)
  obtain ⟨x6, h2⟩ := do_loop (M := M) (N := K + 3) (xs := (flowS b).1) (s := s) (x0 := some (prD n b)) (x2 := some (pD ws)) (x3 := some (.loc M.L)) (x5 := some (spD (flowS b).2)) (x6 := none) (x7 := none) (x8 := none) (rest := [.lst []]) hs2 fok.pls fok.few
  obtain ⟨env', l', h3, hinv⟩ := run_loop (M := M) hP hN (wd := pD ws) (full := ws.map fun (k : Nat) => D.int (k : Int)) ws 0 3000 (flowS b).2 (M.acts s (flowS b).1) [] (some (.tup ((flowS b).1.map Pl.d))) x6 none none (by simp) (by simp) (by omega) (acts_inv M _ _ _ hs2 fok.pls) fok.spot (by simp; omega)
  refine ⟨l', ?_, hinv⟩
  rw [call_np fn_run_on (by decide)]
  refine run_rt rfl (env' := env') ?_
  show b_run_on (CX (K + 11)) [some (prD n b), some (.loc 0), some (pD ws), none, none, none, none, none, none] (M.ob s) = _
  unfold b_run_on
  rw [seq_nx h0, seq_nx h1, seq_nx (a := b_run_on_2) h2]
  have e3 : b_run_on_3 (CX (K + 11)) [some (prD n b), some (.loc 0), some (pD ws), some (.loc M.L), some (.tup ((flowS b).1.map Pl.d)), some (spD (flowS b).2), x6, none, none] (M.ob (M.acts s (flowS b).1) ++ [.lst []]) = forL (.items (ws.map fun (k : Nat) => D.int (k : Int))) (turnOf (gVar 7) turnB (CX (K + 11))) 3000 0 [some (prD n b), some (.loc 0), some (pD ws), some (.loc M.L), some (.tup ((flowS b).1.map Pl.d)), some (spD (flowS b).2), x6, none, none] (M.ob (M.acts s (flowS b).1) ++ [.lst []]) :=
    for_run (seq_tup (var_run rfl)) rfl
  unfold sSeq
  rw [e3]
  exact h3
end
end MI

set_option autoImplicit false
set_option maxRecDepth 100000
set_option linter.all false
/-! R7: the store's methods run. -/
namespace MI
open PySem
theorem fn_St_free : prog.fns[F_Store__free_slot]? = some ⟨1, 2, b_Store__free_slot⟩ := rfl
theorem fn_St_alone : prog.fns[F_Store__is_alone]? = some ⟨2, 2, b_Store__is_alone⟩ := rfl
theorem fn_St_move : prog.fns[F_Store__move]? = some ⟨3, 3, b_Store__move⟩ := rfl
theorem fn_St_give : prog.fns[F_Store__give]? = some ⟨4, 5, b_Store__give⟩ := rfl
theorem fn_St_do : prog.fns[F_Store__do]? = some ⟨2, 2, b_Store__do⟩ := rfl
theorem fn_St_shown : prog.fns[F_Store__shown]? = some ⟨2, 2, b_Store__shown⟩ := rfl
def obL (cy : List Nat) (sl ct : List D) (cp : Nat) : Stt := [.ins C_Store [(w_copying, pD cy), (w_slots, .loc 1), (w_contents, .loc 3), (w_copies, .int (cp : Int))], .lst sl, .lst [.tup []], .lst ct]
section
variable {cy : List Nat} {sl ct : List D} {cp : Nat} {rest : Stt} {c : Ctx} {env : Env}
theorem f_slots : eFld (eVar 0) w_slots c (some (.loc 0) :: env) (obL cy sl ct cp ++ rest) = some (.ok (.loc 1), obL cy sl ct cp ++ rest) := by kernel_rfl
theorem f_contents : eFld (eVar 0) w_contents c (some (.loc 0) :: env) (obL cy sl ct cp ++ rest) = some (.ok (.loc 3), obL cy sl ct cp ++ rest) := by kernel_rfl
theorem f_copying : eFld (eVar 0) w_copying c (some (.loc 0) :: env) (obL cy sl ct cp ++ rest) = some (.ok (pD cy), obL cy sl ct cp ++ rest) := by kernel_rfl
theorem ob1 : (obL cy sl ct cp ++ rest)[1]? = some (.lst sl) := rfl
theorem ob3 : (obL cy sl ct cp ++ rest)[3]? = some (.lst ct) := rfl
theorem ob1s (l : List D) : (obL cy sl ct cp ++ rest).set 1 (.lst l) = obL cy l ct cp ++ rest := rfl
theorem ob3s (l : List D) : (obL cy sl ct cp ++ rest).set 3 (.lst l) = obL cy sl l cp ++ rest := rfl
theorem asg_sub {a i e : SE} {st st1 : Stt} {k j : Nat} {l : List D} {d : D} (he : e c env st = some (.ok d, st1)) (ha : a c env st1 = some (.ok (.loc k), st1)) (hi : i c env st1 = some (.ok (.int (j : Int)), st1)) (hk : st1[k]? = some (.lst l)) (hj : j < l.length) :
    sAsg (gSub a i) e c env st = some (.nx, env, st1.set k (.lst (l.set j d))) := by
  unfold sAsg sBnd
  rw [he]
  simp only [gSub, gBnd, ha, hi, putIx, setIx, hk, ixN_ofNat hj]
theorem subaug_run {a i e : SE} {g : D → D → R D} {st : Stt} {k j : Nat} {l : List D} {v y u : D} (ha : a c env st = some (.ok (.loc k), st)) (hi : i c env st = some (.ok (.int (j : Int)), st)) (hk : st[k]? = some (.lst l)) (hj : l[j]? = some v) (he : e c env st = some (.ok y, st)) (hg : g v y st = some (.ok u, st)) :
    sSubAug a i g e c env st = some (.nx, env, st.set k (.lst (l.set j u))) := by
  have hl := (List.getElem?_eq_some_iff.mp hj).1
  unfold sSubAug sBnd
  simp only [ha, hi, opIxL, ix_loc hk hj, he, hg, endIx, setIx, hk, ixN_ofNat hl]
end
theorem cx_call (N f : Nat) (ds : List D) (st : Stt) : (CX N).call f ds st = prog.call 3000 N f ds st := rfl
/-- the least slot that is in no name's -/
def freeL (n : Nat) (sl : List (Option Nat)) : List Nat := (List.range n).filter fun k => !sl.contains (some k)
def freeN (n : Nat) (sl : List (Option Nat)) : Nat := (freeL n sl).headD 0
theorem least_head : ∀ (m : Int) (l : List Int), (∀ x ∈ l, m ≤ x) → leastI m l = m
  | m, [], _ => rfl
  | m, x :: r, h => by
    have hx := h x (by simp)
    rw [leastI, if_neg (by omega)]
    exact least_head m r fun y hy => h y (by simp [hy])
theorem ints_map : ∀ l : List Nat, ints? (l.map fun (k : Nat) => D.int (k : Int)) = some (l.map fun (k : Nat) => (k : Int))
  | [] => rfl
  | x :: l => by simp [ints?, ints_map l]
theorem freeL_min {n : Nat} {sl : List (Option Nat)} {k : Nat} {r : List Nat} (h : freeL n sl = k :: r) : (∀ x ∈ r, k ≤ x) ∧ k < n ∧ some k ∉ sl := by
  have hp : List.Pairwise (· < ·) (freeL n sl) := List.Pairwise.filter _ List.pairwise_lt_range
  rw [h] at hp
  have hm : k ∈ freeL n sl := by rw [h]; simp
  unfold freeL at hm
  rw [List.mem_filter] at hm
  refine ⟨fun x hx => Nat.le_of_lt ((List.pairwise_cons.mp hp).1 x hx), by simpa using hm.1, ?_⟩
  have := hm.2
  simpa using this
theorem pig : ∀ (n : Nat) (l : List Nat), (∀ k, k < n → k ∈ l) → n ≤ l.length
  | 0, _, _ => Nat.zero_le _
  | n + 1, l, h => by
    have hm := h n (Nat.lt_succ_self n)
    have := pig n (l.erase n) fun k hk => (List.mem_erase_of_ne (by omega)).mpr (h k (by omega))
    rw [List.length_erase_of_mem hm] at this
    have := List.length_pos_of_mem hm
    omega
theorem freeL_ne {n : Nat} {sl : List (Option Nat)} (h : ∃ k, k < n ∧ some k ∉ sl) : freeL n sl ≠ [] := fun e => by
  obtain ⟨k, hk, hn⟩ := h
  have : k ∈ freeL n sl := by
    unfold freeL
    rw [List.mem_filter]
    exact ⟨by simpa using hk, by simpa using hn⟩
  rw [e] at this
  simp at this
theorem freeN_ok {n : Nat} {sl : List (Option Nat)} (h : ∃ k, k < n ∧ some k ∉ sl) : freeN n sl < n ∧ some (freeN n sl) ∉ sl := by
  have := freeL_ne h
  unfold freeN
  cases e : freeL n sl with
  | nil => exact absurd e this
  | cons k r =>
    obtain ⟨_, h1, h2⟩ := freeL_min e
    exact ⟨h1, h2⟩
theorem spD_eqv (o : Option Nat) (k : Nat) : D.eqv (spD o) (.int (k : Int)) = (o == some k) := by
  cases o with
  | none => rfl
  | some j =>
    by_cases h : j = k
    · subst h; simp [spD, D.eqv]
    · have h2 : ((j : Int) == (k : Int)) = false := by simp; omega
      have h3 : (some j == some k) = false := by simp [h]
      simp only [spD, D.eqv, h2, h3]
theorem spDs_ok (n : Nat) : ∀ sl : List (Option Nat), D.okL n (sl.map spD) = true
  | [] => by simp [D.okL]
  | o :: sl => by cases o <;> simp [D.okL, spD, D.ok, spDs_ok n sl]
theorem any_spD (k : Nat) : ∀ sl : List (Option Nat), ((sl.map spD).any fun y => D.eqv y (.int (k : Int))) = sl.contains (some k)
  | [] => rfl
  | o :: sl => by
    rw [List.map_cons, List.any_cons, any_spD k sl, spD_eqv, List.contains_cons]
    rw [show (some k == o) = (o == some k) from Bool.beq_comm]
theorem range_items (n : Nat) : rangeL 0 (n : Int) = (List.range n).map fun (k : Nat) => D.int (k : Int) := by
  unfold rangeL
  simp
theorem range1_run {a : SE} {c : Ctx} {env : Env} {st st1 : Stt} {n : Nat} (h : a c env st = some (.ok (.int (n : Int)), st1)) (hn : n < lim) : iRange1 a c env st = some (.ok (.items ((List.range n).map fun (k : Nat) => D.int (k : Int))), st1) := by
  unfold iRange1
  rw [bnd_ok h]
  show (if -(lim : Int) < (n : Int) ∧ (n : Int) < lim then ret (Src.items (rangeL 0 (n : Int))) else fail) st1 = _
  rw [lim_eq] at hn
  rw [if_pos ⟨by rw [lim_eq]; omega, by rw [lim_eq]; omega⟩, range_items]; rfl
theorem len_loc {a : SE} {c : Ctx} {env : Env} {st : Stt} {k : Nat} {l : List D} (h : a c env st = some (.ok (.loc k), st)) (hk : st[k]? = some (.lst l)) : eUn bLen a c env st = some (.ok (.int (l.length : Int)), st) :=
  un_run h (by simp [bLen, hk])
theorem free_run {cy : List Nat} {sl : List (Option Nat)} {ct : List D} {cp : Nat} (rest : Stt) (hn : ct.length ≤ 100) (h : ∃ k, k < ct.length ∧ some k ∉ sl) (N : Nat) :
    (CX (N + 1)).call F_Store__free_slot [.loc 0] (obL cy (sl.map spD) ct cp ++ rest) = some (.ok (.int (freeN ct.length sl : Int)), obL cy (sl.map spD) ct cp ++ rest) := by
  rw [cx_call, call_np fn_St_free (by decide)]
  refine fr_rt (env := [some (.loc 0), none]) (env' := [some (.loc 0), none]) rfl rfl ?_
  have hc : eCompF [1] (gVar 1) (iRange1 (eUn bLen (eFld (eVar 0) w_contents))) (cB (eBin opNotIn (eVar 1) (eFld (eVar 0) w_slots))) (eVar 1) (CX N) [some (.loc 0), none] (obL cy (sl.map spD) ct cp ++ rest) = some (.ok (.frz ((freeL ct.length sl).map fun (k : Nat) => D.int (k : Int))), obL cy (sl.map spD) ct cp ++ rest) := by
    refine compF_mapG (xs := List.range ct.length) (g := fun (k : Nat) => D.int (k : Int)) (fun k => if (!sl.contains (some k)) = true then some (.int (k : Int)) else none) (range1_run (len_loc f_contents ob3) (by rw [lim_eq]; omega)) (fun k hk => ?_) (by rw [List.length_range]; show ct.length < 3000; omega) (by rw [List.length_range, lim_eq]; omega) (filterMap_if _ _ _)
    have ht : (cB (eBin opNotIn (eVar 1) (eFld (eVar 0) w_slots))) (CX N) [some (.loc 0), some (.int (k : Int))] (obL cy (sl.map spD) ct cp ++ rest) = some (.ok (!sl.contains (some k)), obL cy (sl.map spD) ct cp ++ rest) := by
      refine cB_run (bin_run (var_run rfl) f_slots ?_)
      have e : isInT (.int (k : Int)) (.loc 1) (obL cy (sl.map spD) ct cp ++ rest) = some (.ok (sl.contains (some k)), obL cy (sl.map spD) ct cp ++ rest) := by
        unfold isInT
        simp only [ob1, deep, D.ok, spDs_ok, Bool.and_self, if_true, any_spD]
      unfold opNotIn
      rw [bnd_ok e]; rfl
    cases hb : (!sl.contains (some k)) with
    | true =>
      rw [if_pos rfl]
      exact compT_y (by show 1 < 2; decide) (by rw [hb] at ht; exact ht) (var_run rfl)
    | false =>
      rw [if_neg (by decide)]
      exact compT_n (by show 1 < 2; decide) (by rw [hb] at ht; exact ht)
  have hm : bMin (.frz ((freeL ct.length sl).map fun (k : Nat) => D.int (k : Int))) (obL cy (sl.map spD) ct cp ++ rest) = some (.ok (.int (freeN ct.length sl : Int)), obL cy (sl.map spD) ct cp ++ rest) := by
    have hne := freeL_ne h
    unfold freeN
    cases e : freeL ct.length sl with
    | nil => exact absurd e hne
    | cons k r =>
      obtain ⟨h1, _, _⟩ := freeL_min e
      unfold bMin
      have hs : seqOf (.frz ((k :: r).map fun (k : Nat) => D.int (k : Int))) (obL cy (sl.map spD) ct cp ++ rest) = some (.ok ((k :: r).map fun (k : Nat) => D.int (k : Int)), obL cy (sl.map spD) ct cp ++ rest) := rfl
      rw [bnd_ok hs, ints_map]
      show some (Rs.ok (D.int (leastI (k : Int) (r.map fun (k : Nat) => (k : Int)))), _) = _
      rw [least_head _ _ (fun x hx => by
        obtain ⟨y, hy, rfl⟩ := List.mem_map.mp hx
        have := h1 y hy
        omega)]
      rfl
  have h2 : eUn bMin (eCompF [1] (gVar 1) (iRange1 (eUn bLen (eFld (eVar 0) w_contents))) (cB (eBin opNotIn (eVar 1) (eFld (eVar 0) w_slots))) (eVar 1)) (CX N) [some (.loc 0), none] (obL cy (sl.map spD) ct cp ++ rest) = some (.ok (.int (freeN ct.length sl : Int)), obL cy (sl.map spD) ct cp ++ rest) := un_run hc hm
  have h3 := ret_run h2
  have h4 : b_Store__free_slot_0 (CX N) [some (.loc 0), none] (obL cy (sl.map spD) ct cp ++ rest) = some (.rt (.int (freeN ct.length sl : Int)), [some (.loc 0), none], obL cy (sl.map spD) ct cp ++ rest) := h3
  have h5 : b_Store__free_slot (CX N) [some (.loc 0), none] (obL cy (sl.map spD) ct cp ++ rest) = some (.rt (.int (freeN ct.length sl : Int)), [some (.loc 0), none], obL cy (sl.map spD) ct cp ++ rest) := h4
  exact h5
theorem some_spD (sl : List Nat) : (sl.map some).map spD = sl.map fun (k : Nat) => D.int (k : Int) := by simp [spD]
def aloneN (sl : List Nat) (x : Nat) : Bool := sl.count (sl.getD x 0) == 1
theorem count_int (l : List Nat) (k : Nat) : (l.map fun (k : Nat) => (k : Int)).count (k : Int) = l.count k := by
  induction l with
  | nil => rfl
  | cons x l ih =>
    rw [List.map_cons, List.count_cons, List.count_cons, ih]
    by_cases h : x = k
    · subst h; simp
    · have h2 : ((x : Int) == (k : Int)) = false := by simp; omega
      have h3 : (x == k) = false := by simp [h]
      rw [h2, h3]
theorem alone_run {cy sl : List Nat} {ct : List D} {cp : Nat} (rest : Stt) {x : Nat} (hx : x < sl.length) (N : Nat) :
    (CX (N + 1)).call F_Store__is_alone [.loc 0, .int (x : Int)] (obL cy ((sl.map some).map spD) ct cp ++ rest) = some (.ok (.bl (aloneN sl x)), obL cy ((sl.map some).map spD) ct cp ++ rest) := by
  rw [cx_call, call_np fn_St_alone (by decide), some_spD]
  refine fr_rt (env := [some (.loc 0), some (.int (x : Int))]) (env' := [some (.loc 0), some (.int (x : Int))]) rfl rfl ?_
  have hg : (sl.map fun (k : Nat) => D.int (k : Int))[x]? = some (.int (sl.getD x 0 : Nat)) := by
    rw [List.getElem?_map, List.getElem?_eq_getElem hx]; simp [hx]
  have e : (eMt1 isLst mCount (eFld (eVar 0) w_slots) (eBin opIx (eFld (eVar 0) w_slots) (eVar 1))) (CX N) [some (.loc 0), some (.int (x : Int))] (obL cy (sl.map fun (k : Nat) => D.int (k : Int)) ct cp ++ rest) = some (.ok (.int (sl.count (sl.getD x 0) : Nat)), obL cy (sl.map fun (k : Nat) => D.int (k : Int)) ct cp ++ rest) := by
    have h1 : isLst (.loc 1) (obL cy (sl.map fun (k : Nat) => D.int (k : Int)) ct cp ++ rest) = some (.ok (), obL cy (sl.map fun (k : Nat) => D.int (k : Int)) ct cp ++ rest) := rfl
    unfold eMt1
    rw [bnd_ok f_slots, bnd_ok h1, bnd_ok (bin_run f_slots (var_run rfl) (ix_loc ob1 hg))]
    simp only [mCount, ob1, ints_map, count_int]
  refine ret_run (bin_run (y := .int 1) e rfl ?_)
  rw [eqi]
  have ew : (((sl.count (sl.getD x 0) : Nat) : Int) == 1) = aloneN sl x := by
    unfold aloneN
    by_cases h : sl.count (sl.getD x 0) = 1
    · rw [h]; rfl
    · generalize sl.count (sl.getD x 0) = q at h
      have h2 : ((q : Int) == 1) = false := by simp; omega
      rw [h2]; simp [h]
  rw [ew]
section
variable {cy : List Nat} {sl ct : List D} {cp N : Nat} {rest : Stt}
theorem res_free : opRes (CX N) w_free_95_slot (.loc 0) (obL cy sl ct cp ++ rest) = some (.ok F_Store__free_slot, obL cy sl ct cp ++ rest) := by kernel_rfl
theorem res_alone : opRes (CX N) w_is_95_alone (.loc 0) (obL cy sl ct cp ++ rest) = some (.ok F_Store__is_alone, obL cy sl ct cp ++ rest) := by kernel_rfl
theorem res_move : opRes (CX N) w_move (.loc 0) (obL cy sl ct cp ++ rest) = some (.ok F_Store__move, obL cy sl ct cp ++ rest) := by kernel_rfl
theorem res_give : opRes (CX N) w_give (.loc 0) (obL cy sl ct cp ++ rest) = some (.ok F_Store__give, obL cy sl ct cp ++ rest) := by kernel_rfl
theorem res_do : opRes (CX N) w_do (.loc 0) (obL cy sl ct cp ++ rest) = some (.ok F_Store__do, obL cy sl ct cp ++ rest) := by kernel_rfl
theorem res_shown : opRes (CX N) w_shown (.loc 0) (obL cy sl ct cp ++ rest) = some (.ok F_Store__shown, obL cy sl ct cp ++ rest) := by kernel_rfl
end
theorem meth_free {cy : List Nat} {sl : List (Option Nat)} {ct : List D} {cp : Nat} (rest : Stt) (x : Nat) (v : D) (N f : Nat) (hfr : (CX (N + 1)).call F_Store__free_slot [.loc 0] (obL cy (sl.map spD) ct cp ++ rest) = some (.ok (.int (f : Int)), obL cy (sl.map spD) ct cp ++ rest)) : eMeth (eVar 0) w_free_95_slot lNil (CX (N + 1)) [some (.loc 0), some (.int (x : Int)), some v] (obL cy (sl.map spD) ct cp ++ rest) = some (.ok (.int (f : Int)), obL cy (sl.map spD) ct cp ++ rest) := by
  unfold eMeth
  rw [bnd_ok (var_run (x := .loc 0) rfl), bnd_ok res_free, bnd_ok lnil_run]
  exact hfr
theorem move_run {cy : List Nat} {sl : List (Option Nat)} {ct : List D} {cp : Nat} (rest : Stt) (hn : ct.length ≤ 100) (hl : sl.length = ct.length) (h : ∃ k, k < ct.length ∧ some k ∉ sl) {x : Nat} (hx : x < sl.length) (v : D) (N : Nat) :
    (CX (N + 2)).call F_Store__move [.loc 0, .int (x : Int), v] (obL cy (sl.map spD) ct cp ++ rest) = some (.ok .non, obL cy ((sl.set x (some (freeN ct.length sl))).map spD) (ct.set (freeN ct.length sl) v) cp ++ rest) := by
  have hf := freeN_ok h
  rw [cx_call, call_np fn_St_move (by decide)]
  have h0 : b_Store__move_0 (CX (N + 1)) [some (.loc 0), some (.int (x : Int)), some v] (obL cy (sl.map spD) ct cp ++ rest) = some (.nx, [some (.loc 0), some (.int (x : Int)), some v], obL cy ((sl.set x (some (freeN ct.length sl))).map spD) ct cp ++ rest) := by
    have hfr : (CX (N + 1)).call F_Store__free_slot [.loc 0] (obL cy (sl.map spD) ct cp ++ rest) = some (.ok (.int (freeN ct.length sl : Int)), obL cy (sl.map spD) ct cp ++ rest) := free_run rest hn h N
    have he : eMeth (eVar 0) w_free_95_slot lNil (CX (N + 1)) [some (.loc 0), some (.int (x : Int)), some v] (obL cy (sl.map spD) ct cp ++ rest) = some (.ok (.int (freeN ct.length sl : Int)), obL cy (sl.map spD) ct cp ++ rest) :=
      meth_free rest x v N _ hfr
    have := asg_sub (c := CX (N + 1)) (env := [some (.loc 0), some (.int (x : Int)), some v]) (a := eFld (eVar 0) w_slots) (i := eVar 1) (e := eMeth (eVar 0) w_free_95_slot lNil) (k := 1) (j := x) (l := sl.map spD) he f_slots (var_run rfl) ob1 (by simpa using hx)
    refine this.trans ?_
    rw [ob1s, List.map_set]; rfl
  have h1 : b_Store__move_1 (CX (N + 1)) [some (.loc 0), some (.int (x : Int)), some v] (obL cy ((sl.set x (some (freeN ct.length sl))).map spD) ct cp ++ rest) = some (.nx, [some (.loc 0), some (.int (x : Int)), some v], obL cy ((sl.set x (some (freeN ct.length sl))).map spD) (ct.set (freeN ct.length sl) v) cp ++ rest) := by
    have := asg_sub (c := CX (N + 1)) (env := [some (.loc 0), some (.int (x : Int)), some v]) (a := eFld (eVar 0) w_contents) (i := (eBin opIx (eFld (eVar 0) w_slots) (eVar 1))) (e := eVar 2) (k := 3) (j := freeN ct.length sl) (l := ct) (st := obL cy ((sl.set x (some (freeN ct.length sl))).map spD) ct cp ++ rest) (var_run rfl) f_contents (bin_run f_slots (var_run rfl) (ix_loc ob1 (by rw [List.getElem?_map, List.getElem?_set_self hx]; rfl))) ob3 hf.1
    exact this
  have hb : b_Store__move (CX (N + 1)) [some (.loc 0), some (.int (x : Int)), some v] (obL cy (sl.map spD) ct cp ++ rest) = some (.nx, [some (.loc 0), some (.int (x : Int)), some v], obL cy ((sl.set x (some (freeN ct.length sl))).map spD) (ct.set (freeN ct.length sl) v) cp ++ rest) := by
    unfold b_Store__move
    rw [seq_nx h0]; exact h1
  exact fr_nx (env := [some (.loc 0), some (.int (x : Int)), some v]) rfl rfl hb
end MI

set_option autoImplicit false
set_option maxRecDepth 100000
set_option linter.all false
/-! R8: the store as a kind of state. -/
namespace MI
open PySem
structure St where
  sl : List Nat
  ct : List (List Nat)
  cp : Nat
def St.sh (s : St) (x : Nat) : List Nat := s.ct.getD (s.sl.getD x 0) []
def St.move (s : St) (x : Nat) (so : List (Option Nat)) (v : List Nat) : St := ⟨s.sl.set x (freeN s.ct.length so), s.ct.set (freeN s.ct.length so) v, s.cp⟩
def St.put (s : St) (x : Nat) (v : List Nat) : St := ⟨s.sl, s.ct.set (s.sl.getD x 0) v, s.cp⟩
def St.more (s : St) : St := ⟨s.sl, s.ct, s.cp + 1⟩
def St.act (cy : List Nat) (s : St) : Pl → St
  | .fresh x => (if aloneN s.sl x = true then s else s.move x (s.sl.map some) []).put x []
  | .give l x y => if cy.contains l = true then (s.move x ((s.sl.map some).set x none) (s.sh y)).more else ⟨s.sl.set x (s.sl.getD y 0), s.ct, s.cp⟩
  | .change l x m =>
    let t := if (cy.contains l && !aloneN s.sl x) = true then (s.move x (s.sl.map some) (s.sh x)).more else s
    t.put x (t.sh x ++ [m])
def St.ob (cy : List Nat) (s : St) : Stt := obL cy ((s.sl.map some).map spD) (s.ct.map pD) s.cp
structure St.inv (n k : Nat) (s : St) : Prop where
  n4 : n ≤ 4
  sl : s.sl.length = n
  ct : s.ct.length = n
  lt : ∀ a ∈ s.sl, a < n
  few : ∀ c ∈ s.ct, c.length + k ≤ 1000000
theorem St.inv.get {n k : Nat} {s : St} (h : s.inv n k) {x : Nat} (hx : x < n) : s.sl[x]? = some (s.sl.getD x 0) ∧ s.sl.getD x 0 < n := by
  have hl : x < s.sl.length := by rw [h.sl]; exact hx
  have e : s.sl[x]? = some (s.sl.getD x 0) := by rw [List.getElem?_eq_getElem hl]; simp [hl]
  exact ⟨e, h.lt _ (List.mem_of_getElem? e)⟩
theorem St.inv.shn {n k : Nat} {s : St} (h : s.inv n k) {x : Nat} (hx : x < n) : s.ct[s.sl.getD x 0]? = some (s.sh x) ∧ (s.sh x).length + k ≤ 1000000 := by
  have hl : s.sl.getD x 0 < s.ct.length := by rw [h.ct]; exact (h.get hx).2
  have e : s.ct[s.sl.getD x 0]? = some (s.sh x) := by unfold St.sh; generalize s.sl.getD x 0 = q at hl ⊢; rw [List.getD_eq_getElem?_getD, List.getElem?_eq_getElem hl]; rfl
  exact ⟨e, h.few _ (List.mem_of_getElem? e)⟩
theorem count_erase {l : List Nat} {a : Nat} (h : 2 ≤ l.count a) : a ∈ l.erase a := by
  rw [← List.count_pos_iff, List.count_erase_self]; omega
theorem free_alone {n k : Nat} {s : St} (h : s.inv n k) {x : Nat} (hx : x < n) (ha : ¬ aloneN s.sl x = true) : ∃ j, j < n ∧ some j ∉ s.sl.map some := by
  refine Classical.byContradiction fun hc => ?_
  have all : ∀ j, j < n → j ∈ s.sl := fun j hj => Classical.byContradiction fun hn => hc ⟨j, hj, by simpa using hn⟩
  have hm : s.sl.getD x 0 ∈ s.sl := List.mem_of_getElem? (h.get hx).1
  have hp := List.count_pos_iff.mpr hm
  have h2 : 2 ≤ s.sl.count (s.sl.getD x 0) := by
    unfold aloneN at ha
    rw [beq_iff_eq] at ha
    omega
  have := pig n (s.sl.erase (s.sl.getD x 0)) fun j hj => by
    by_cases e : j = s.sl.getD x 0
    · rw [e]; exact count_erase h2
    · exact (List.mem_erase_of_ne e).mpr (all j hj)
  rw [List.length_erase_of_mem hm, h.sl] at this
  omega
theorem free_none {n k : Nat} {s : St} (h : s.inv n k) {x : Nat} (hx : x < n) : ∃ j, j < n ∧ some j ∉ (s.sl.map some).set x none := by
  refine Classical.byContradiction fun hc => ?_
  have all : ∀ j, j < n → j ∈ s.sl.eraseIdx x := fun j hj => by
    have hm : some j ∈ (s.sl.map some).set x none := Classical.byContradiction fun hn => hc ⟨j, hj, hn⟩
    obtain ⟨i, hi⟩ := List.getElem?_of_mem hm
    rw [List.mem_eraseIdx_iff_getElem?]
    by_cases e : i = x
    · subst e
      rw [List.getElem?_set_self (by rw [List.length_map, h.sl]; exact hx)] at hi
      cases hi
    · rw [List.getElem?_set_ne (Ne.symm e), List.getElem?_map] at hi
      obtain ⟨y, hy, e2⟩ := Option.map_eq_some_iff.mp hi
      cases e2
      exact ⟨i, e, hy⟩
  have := pig n _ all
  rw [List.length_eraseIdx_of_lt (by rw [h.sl]; exact hx), h.sl] at this
  omega
theorem inv_move {n k : Nat} {s : St} (h : s.inv n (k + 1)) {x : Nat} {so : List (Option Nat)} (hf : ∃ j, j < n ∧ some j ∉ so) {v : List Nat} (hv : v.length + (k + 1) ≤ 1000000) : (s.move x so v).inv n (k + 1) := by
  have hfr := freeN_ok (n := s.ct.length) (sl := so) (by rw [h.ct]; exact hf)
  refine ⟨h.n4, by simp [St.move, h.sl], by simp [St.move, h.ct], fun a ha => ?_, fun c hc => ?_⟩
  · rcases List.mem_or_eq_of_mem_set ha with ha | ha
    · exact h.lt a ha
    · rw [ha, ← h.ct]; exact hfr.1
  · rcases List.mem_or_eq_of_mem_set hc with hc | hc
    · exact h.few c hc
    · rw [hc]; exact hv
theorem St.inv.weak {n k k' : Nat} {s : St} (h : s.inv n k) (hk : k' ≤ k) : s.inv n k' := ⟨h.n4, h.sl, h.ct, h.lt, fun c hc => by have := h.few c hc; omega⟩
theorem inv_put {n k : Nat} {s : St} (h : s.inv n k) {x : Nat} {v : List Nat} {k' : Nat} (hk : k' ≤ k) (hv : v.length + k' ≤ 1000000) : (s.put x v).inv n k' := by
  refine ⟨h.n4, h.sl, by simp [St.put, h.ct], h.lt, fun c hc => ?_⟩
  rcases List.mem_or_eq_of_mem_set hc with hc | hc
  · have := h.few c hc; omega
  · rw [hc]; exact hv
theorem k_le {n k : Nat} {s : St} (h : s.inv n k) {x : Nat} (hx : x < n) : k ≤ 1000000 := by have := (h.shn hx).2; omega
/-- ahead of the store into the contents -/
def St.pre (cy : List Nat) (s : St) : Pl → St
  | .fresh x => if aloneN s.sl x = true then s else s.move x (s.sl.map some) []
  | .change l x _ => if (cy.contains l && !aloneN s.sl x) = true then (s.move x (s.sl.map some) (s.sh x)).more else s
  | _ => s
theorem inv_more {n k : Nat} {s : St} (h : s.inv n k) : s.more.inv n k := ⟨h.n4, h.sl, h.ct, h.lt, h.few⟩
theorem inv_pre {cy : List Nat} {n k : Nat} {s : St} (h : s.inv n (k + 1)) {p : Pl} (hp : p.ok n) : (s.pre cy p).inv n (k + 1) := by
  cases p with
  | fresh x =>
    unfold St.pre
    by_cases ha : aloneN s.sl x = true
    · simp only [ha, if_true]; exact h
    · simp only [ha, if_false]
      exact inv_move h (free_alone h hp ha) (by have := k_le h hp; simp; omega)
  | change l x m =>
    unfold St.pre
    by_cases ha : (cy.contains l && !aloneN s.sl x) = true
    · simp only [ha, if_true]
      have ha' : ¬ aloneN s.sl x = true := by
        simp only [Bool.and_eq_true, Bool.not_eq_true'] at ha
        simp [ha.2]
      exact inv_more (inv_move h (free_alone h hp.1 ha') (h.shn hp.1).2)
    · simp only [ha]; exact h
  | give _ _ _ => exact h
theorem inv_act {cy : List Nat} {n k : Nat} {s : St} (h : s.inv n (k + 1)) {p : Pl} (hp : p.ok n) : (s.act cy p).inv n k := by
  cases p with
  | fresh x => exact inv_put (inv_pre (cy := cy) h (p := .fresh x) hp) (Nat.le_succ k) (by have := k_le h hp; simp; omega)
  | change l x m =>
    have hq := inv_pre (cy := cy) h (p := .change l x m) hp
    have h2 := (hq.shn hp.1).2
    refine inv_put hq (Nat.le_succ k) ?_
    rw [List.length_append, List.length_singleton]
    change ((St.pre cy s (.change l x m)).sh x).length + 1 + k ≤ 1000000
    omega
  | give l x y =>
    unfold St.act
    by_cases ha : cy.contains l = true
    · simp only [ha, if_true]
      exact (inv_more (inv_move h (free_none h hp.1) (h.shn hp.2.1).2)).weak (Nat.le_succ k)
    · simp only [ha, if_false]
      refine ⟨h.n4, by simp [h.sl], h.ct, fun a ha => ?_, fun c hc => by have := h.few c hc; omega⟩
      rcases List.mem_or_eq_of_mem_set ha with ha | ha
      · exact h.lt a ha
      · rw [ha]; exact (h.get hp.2.1).2
/-! ### the methods -/
section
variable {cy : List Nat} {rest : Stt} {n k : Nat} {s : St}
theorem in_cy (cy : List Nat) (hc : cy.length ≤ 100) (l : Nat) (st : Stt) : opIn (.int (l : Int)) (pD cy) st = some (.ok (.bl (cy.contains l)), st) := by
  have hok : D.okL deep (cy.map fun (k : Nat) => D.int (k : Int)) = true := by
    have : ∀ (q : List Nat) (m : Nat), D.okL m (q.map fun (k : Nat) => D.int (k : Int)) = true := fun q m => by
      induction q with
      | nil => simp [D.okL]
      | cons x q ih => simp [D.okL, D.ok, ih]
    exact this _ _
  have ha : ∀ cy : List Nat, ((cy.map fun (k : Nat) => D.int (k : Int)).any fun y => D.eqv y (.int (l : Int))) = cy.contains l := by
    intro cy
    induction cy with
    | nil => rfl
    | cons x q ih =>
      rw [List.map_cons, List.any_cons, ih, List.contains_cons]
      have : D.eqv (.int (x : Int)) (.int (l : Int)) = (l == x) := by
        by_cases h : l = x
        · subst h; simp [D.eqv]
        · have h2 : ((x : Int) == (l : Int)) = false := by simp; omega
          have h3 : (l == x) = false := by simp [h]
          simp only [D.eqv, h2, h3]
      rw [this]
  have e : isInT (.int (l : Int)) (pD cy) st = some (.ok (cy.contains l), st) := by
    unfold pD isInT
    simp only [D.ok, hok, Bool.and_self, if_true, ha]
  unfold opIn
  rw [bnd_ok e]; rfl
theorem shown_run (h : s.inv n k) {x : Nat} (hx : x < n) (N : Nat) : (CX (N + 1)).call F_Store__shown [.loc 0, .int (x : Int)] (s.ob cy ++ rest) = some (.ok (pD (s.sh x)), s.ob cy ++ rest) := by
  rw [cx_call, call_np fn_St_shown (by decide)]
  refine fr_rt (env := [some (.loc 0), some (.int (x : Int))]) (env' := [some (.loc 0), some (.int (x : Int))]) rfl rfl ?_
  have h1 : (eBin opIx (eFld (eVar 0) w_slots) (eVar 1)) (CX N) [some (.loc 0), some (.int (x : Int))] (s.ob cy ++ rest) = some (.ok (.int (s.sl.getD x 0 : Nat)), s.ob cy ++ rest) :=
    bin_run f_slots (var_run rfl) (ix_loc ob1 (by rw [some_spD, List.getElem?_map, (h.get hx).1]; rfl))
  have h2 : (eBin opIx (eFld (eVar 0) w_contents) (eBin opIx (eFld (eVar 0) w_slots) (eVar 1))) (CX N) [some (.loc 0), some (.int (x : Int))] (s.ob cy ++ rest) = some (.ok (pD (s.sh x)), s.ob cy ++ rest) :=
    bin_run f_contents h1 (ix_loc ob3 (by rw [List.getElem?_map, (h.shn hx).1]; rfl))
  exact ret_run h2
theorem set_some (sl : List Nat) (x f : Nat) : (sl.map some).set x (some f) = (sl.set x f).map some := by rw [List.map_set]
theorem set_some2 (sl : List Nat) (x f : Nat) : ((sl.map some).set x none).set x (some f) = (sl.set x f).map some := by rw [List.set_set, List.map_set]
theorem mv_run (h : s.inv n k) {x : Nat} {so : List (Option Nat)} (hl : so.length = n) (hs : ∀ f, so.set x (some f) = (s.sl.set x f).map some) (hf : ∃ j, j < n ∧ some j ∉ so) (hx : x < n) (v : List Nat) (N : Nat) :
    (CX (N + 2)).call F_Store__move [.loc 0, .int (x : Int), pD v] (obL cy (so.map spD) (s.ct.map pD) s.cp ++ rest) = some (.ok .non, (s.move x so v).ob cy ++ rest) := by
  have hn := h.n4
  have hc : (s.ct.map pD).length = n := by rw [List.length_map, h.ct]
  have := move_run (cy := cy) (cp := s.cp) (sl := so) (ct := s.ct.map pD) rest (by rw [hc]; omega) (by rw [hl, hc]) (by rw [hc]; exact hf) (x := x) (by rw [hl]; exact hx) (pD v) N
  rw [this, hs, ← List.map_set, List.length_map]
  rfl
theorem mvE_run {a b : SE} {env : Env} (h : s.inv n k) {x : Nat} {so : List (Option Nat)} (hl : so.length = n) (hs : ∀ f, so.set x (some f) = (s.sl.set x f).map some) (hf : ∃ j, j < n ∧ some j ∉ so) (hx : x < n) (v : List Nat) (N : Nat)
    (ha : a (CX (N + 2)) (some (.loc 0) :: env) (obL cy (so.map spD) (s.ct.map pD) s.cp ++ rest) = some (.ok (.int (x : Int)), obL cy (so.map spD) (s.ct.map pD) s.cp ++ rest)) (hb : b (CX (N + 2)) (some (.loc 0) :: env) (obL cy (so.map spD) (s.ct.map pD) s.cp ++ rest) = some (.ok (pD v), obL cy (so.map spD) (s.ct.map pD) s.cp ++ rest)) :
    sExpr (eMeth (eVar 0) w_move (lCons a (lCons b lNil))) (CX (N + 2)) (some (.loc 0) :: env) (obL cy (so.map spD) (s.ct.map pD) s.cp ++ rest) = some (.nx, some (.loc 0) :: env, (s.move x so v).ob cy ++ rest) := by
  refine expr_run (d := .non) ?_
  unfold eMeth
  rw [bnd_ok (var_run (x := .loc 0) rfl), bnd_ok res_move, bnd_ok (lcons_run ha (lcons_run hb lnil_run))]
  exact mv_run h hl hs hf hx v N
theorem more_run {env : Env} {N : Nat} : (sFldAug (eVar 0) w_copies opIAdd (eC (.int 1))) (CX N) (some (.loc 0) :: env) (s.ob cy ++ rest) = some (.nx, some (.loc 0) :: env, s.more.ob cy ++ rest) := by kernel_rfl
theorem shE_run {a : SE} {env : Env} (h : s.inv n k) {x : Nat} (hx : x < n) (N : Nat) (ha : a (CX (N + 1)) (some (.loc 0) :: env) (s.ob cy ++ rest) = some (.ok (.int (x : Int)), s.ob cy ++ rest)) : eMeth (eVar 0) w_shown (lCons a lNil) (CX (N + 1)) (some (.loc 0) :: env) (s.ob cy ++ rest) = some (.ok (pD (s.sh x)), s.ob cy ++ rest) := by
  unfold eMeth
  rw [bnd_ok (var_run (x := .loc 0) rfl), bnd_ok (show opRes (CX (N + 1)) w_shown (.loc 0) (s.ob cy ++ rest) = some (.ok F_Store__shown, s.ob cy ++ rest) from res_shown), bnd_ok (lcons_run ha lnil_run)]
  exact shown_run h hx N
theorem alE_run {a : SE} {env : Env} (h : s.inv n k) {x : Nat} (hx : x < n) (N : Nat) (ha : a (CX (N + 1)) (some (.loc 0) :: env) (s.ob cy ++ rest) = some (.ok (.int (x : Int)), s.ob cy ++ rest)) : eMeth (eVar 0) w_is_95_alone (lCons a lNil) (CX (N + 1)) (some (.loc 0) :: env) (s.ob cy ++ rest) = some (.ok (.bl (aloneN s.sl x)), s.ob cy ++ rest) := by
  unfold eMeth
  rw [bnd_ok (var_run (x := .loc 0) rfl), bnd_ok (show opRes (CX (N + 1)) w_is_95_alone (.loc 0) (s.ob cy ++ rest) = some (.ok F_Store__is_alone, s.ob cy ++ rest) from res_alone), bnd_ok (lcons_run ha lnil_run)]
  exact alone_run rest (by rw [h.sl]; exact hx) N
theorem slot_run {a : SE} {env : Env} {N : Nat} (h : s.inv n k) {x : Nat} (hx : x < n) (ha : a (CX N) (some (.loc 0) :: env) (s.ob cy ++ rest) = some (.ok (.int (x : Int)), s.ob cy ++ rest)) : (eBin opIx (eFld (eVar 0) w_slots) a) (CX N) (some (.loc 0) :: env) (s.ob cy ++ rest) = some (.ok (.int (s.sl.getD x 0 : Nat)), s.ob cy ++ rest) :=
  bin_run f_slots ha (ix_loc ob1 (by rw [some_spD, List.getElem?_map, (h.get hx).1]; rfl))
theorem put_ob (x : Nat) (v : List Nat) : (s.ob cy ++ rest).set 3 (.lst ((s.ct.map pD).set (s.sl.getD x 0) (pD v))) = (s.put x v).ob cy ++ rest := by
  rw [← List.map_set]; rfl
theorem give_run (hcy : cy.length ≤ 100) (h : s.inv n (k + 1)) {l x y : Nat} (hp : (Pl.give l x y).ok n) (N : Nat) : (CX (N + 4)).call F_Store__give [.loc 0, .int (l : Int), .int (x : Int), .int (y : Int)] (s.ob cy ++ rest) = some (.ok .non, (s.act cy (.give l x y)).ob cy ++ rest) := by
  rw [cx_call, call_np fn_St_give (by decide)]
  have ht : ∀ z, (cB (eBin opIn (eVar 1) (eFld (eVar 0) w_copying))) (CX (N + 3)) [some (.loc 0), some (.int (l : Int)), some (.int (x : Int)), some (.int (y : Int)), z] (s.ob cy ++ rest) = some (.ok (cy.contains l), s.ob cy ++ rest) := fun z =>
    cB_run (bin_run (var_run rfl) f_copying (in_cy cy hcy l _))
  by_cases ha : cy.contains l = true
  · have ea : s.act cy (.give l x y) = (s.move x ((s.sl.map some).set x none) (s.sh y)).more := by unfold St.act; simp only [ha, if_true]
    rw [ea]
    have h4 : (sSet 4 (eMeth (eVar 0) w_shown (lCons (eVar 3) lNil))) (CX (N + 3)) [some (.loc 0), some (.int (l : Int)), some (.int (x : Int)), some (.int (y : Int)), none] (s.ob cy ++ rest) = some (.nx, [some (.loc 0), some (.int (l : Int)), some (.int (x : Int)), some (.int (y : Int)), some (pD (s.sh y))], s.ob cy ++ rest) :=
      set_run (shE_run h hp.2.1 (N + 2) (var_run rfl)) (by show 4 < 5; decide)
    have h5 : (sAsg (gSub (eFld (eVar 0) w_slots) (eVar 2)) (eC .non)) (CX (N + 3)) [some (.loc 0), some (.int (l : Int)), some (.int (x : Int)), some (.int (y : Int)), some (pD (s.sh y))] (s.ob cy ++ rest) = some (.nx, [some (.loc 0), some (.int (l : Int)), some (.int (x : Int)), some (.int (y : Int)), some (pD (s.sh y))], obL cy (((s.sl.map some).set x none).map spD) (s.ct.map pD) s.cp ++ rest) := by
      have := asg_sub (c := CX (N + 3)) (env := [some (.loc 0), some (.int (l : Int)), some (.int (x : Int)), some (.int (y : Int)), some (pD (s.sh y))]) (a := eFld (eVar 0) w_slots) (i := eVar 2) (e := eC .non) (st := s.ob cy ++ rest) (st1 := s.ob cy ++ rest) (d := .non) (k := 1) (j := x) (l := (s.sl.map some).map spD) rfl f_slots (var_run rfl) ob1 (by simp [h.sl]; exact hp.1)
      refine this.trans ?_
      rw [List.map_set]; rfl
    have h6 : sExpr (eMeth (eVar 0) w_move (lCons (eVar 2) (lCons (eVar 4) lNil))) (CX (N + 3)) [some (.loc 0), some (.int (l : Int)), some (.int (x : Int)), some (.int (y : Int)), some (pD (s.sh y))] (obL cy (((s.sl.map some).set x none).map spD) (s.ct.map pD) s.cp ++ rest) = some (.nx, [some (.loc 0), some (.int (l : Int)), some (.int (x : Int)), some (.int (y : Int)), some (pD (s.sh y))], (s.move x ((s.sl.map some).set x none) (s.sh y)).ob cy ++ rest) :=
      mvE_run h (by simp [h.sl]) (fun f => set_some2 _ _ _) (free_none h hp.1) hp.1 _ (N + 1) (var_run rfl) (var_run rfl)
    have hb : b_Store__give (CX (N + 3)) [some (.loc 0), some (.int (l : Int)), some (.int (x : Int)), some (.int (y : Int)), none] (s.ob cy ++ rest) = some (.nx, [some (.loc 0), some (.int (l : Int)), some (.int (x : Int)), some (.int (y : Int)), some (pD (s.sh y))], (s.move x ((s.sl.map some).set x none) (s.sh y)).more.ob cy ++ rest) :=
      (if_t (by rw [ht, ha])).trans ((seq_nx h4).trans ((seq_nx h5).trans ((seq_nx h6).trans more_run)))
    exact fr_nx (env := [some (.loc 0), some (.int (l : Int)), some (.int (x : Int)), some (.int (y : Int)), none]) rfl rfl hb
  · have ea : s.act cy (.give l x y) = ⟨s.sl.set x (s.sl.getD y 0), s.ct, s.cp⟩ := by unfold St.act; simp only [ha, Bool.false_eq_true, if_false]
    rw [ea]
    have h5 : (sAsg (gSub (eFld (eVar 0) w_slots) (eVar 2)) (eBin opIx (eFld (eVar 0) w_slots) (eVar 3))) (CX (N + 3)) [some (.loc 0), some (.int (l : Int)), some (.int (x : Int)), some (.int (y : Int)), none] (s.ob cy ++ rest) = some (.nx, [some (.loc 0), some (.int (l : Int)), some (.int (x : Int)), some (.int (y : Int)), none], (St.mk (s.sl.set x (s.sl.getD y 0)) s.ct s.cp).ob cy ++ rest) := by
      have := asg_sub (c := CX (N + 3)) (env := [some (.loc 0), some (.int (l : Int)), some (.int (x : Int)), some (.int (y : Int)), none]) (a := eFld (eVar 0) w_slots) (i := eVar 2) (e := eBin opIx (eFld (eVar 0) w_slots) (eVar 3)) (st := s.ob cy ++ rest) (k := 1) (j := x) (l := (s.sl.map some).map spD) (slot_run h hp.2.1 (var_run rfl)) f_slots (var_run rfl) ob1 (by simp [h.sl]; exact hp.1)
      refine this.trans ?_
      unfold St.ob
      rw [← set_some, List.map_set]; rfl
    have hb : b_Store__give (CX (N + 3)) [some (.loc 0), some (.int (l : Int)), some (.int (x : Int)), some (.int (y : Int)), none] (s.ob cy ++ rest) = some (.nx, [some (.loc 0), some (.int (l : Int)), some (.int (x : Int)), some (.int (y : Int)), none], (St.mk (s.sl.set x (s.sl.getD y 0)) s.ct s.cp).ob cy ++ rest) :=
      (if_f (by rw [ht]; simpa using ha)).trans h5
    exact fr_nx (env := [some (.loc 0), some (.int (l : Int)), some (.int (x : Int)), some (.int (y : Int)), none]) rfl rfl hb
end
end MI

set_option autoImplicit false
set_option maxRecDepth 100000
set_option linter.all false
/-! R9: the store's do; run_store, slots_behind run. -/
namespace MI
open PySem
section
variable {cy : List Nat} {rest : Stt} {n k : Nat} {s : St}
abbrev envP (p : Pl) : Env := [some (.loc 0), some p.d]
theorem isw (p : Pl) (w : List Nat) (r : Bool) (hw : (w.all (· < 1114112)) = true) (hr : (p.word == w) = r) (N : Nat) (st : Stt) : (cB (eBin opEq (eBin opIx (eVar 1) (eC (.int 0))) (eC (.str w)))) (CX N) (envP p) st = some (.ok r, st) := by
  subst hr
  exact cB_run (bin_run (y := .str w) (bin_run (x := p.d) (y := .int 0) (var_run rfl) rfl (word_run (.pl p) st)) rfl (eqs _ _ (word_ascii (.pl p)) hw _))
abbrev doA : SS := (sSeq (sIf (cNot (cB (eMeth (eVar 0) w_is_95_alone (lCons (eBin opIx (eVar 1) (eC (.int 1))) lNil))))
  (sExpr (eMeth (eVar 0) w_move (lCons (eBin opIx (eVar 1) (eC (.int 1))) (lCons (eTup lNil) lNil))))
  sPass)
  (sAsg (gSub (eFld (eVar 0) w_contents) (eBin opIx (eFld (eVar 0) w_slots) (eBin opIx (eVar 1) (eC (.int 1))))) (eTup lNil)))
abbrev doG : SS := (sExpr (eMeth (eVar 0) w_give (lCons (eBin opIx (eVar 1) (eC (.int 1))) (lCons (eBin opIx (eVar 1) (eC (.int 2))) (lCons (eBin opIx (eVar 1) (eC (.int 3))) lNil)))))
abbrev doC : SS := (sSeq (sIf (cAnd (cB (eBin opIn (eBin opIx (eVar 1) (eC (.int 1))) (eFld (eVar 0) w_copying))) (cNot (cB (eMeth (eVar 0) w_is_95_alone (lCons (eBin opIx (eVar 1) (eC (.int 2))) lNil)))))
  (sSeq (sExpr (eMeth (eVar 0) w_move (lCons (eBin opIx (eVar 1) (eC (.int 2))) (lCons (eMeth (eVar 0) w_shown (lCons (eBin opIx (eVar 1) (eC (.int 2))) lNil)) lNil))))
  (sFldAug (eVar 0) w_copies opIAdd (eC (.int 1))))
  sPass)
  (sSubAug (eFld (eVar 0) w_contents) (eBin opIx (eFld (eVar 0) w_slots) (eBin opIx (eVar 1) (eC (.int 2)))) opIAdd (eTup (lCons (eBin opIx (eVar 1) (eC (.int 3))) lNil))))
abbrev tFresh : MI.ST := (cB (eBin opEq (eBin opIx (eVar 1) (eC (.int 0))) (eC (.str w_fresh))))
abbrev tGive : MI.ST := (cB (eBin opEq (eBin opIx (eVar 1) (eC (.int 0))) (eC (.str w_give))))
theorem do_eq : b_Store__do = sIf tFresh doA (sIf tGive doG doC) := rfl
theorem do_fresh (h : s.inv n (k + 1)) {x : Nat} (hx : x < n) (N : Nat) : b_Store__do (CX (N + 7)) (envP (.fresh x)) (s.ob cy ++ rest) = some (.nx, envP (.fresh x), (s.act cy (.fresh x)).ob cy ++ rest) := by
  have e1 : ∀ st, (eBin opIx (eVar 1) (eC (.int 1))) (CX (N + 7)) (envP (.fresh x)) st = some (.ok (.int (x : Int)), st) := fun st => rfl
  rw [do_eq, if_t (isw (.fresh x) w_fresh true rfl rfl (N + 7) (s.ob cy ++ rest))]
  have ha := fun s' : St => fun (h' : s'.inv n (k + 1)) => alE_run (cy := cy) (rest := rest) (a := eBin opIx (eVar 1) (eC (.int 1))) (env := [some (Pl.fresh x).d]) h' hx (N + 6) (e1 _)
  have first : (sIf (cNot (cB (eMeth (eVar 0) w_is_95_alone (lCons (eBin opIx (eVar 1) (eC (.int 1))) lNil))))
  (sExpr (eMeth (eVar 0) w_move (lCons (eBin opIx (eVar 1) (eC (.int 1))) (lCons (eTup lNil) lNil))))
  sPass) (CX (N + 7)) (envP (.fresh x)) (s.ob cy ++ rest) = some (.nx, envP (.fresh x), (s.pre cy (.fresh x)).ob cy ++ rest) := by
    have ht : (cNot (cB (eMeth (eVar 0) w_is_95_alone (lCons (eBin opIx (eVar 1) (eC (.int 1))) lNil)))) (CX (N + 7)) (envP (.fresh x)) (s.ob cy ++ rest) = some (.ok (!aloneN s.sl x), s.ob cy ++ rest) := by
      unfold cNot
      rw [bnd_ok (cB_run (ha s h))]; rfl
    by_cases hal : aloneN s.sl x = true
    · have ep : s.pre cy (.fresh x) = s := by unfold St.pre; simp only [hal, if_true]
      rw [ep]
      exact (if_f (by rw [ht, hal]; rfl)).trans rfl
    · have ep : s.pre cy (.fresh x) = s.move x (s.sl.map some) [] := by unfold St.pre; simp only [hal, Bool.false_eq_true, if_false]
      rw [ep]
      have hal' : aloneN s.sl x = false := by simpa using hal
      exact (if_t (by rw [ht, hal']; rfl)).trans (mvE_run h (by simp [h.sl]) (fun f => set_some _ _ _) (free_alone h hx hal) hx [] (N + 5) (e1 _) rfl)
  refine (seq_nx first).trans ?_
  have hq := inv_pre (cy := cy) h (p := .fresh x) hx
  have := asg_sub (c := CX (N + 7)) (env := envP (.fresh x)) (a := eFld (eVar 0) w_contents) (i := (eBin opIx (eFld (eVar 0) w_slots) (eBin opIx (eVar 1) (eC (.int 1))))) (e := eTup lNil) (st := (s.pre cy (.fresh x)).ob cy ++ rest) (st1 := (s.pre cy (.fresh x)).ob cy ++ rest) (d := .tup []) (k := 3) (j := (s.pre cy (.fresh x)).sl.getD x 0) (l := (s.pre cy (.fresh x)).ct.map pD) rfl f_contents (slot_run hq hx (e1 _)) ob3 (by rw [List.length_map, hq.ct]; exact (hq.get hx).2)
  refine this.trans ?_
  exact congrArg (fun z => some (Fl.nx, envP (.fresh x), z)) (put_ob x [])
theorem do_give (hcy : cy.length ≤ 100) (h : s.inv n (k + 1)) {l x y : Nat} (hp : (Pl.give l x y).ok n) (N : Nat) : b_Store__do (CX (N + 7)) (envP (.give l x y)) (s.ob cy ++ rest) = some (.nx, envP (.give l x y), (s.act cy (.give l x y)).ob cy ++ rest) := by
  rw [do_eq, if_f (isw (.give l x y) w_fresh false rfl rfl (N + 7) (s.ob cy ++ rest)), if_t (isw (.give l x y) w_give true rfl rfl (N + 7) (s.ob cy ++ rest))]
  refine expr_run (d := .non) ?_
  unfold eMeth
  rw [bnd_ok (var_run (x := .loc 0) rfl), bnd_ok (show opRes (CX (N + 7)) w_give (.loc 0) (s.ob cy ++ rest) = some (.ok F_Store__give, s.ob cy ++ rest) from res_give), bnd_ok (a := [.int (l : Int), .int (x : Int), .int (y : Int)]) (st1 := s.ob cy ++ rest) rfl]
  exact give_run hcy h hp (N + 3)
theorem do_change (hcy : cy.length ≤ 100) (h : s.inv n (k + 1)) {l x m : Nat} (hp : (Pl.change l x m).ok n) (N : Nat) : b_Store__do (CX (N + 7)) (envP (.change l x m)) (s.ob cy ++ rest) = some (.nx, envP (.change l x m), (s.act cy (.change l x m)).ob cy ++ rest) := by
  have hx : x < n := hp.1
  have e1 : ∀ st, (eBin opIx (eVar 1) (eC (.int 1))) (CX (N + 7)) (envP (.change l x m)) st = some (.ok (.int (l : Int)), st) := fun st => rfl
  have e2 : ∀ st, (eBin opIx (eVar 1) (eC (.int 2))) (CX (N + 7)) (envP (.change l x m)) st = some (.ok (.int (x : Int)), st) := fun st => rfl
  rw [do_eq, if_f (isw (.change l x m) w_fresh false rfl rfl (N + 7) (s.ob cy ++ rest)), if_f (isw (.change l x m) w_give false rfl rfl (N + 7) (s.ob cy ++ rest))]
  have ht : (cAnd (cB (eBin opIn (eBin opIx (eVar 1) (eC (.int 1))) (eFld (eVar 0) w_copying))) (cNot (cB (eMeth (eVar 0) w_is_95_alone (lCons (eBin opIx (eVar 1) (eC (.int 2))) lNil))))) (CX (N + 7)) (envP (.change l x m)) (s.ob cy ++ rest) = some (.ok (cy.contains l && !aloneN s.sl x), s.ob cy ++ rest) := by
    have h1 := cB_run (bin_run (e1 (s.ob cy ++ rest)) (f_copying (env := [some (Pl.change l x m).d]) (rest := rest) (c := CX (N + 7)) (cy := cy) (sl := (s.sl.map some).map spD) (ct := s.ct.map pD) (cp := s.cp)) (in_cy cy hcy l _))
    have h2 := alE_run (cy := cy) (rest := rest) (a := eBin opIx (eVar 1) (eC (.int 2))) (env := [some (Pl.change l x m).d]) h hx (N + 6) (e2 _)
    refine and_run h1 ?_
    unfold cNot
    rw [bnd_ok (cB_run h2)]; rfl
  have first : (sIf (cAnd (cB (eBin opIn (eBin opIx (eVar 1) (eC (.int 1))) (eFld (eVar 0) w_copying))) (cNot (cB (eMeth (eVar 0) w_is_95_alone (lCons (eBin opIx (eVar 1) (eC (.int 2))) lNil)))))
  (sSeq (sExpr (eMeth (eVar 0) w_move (lCons (eBin opIx (eVar 1) (eC (.int 2))) (lCons (eMeth (eVar 0) w_shown (lCons (eBin opIx (eVar 1) (eC (.int 2))) lNil)) lNil))))
  (sFldAug (eVar 0) w_copies opIAdd (eC (.int 1))))
  sPass) (CX (N + 7)) (envP (.change l x m)) (s.ob cy ++ rest) = some (.nx, envP (.change l x m), (s.pre cy (.change l x m)).ob cy ++ rest) := by
    by_cases hal : (cy.contains l && !aloneN s.sl x) = true
    · have ep : s.pre cy (.change l x m) = (s.move x (s.sl.map some) (s.sh x)).more := by unfold St.pre; simp only [hal, if_true]
      rw [ep]
      have ha' : ¬ aloneN s.sl x = true := by
        simp only [Bool.and_eq_true, Bool.not_eq_true'] at hal
        simp [hal.2]
      have hm := mvE_run (a := eBin opIx (eVar 1) (eC (.int 2))) (b := (eMeth (eVar 0) w_shown (lCons (eBin opIx (eVar 1) (eC (.int 2))) lNil))) (env := [some (Pl.change l x m).d]) (cy := cy) (rest := rest) h (so := s.sl.map some) (by simp [h.sl]) (fun f => set_some _ _ _) (free_alone h hx ha') hx (s.sh x) (N + 5) (e2 _) (shE_run h hx (N + 6) (e2 _))
      exact (if_t (by rw [ht, hal]; rfl)).trans ((seq_nx hm).trans more_run)
    · have ep : s.pre cy (.change l x m) = s := by unfold St.pre; simp only [hal, Bool.false_eq_true, if_false]
      rw [ep]
      have hal' : (cy.contains l && !aloneN s.sl x) = false := by simpa using hal
      exact (if_f (by rw [ht, hal'])).trans rfl
  refine (seq_nx first).trans ?_
  have hq := inv_pre (cy := cy) h (p := .change l x m) hp
  have hsh := hq.shn hx
  have := subaug_run (c := CX (N + 7)) (env := envP (.change l x m)) (a := eFld (eVar 0) w_contents) (i := (eBin opIx (eFld (eVar 0) w_slots) (eBin opIx (eVar 1) (eC (.int 2))))) (e := (eTup (lCons (eBin opIx (eVar 1) (eC (.int 3))) lNil))) (g := opIAdd) (st := (s.pre cy (.change l x m)).ob cy ++ rest) (k := 3) (j := (s.pre cy (.change l x m)).sl.getD x 0) (l := (s.pre cy (.change l x m)).ct.map pD) (v := pD ((s.pre cy (.change l x m)).sh x)) (y := .tup [.int (m : Int)]) (u := pD ((s.pre cy (.change l x m)).sh x ++ [m])) f_contents (slot_run hq hx (e2 _)) ob3 (by rw [List.getElem?_map, hsh.1]; rfl) rfl (by
    unfold pD
    simp only [opIAdd, List.length_map, List.length_singleton, List.map_append, List.map_cons, List.map_nil]
    rw [if_pos (by rw [lim_eq]; omega)])
  refine this.trans ?_
  exact congrArg (fun z => some (Fl.nx, envP (.change l x m), z)) (put_ob x _)
theorem do_run (hcy : cy.length ≤ 100) (h : s.inv n (k + 1)) {p : Pl} (hp : p.ok n) (N : Nat) : (CX (N + 8)).call F_Store__do [.loc 0, p.d] (s.ob cy ++ rest) = some (.ok .non, (s.act cy p).ob cy ++ rest) := by
  rw [cx_call, call_np fn_St_do (by decide)]
  have hb : b_Store__do (CX (N + 7)) (envP p) (s.ob cy ++ rest) = some (.nx, envP p, (s.act cy p).ob cy ++ rest) := by
    match p, hp with
    | .fresh x, hp => exact do_fresh h hp N
    | .give l x y, hp => exact do_give hcy h hp N
    | .change l x m, hp => exact do_change hcy h hp N
  exact fr_nx (env := envP p) rfl rfl hb
end
/-- the store -/
def mSt (n : Nat) (cy : List Nat) (hcy : cy.length ≤ 100) : Mach n where
  σ := St
  ob := St.ob cy
  L := 4
  inv := fun k s => s.inv n k
  act := St.act cy
  shown := fun s x => pD (s.sh x)
  len := fun s => rfl
  weak := fun k k' s h hk => h.weak hk
  keep := fun k s x h hx => inv_act h hx
  Fd := F_Store__do
  Fs := F_Store__shown
  resd := fun N s rest => res_do
  ress := fun N s rest => res_shown
  calld := fun N k s x rest h hx => do_run hcy h hx N
  calls := fun N k s x rest h hx => shown_run h hx (N + 7)
/-- a new one -/
def St.new (n : Nat) : St := ⟨List.range n, List.replicate n [], 0⟩
theorem new_inv {n : Nat} (hn : n ≤ 4) : (St.new n).inv n 1000000 := ⟨hn, by simp [St.new], by simp [St.new], fun a ha => by simpa [St.new] using ha, fun c hc => by
  have := (List.mem_replicate.mp hc).2
  subst this; simp⟩
theorem fn_St_init : prog.fns[F_Store____init__]? = some ⟨3, 3, b_Store____init__⟩ := rfl
theorem fn_run_store : prog.fns[F_run_store]? = some ⟨3, 4, b_run_store⟩ := rfl
theorem make_store {n : Nat} (hn : n ≤ 4) (b : List Stm) (cy : List Nat) (wd : D) (x : Option D) (N : Nat) : (sSet 3 (eMake C_Store F_Store____init__ (lCons (eBin opIx (eVar 0) (eC (.int 0))) (lCons (eVar 1) lNil)))) (CX (N + 1)) [some (prD n b), some (pD cy), some wd, x] [] = some (.nx, [some (prD n b), some (pD cy), some wd, some (.loc 0)], (St.new n).ob cy) := by
  match n, hn with
  | 0, _ => kernel_rfl
  | 1, _ => kernel_rfl
  | 2, _ => kernel_rfl
  | 3, _ => kernel_rfl
  | 4, _ => kernel_rfl
def runS (n : Nat) (b : List Stm) (cy : List Nat) (hcy : cy.length ≤ 100) (ws : List Nat) : List (Nat × D) × RunEnd × St := (mSt n cy hcy).run b ws (St.new n)
theorem lookD_lf (x : Nat × D) (h : D.lf x.2 = true) : D.lf (lookD x) = true := by
  show (true && (D.lf x.2 && true)) = true
  rw [h]; rfl
theorem RunEnd.lf (e : RunEnd) : D.lf e.d = true := by cases e <;> rfl
theorem resD_lf {r : List (Nat × D) × RunEnd} (h : ∀ x ∈ r.1, D.lf x.2 = true) : D.lf (resD r) = true := by
  have : ∀ l : List (Nat × D), (∀ x ∈ l, D.lf x.2 = true) → D.lfL (l.map lookD) = true := by
    intro l
    induction l with
    | nil => intro _; rfl
    | cons x l ih =>
      intro h
      simp only [List.map_cons, D.lfL, lookD_lf x (h x (by simp)), ih fun y hy => h y (by simp [hy]), Bool.and_self]
  show (D.lf (.tup (r.1.map lookD)) && (D.lf r.2.d && true)) = true
  rw [show D.lf (.tup (r.1.map lookD)) = true from this _ h, r.2.lf]; rfl
/-- what holds of all that is shown -/
theorem runW_all {n : Nat} {M : Mach n} {P : D → Prop} (hP : ∀ s x, P (M.shown s x)) (b : List Stm) : ∀ (ws : List Nat) (o : Option Nat) (s : M.σ) (lk : List (Nat × D)), (∀ x ∈ lk, P x.2) → ∀ x ∈ (M.runW b ws o s lk).1, P x.2
  | [], o, s, lk, h => h
  | _ :: _, none, s, lk, h => h
  | w :: ws, some k, s, lk, h => by
    rw [Mach.runW]
    cases stAt b ((spots b)[k]?.getD []) with
    | none => exact h
    | some t =>
      simp only
      by_cases hw : t.ways ≤ w
      · rw [if_pos hw]; exact h
      · rw [if_neg hw]
        refine runW_all hP b ws _ _ _ ?_
        cases t.look? with
        | none => exact h
        | some x =>
          intro y hy
          rcases List.mem_append.mp hy with hy | hy
          · exact h y hy
          · have : y = (k, M.shown s x) := by simpa using hy
            rw [this]; exact hP _ _
theorem run_store_run {n : Nat} {b : List Stm} (hP : PrOk n b) (hn : n ≤ 4) {cy : List Nat} (hcy : cy.length ≤ 100) {ws : List Nat} (hw : ws.length ≤ 2000) {N : Nat} (hN : 13 < N) (st : Stt) :
    (CX (N + 1)).call F_run_store [prD n b, pD cy, pD ws] st = some (.ok (.tup [.tup ((runS n b cy hcy ws).1.map lookD), (runS n b cy hcy ws).2.1.d, .int ((runS n b cy hcy ws).2.2.cp : Int)]), st) := by
  obtain ⟨M, rfl⟩ : ∃ M, N = M + 1 := ⟨N - 1, by omega⟩
  obtain ⟨l', e, _⟩ := run_on_run (M := mSt n cy hcy) hP (N := M) (kk := 0) (by omega) ws hw (s := St.new n) ((new_inv hn).weak (by omega))
  have lfr : D.lf (resD ((runS n b cy hcy ws).1, (runS n b cy hcy ws).2.1)) = true := resD_lf (runW_all (M := mSt n cy hcy) (P := fun d => D.lf d = true) (fun s x => pD_lf _) b ws _ _ [] (by simp))
  have lfd : D.lf (.tup [.tup ((runS n b cy hcy ws).1.map lookD), (runS n b cy hcy ws).2.1.d, .int ((runS n b cy hcy ws).2.2.cp : Int)]) = true := by
    have h1 : (D.lf (.tup ((runS n b cy hcy ws).1.map lookD)) && (D.lf (runS n b cy hcy ws).2.1.d && true)) = true := lfr
    simp only [Bool.and_eq_true] at h1
    show (D.lf (.tup ((runS n b cy hcy ws).1.map lookD)) && (D.lf (runS n b cy hcy ws).2.1.d && (true && true))) = true
    rw [h1.1, h1.2.1]; rfl
  rw [cx_call, call_p fn_run_store (by decide)]
  have h0 := make_store hn b cy (pD ws) none M
  have hcall : (eCall F_run_on (lCons (eVar 0) (lCons (eVar 3) (lCons (eVar 2) lNil)))) (CX (M + 1)) [some (prD n b), some (pD cy), some (pD ws), some (.loc 0)] ((St.new n).ob cy) = some (.ok (resD ((runS n b cy hcy ws).1, (runS n b cy hcy ws).2.1)), (runS n b cy hcy ws).2.2.ob cy ++ [.lst l']) :=
    call_run (lcons_run (var_run rfl) (lcons_run (var_run rfl) (lcons_run (var_run rfl) lnil_run))) e
  have hcp : (eTup (lCons (eFld (eVar 3) w_copies) lNil)) (CX (M + 1)) [some (prD n b), some (pD cy), some (pD ws), some (.loc 0)] ((runS n b cy hcy ws).2.2.ob cy ++ [.lst l']) = some (.ok (.tup [.int ((runS n b cy hcy ws).2.2.cp : Int)]), (runS n b cy hcy ws).2.2.ob cy ++ [.lst l']) := by kernel_rfl
  have h1 : (sRet (eBin opAdd (eCall F_run_on (lCons (eVar 0) (lCons (eVar 3) (lCons (eVar 2) lNil)))) (eTup (lCons (eFld (eVar 3) w_copies) lNil)))) (CX (M + 1)) [some (prD n b), some (pD cy), some (pD ws), some (.loc 0)] ((St.new n).ob cy) = some (.rt (.tup [.tup ((runS n b cy hcy ws).1.map lookD), (runS n b cy hcy ws).2.1.d, .int ((runS n b cy hcy ws).2.2.cp : Int)]), [some (prD n b), some (pD cy), some (pD ws), some (.loc 0)], (runS n b cy hcy ws).2.2.ob cy ++ [.lst l']) :=
    ret_run (bin_run hcall hcp (tadd_run _ (by show 2 + 1 < lim; decide)))
  have hb : b_run_store (CX (M + 1)) [some (prD n b), some (pD cy), some (pD ws), none] [] = some (.rt (.tup [.tup ((runS n b cy hcy ws).1.map lookD), (runS n b cy hcy ws).2.1.d, .int ((runS n b cy hcy ws).2.2.cp : Int)]), [some (prD n b), some (pD cy), some (pD ws), some (.loc 0)], (runS n b cy hcy ws).2.2.ob cy ++ [.lst l']) :=
    (seq_nx h0).trans h1
  exact opt_run (lf3 (prD_lf n b) (pD_lf cy) (pD_lf ws)) (fr_rt rfl rfl hb) (fun _ z => by cases z) lfd
end MI

set_option autoImplicit false
set_option maxRecDepth 100000
set_option linter.all false
/-! R9s: slots_behind runs. -/
namespace MI
open PySem
theorem fn_slots_behind : prog.fns[F_slots_behind]? = some ⟨3, 4, b_slots_behind⟩ := rfl
theorem slots_behind_run {n : Nat} {b : List Stm} (hP : PrOk n b) (hn : n ≤ 4) {cy : List Nat} (hcy : cy.length ≤ 100) {ws : List Nat} (hw : ws.length ≤ 2000) {N : Nat} (hN : 13 < N) (st : Stt) :
    (CX (N + 1)).call F_slots_behind [prD n b, pD cy, pD ws] st = some (.ok (.xtup ((runS n b cy hcy ws).2.2.sl.map fun (k : Nat) => D.int (k : Int))), st) := by
  obtain ⟨M, rfl⟩ : ∃ M, N = M + 1 := ⟨N - 1, by omega⟩
  obtain ⟨l', e, _⟩ := run_on_run (M := mSt n cy hcy) hP (N := M) (kk := 0) (by omega) ws hw (s := St.new n) ((new_inv hn).weak (by omega))
  rw [cx_call, call_p fn_slots_behind (by decide)]
  have h0 := make_store hn b cy (pD ws) none M
  have hcall : (eCall F_run_on (lCons (eVar 0) (lCons (eVar 3) (lCons (eVar 2) lNil)))) (CX (M + 1)) [some (prD n b), some (pD cy), some (pD ws), some (.loc 0)] ((St.new n).ob cy) = some (.ok (resD ((runS n b cy hcy ws).1, (runS n b cy hcy ws).2.1)), (runS n b cy hcy ws).2.2.ob cy ++ [.lst l']) :=
    call_run (lcons_run (var_run rfl) (lcons_run (var_run rfl) (lcons_run (var_run rfl) lnil_run))) e
  have h2 : (eUn bTupleX (eFld (eVar 3) w_slots)) (CX (M + 1)) [some (prD n b), some (pD cy), some (pD ws), some (.loc 0)] ((runS n b cy hcy ws).2.2.ob cy ++ [.lst l']) = some (.ok (.xtup ((runS n b cy hcy ws).2.2.sl.map fun (k : Nat) => D.int (k : Int))), (runS n b cy hcy ws).2.2.ob cy ++ [.lst l']) := by
    rw [← some_spD]; kernel_rfl
  have hb : b_slots_behind (CX (M + 1)) [some (prD n b), some (pD cy), some (pD ws), none] [] = some (.rt (.xtup ((runS n b cy hcy ws).2.2.sl.map fun (k : Nat) => D.int (k : Int))), [some (prD n b), some (pD cy), some (pD ws), some (.loc 0)], (runS n b cy hcy ws).2.2.ob cy ++ [.lst l']) :=
    (seq_nx h0).trans ((seq_nx (expr_run hcall)).trans (ret_run h2))
  exact opt_run (lf3 (prD_lf n b) (pD_lf cy) (pD_lf ws)) (fr_rt rfl rfl hb) (fun _ z => by cases z) (pD_lf _)
end MI

set_option autoImplicit false
set_option maxRecDepth 100000
set_option linter.all false
/-! R11g: two kinds of state go together (the part of R11 that needs no sharing). -/
namespace MI
open PySem
/-- two kinds of state that go together -/
structure Go {n : Nat} (A B : Mach n) (R : A.σ → B.σ → Prop) (V : D → D → Prop) : Prop where
  act : ∀ k s h x, R s h → A.inv (k + 1) s → B.inv (k + 1) h → x.ok n → R (A.act s x) (B.act h x)
  sh : ∀ s h x, R s h → x < n → V (A.shown s x) (B.shown h x)
theorem go_acts {n : Nat} {A B : Mach n} {R : A.σ → B.σ → Prop} {V : D → D → Prop} (G : Go A B R V) : ∀ (xs : List Pl) (k : Nat) (s : A.σ) (h : B.σ), R s h → A.inv (xs.length + k) s → B.inv (xs.length + k) h → (∀ x ∈ xs, x.ok n) → R (A.acts s xs) (B.acts h xs)
  | [], _, _, _, r, _, _, _ => r
  | x :: xs, k, s, h, r, is, ih, hx => by
    have is' : A.inv (xs.length + k + 1) s := A.weak _ _ _ is (by simp only [List.length_cons]; omega)
    have ih' : B.inv (xs.length + k + 1) h := B.weak _ _ _ ih (by simp only [List.length_cons]; omega)
    exact go_acts G xs k _ _ (G.act _ _ _ _ r is' ih' (hx x (by simp))) (A.keep _ _ _ is' (hx x (by simp))) (B.keep _ _ _ ih' (hx x (by simp))) fun y hy => hx y (by simp [hy])
/-- the lists of looks go together -/
def Looks (V : D → D → Prop) : List (Nat × D) → List (Nat × D) → Prop
  | [], [] => True
  | x :: l, y :: m => (x.1 = y.1 ∧ V x.2 y.2) ∧ Looks V l m
  | _, _ => False
theorem looks_snoc {V : D → D → Prop} {k : Nat} {a b : D} (h : V a b) : ∀ {l m : List (Nat × D)}, Looks V l m → Looks V (l ++ [(k, a)]) (m ++ [(k, b)])
  | [], [], _ => ⟨⟨rfl, h⟩, trivial⟩
  | x :: l, y :: m, q => ⟨q.1, looks_snoc h q.2⟩
  | [], _ :: _, q => q.elim
  | _ :: _, [], q => q.elim
theorem looks_eq : ∀ {l m : List (Nat × D)}, Looks (fun a b => a = b) l m → l = m
  | [], [], _ => rfl
  | (x, a) :: l, (y, b) :: m, q => by rw [show (x, a) = (y, b) from Prod.ext q.1.1 q.1.2, looks_eq q.2]
  | [], _ :: _, q => q.elim
  | _ :: _, [], q => q.elim
theorem go_runW {n : Nat} {A B : Mach n} {R : A.σ → B.σ → Prop} {V : D → D → Prop} (G : Go A B R V) {b : List Stm} (hP : PrOk n b) : ∀ (ws : List Nat) (k : Nat) (o : Option Nat) (s : A.σ) (h : B.σ) (lk ml : List (Nat × D)), R s h → Looks V lk ml → A.inv (200 * ws.length + k) s → B.inv (200 * ws.length + k) h → (∀ k, o = some k → k < (spots b).length) →
    Looks V (A.runW b ws o s lk).1 (B.runW b ws o h ml).1 ∧ (A.runW b ws o s lk).2.1 = (B.runW b ws o h ml).2.1 ∧ R (A.runW b ws o s lk).2.2 (B.runW b ws o h ml).2.2
  | [], k, o, s, h, lk, ml, r, v, is, ih, ho => ⟨v, rfl, r⟩
  | _ :: _, k, none, s, h, lk, ml, r, v, is, ih, ho => ⟨v, rfl, r⟩
  | w :: ws, k, some j, s, h, lk, ml, r, v, is, ih, ho => by
    have hj := ho j rfl
    have hq : (spots b)[j]? = some (spots b)[j] := List.getElem?_eq_getElem hj
    obtain ⟨t, ht, hsp⟩ := spot_get hq
    rw [runW_some, runW_some, hq]
    simp only [Option.getD_some, ht]
    by_cases hw : t.ways ≤ w
    · simp only [hw, if_true]; exact ⟨v, trivial, r⟩
    · simp only [hw, if_false]
      have fok := flowF_ok hP hq ht (w := w) (by omega)
      have few := fok.few
      have is2 : A.inv ((flowF b j w).1.length + (200 * ws.length + k)) s := A.weak _ _ _ is (by simp only [List.length_cons]; omega)
      have ih2 : B.inv ((flowF b j w).1.length + (200 * ws.length + k)) h := B.weak _ _ _ ih (by simp only [List.length_cons]; omega)
      have el : Looks V (match t.look? with
        | some x => lk ++ [(j, A.shown s x)]
        | none => lk) (match t.look? with
        | some x => ml ++ [(j, B.shown h x)]
        | none => ml) := by
        cases hlk : t.look? with
        | none => exact v
        | some x =>
          have ht' : t = .look x := by
            match t, hlk with
            | .look y, e => cases e; rfl
          subst ht'
          obtain ⟨kk, hok⟩ := stAt_ok hP ht
          have hx : x < n := by cases kk <;> exact hok
          exact looks_snoc (G.sh s h x r hx) v
      exact go_runW G hP ws k _ _ _ _ _ (go_acts G _ _ _ _ r is2 ih2 fok.pls) el (acts_inv A _ _ _ is2 fok.pls) (acts_inv B _ _ _ ih2 fok.pls) fok.spot
theorem go_run {n : Nat} {A B : Mach n} {R : A.σ → B.σ → Prop} {V : D → D → Prop} (G : Go A B R V) {b : List Stm} (hP : PrOk n b) {ws : List Nat} {s : A.σ} {h : B.σ} (r : R s h) (is : A.inv (200 * (ws.length + 1)) s) (ih : B.inv (200 * (ws.length + 1)) h) :
    Looks V (A.run b ws s).1 (B.run b ws h).1 ∧ (A.run b ws s).2.1 = (B.run b ws h).2.1 ∧ R (A.run b ws s).2.2 (B.run b ws h).2.2 := by
  have fok := flowS_ok hP
  have few := fok.few
  have is2 : A.inv ((flowS b).1.length + (200 * ws.length + 0)) s := A.weak _ _ _ is (by omega)
  have ih2 : B.inv ((flowS b).1.length + (200 * ws.length + 0)) h := B.weak _ _ _ ih (by omega)
  exact go_runW G hP ws 0 _ _ _ [] [] (go_acts G _ _ _ _ r is2 ih2 fok.pls) trivial (acts_inv A _ _ _ is2 fok.pls) (acts_inv B _ _ _ ih2 fok.pls) fok.spot
theorem run_inv {n : Nat} {A : Mach n} {b : List Stm} (hP : PrOk n b) {ws : List Nat} (hw : ws.length ≤ 2000) {k : Nat} {s : A.σ} (is : A.inv (200 * (ws.length + 1) + k) s) : A.inv k (A.run b ws s).2.2 := by
  obtain ⟨_, _, i1⟩ := run_on_run (M := A) hP (N := 12) (kk := k) (by omega) ws hw is
  exact i1
end MI

set_option autoImplicit false
set_option maxRecDepth 100000
set_option linter.all false
/-! R13: drawing programs. -/
namespace MI
open PySem
theorem fn_pen : prog.fns[F__law_pen]? = some ⟨1, 1, b__law_pen⟩ := rfl
theorem fn_fresh : prog.fns[F__law_fresh]? = some ⟨1, 7, b__law_fresh⟩ := rfl
theorem fn_draw : prog.fns[F__law_draw]? = some ⟨2, 3, b__law_draw⟩ := rfl
theorem eq_pen : b__law_pen = q_pen := rfl
theorem eq_fresh : b__law_fresh = q_fresh := rfl
theorem eq_draw : b__law_draw = q_draw F__law_fresh := rfl
theorem fresh_at (N : Nat) (xs : List Int) (hx : xs.length ≤ 63) (a q : Int) (rest : Stt) : ∃ v, prog.call 3000 (N + 1) F__law_fresh [.loc 0] (penO xs a q :: rest) = some (.ok (.int v), penO xs (a + 1) q :: rest) := by
  rw [call_np fn_fresh (by decide)]
  obtain ⟨v, env', h⟩ := fresh_run ⟨prog.call 3000 N, prog.meth, prog.fld, 3000⟩ (by show 6 < 3000; decide) xs (by rw [lim_eq]; omega) a q rest
  exact ⟨v, run_rt rfl (by rw [eq_fresh]; exact h)⟩
/-- the law's pen stands at 0 -/
def Pen (xs : List Int) (st : Stt) : Prop := ∃ a q, st[0]? = some (penO xs a q)
theorem draw_at (N : Nat) {xs : List Int} (hx : xs.length ≤ 63) {many : Nat} (h0 : 0 < many) (h1 : many < 1000) {st : Stt} (hp : Pen xs st) :
    ∃ m a' q', m < many ∧ (CX (N + 2)).call F__law_draw [.loc 0, .int (many : Int)] st = some (.ok (.int ((m : Nat) : Int)), st.set 0 (penO xs a' q')) := by
  obtain ⟨a, q, hp⟩ := hp
  cases st with
  | nil => simp at hp
  | cons o rest =>
    have e : o = penO xs a q := by simpa using hp
    subst e
    rw [cx_call, call_np fn_draw (by decide)]
    obtain ⟨m, a', q', env', p0, p1, h⟩ := draw_run ⟨prog.call 3000 (N + 1), prog.meth, prog.fld, 3000⟩ F__law_fresh xs (many : Int) (by omega) (by omega) a q rest (fresh_at N xs hx a q rest)
    obtain ⟨k, rfl⟩ := Int.eq_ofNat_of_zero_le p0
    exact ⟨k, a', q', by omega, run_rt rfl (by rw [eq_draw]; exact h)⟩
theorem pen_set0 {xs : List Int} {st : Stt} (hp : Pen xs st) (a q : Int) : Pen xs (st.set 0 (penO xs a q)) := by
  obtain ⟨a0, q0, hp⟩ := hp
  have := (List.getElem?_eq_some_iff.mp hp).1
  exact ⟨a, q, by rw [List.getElem?_set_self this]⟩
/-- only the pen and what stands at k are changed; more may be there -/
structure Fr (k : Nat) (st st' : Stt) : Prop where
  len : st.length ≤ st'.length
  same : ∀ i, i < st.length → i ≠ 0 → i ≠ k → st'[i]? = st[i]?
theorem Fr.refl (k : Nat) (st : Stt) : Fr k st st := ⟨Nat.le_refl _, fun _ _ _ _ => rfl⟩
theorem Fr.trans {k : Nat} {a b c : Stt} (h : Fr k a b) (g : Fr k b c) : Fr k a c := ⟨Nat.le_trans h.len g.len, fun i hi h0 hk => (g.same i (Nat.lt_of_lt_of_le hi h.len) h0 hk).trans (h.same i hi h0 hk)⟩
theorem Fr.set0 (k : Nat) (st : Stt) (o : Ob) : Fr k st (st.set 0 o) := ⟨by simp, fun i _ h0 _ => List.getElem?_set_ne (Ne.symm h0)⟩
theorem Fr.setk (k : Nat) (st : Stt) (o : Ob) : Fr k st (st.set k o) := ⟨by simp, fun i _ _ hk => List.getElem?_set_ne (Ne.symm hk)⟩
def szO (d s p : Nat) : Ob := .lst [.int (d : Int), .int (s : Int), .int (p : Int)]
/-- the pen, and the sizes at k -/
structure DS (xs : List Int) (k d s p : Nat) (st : Stt) : Prop where
  pen : Pen xs st
  sz : st[k]? = some (szO d s p)
  k0 : k ≠ 0
theorem DS.set0 {xs : List Int} {k d s p : Nat} {st : Stt} (h : DS xs k d s p st) (a q : Int) : DS xs k d s p (st.set 0 (penO xs a q)) := ⟨pen_set0 h.pen a q, by rw [List.getElem?_set_ne (Ne.symm h.k0)]; exact h.sz, h.k0⟩
theorem DS.setk {xs : List Int} {k d s p : Nat} {st : Stt} (h : DS xs k d s p st) (d' s' p' : Nat) : DS xs k d' s' p' (st.set k (szO d' s' p')) := by
  obtain ⟨a, q, e⟩ := h.pen
  exact ⟨⟨a, q, by rw [List.getElem?_set_ne h.k0]; exact e⟩, by rw [List.getElem?_set_self (List.getElem?_eq_some_iff.mp h.sz).1], h.k0⟩
/-- a draw -/
theorem DS.draw {xs : List Int} (hx : xs.length ≤ 63) {k d s p : Nat} {st : Stt} (h : DS xs k d s p st) (N : Nat) {many : Nat} (h0 : 0 < many) (h1 : many < 1000) : ∃ m st', m < many ∧ (CX (N + 2)).call F__law_draw [.loc 0, .int (many : Int)] st = some (.ok (.int ((m : Nat) : Int)), st') ∧ DS xs k d s p st' ∧ Fr k st st' := by
  obtain ⟨m, a, q, hm, e⟩ := draw_at N hx h0 h1 h.pen
  exact ⟨m, _, hm, e, h.set0 a q, Fr.set0 k st _⟩
mutual
def Stm.cnt : Stm → Nat
  | .br _ bs => 1 + cntBs bs
  | .pl _ => 1
  | .look _ => 1
def cntB : List Stm → Nat
  | [] => 0
  | s :: r => s.cnt + cntB r
def cntBs : List (List Stm) → Nat
  | [] => 0
  | b :: r => cntB b + cntBs r
end
theorem cntB_snoc : ∀ (b : List Stm) (s : Stm), cntB (b ++ [s]) = cntB b + s.cnt
  | [], s => by simp [cntB]
  | x :: b, s => by simp [cntB, cntB_snoc b s]; omega
theorem cntBs_snoc : ∀ (b : List (List Stm)) (s : List Stm), cntBs (b ++ [s]) = cntBs b + cntB s
  | [], s => by simp [cntBs]
  | x :: b, s => by simp [cntBs, cntBs_snoc b s]; omega
mutual
theorem psS_cnt : ∀ (s : Stm) (p : List Nat), (psS s p).length + 1 = s.cnt
  | .br _ bs, p => by rw [psS, Stm.cnt, psBs_cnt bs p 0]; omega
  | .pl _, _ => rfl
  | .look _, _ => rfl
theorem psB_cnt : ∀ (b : List Stm) (p : List Nat) (i : Nat), (psB b p i).length = cntB b
  | [], _, _ => rfl
  | s :: b, p, i => by
    have := psS_cnt s (p ++ [i])
    rw [psB, cntB, List.length_cons, List.length_append, psB_cnt b p (i + 1)]; omega
theorem psBs_cnt : ∀ (b : List (List Stm)) (p : List Nat) (i : Nat), (psBs b p i).length = cntBs b
  | [], _, _ => rfl
  | s :: b, p, i => by rw [psBs, cntBs, List.length_append, psB_cnt s (p ++ [i]) 0, psBs_cnt b p (i + 1)]
end
theorem okB_snoc {n k : Nat} : ∀ {b : List Stm} {s : Stm}, okB n k b → s.ok n k → okB n k (b ++ [s])
  | [], _, _, h => ⟨h, trivial⟩
  | _ :: _, _, hb, h => ⟨hb.1, okB_snoc hb.2 h⟩
theorem okBs_snoc {n k : Nat} : ∀ {b : List (List Stm)} {s : List Stm}, okBs n k b → (s.length ≤ 8 ∧ okB n k s) → okBs n k (b ++ [s])
  | [], _, _, h => ⟨h, trivial⟩
  | _ :: _, _, hb, h => ⟨hb.1, okBs_snoc hb.2 h⟩
mutual
theorem ok_mono {n : Nat} : ∀ (s : Stm) (k : Nat), s.ok n k → s.ok n (k + 1)
  | .br lp bs, 0, h => h.elim
  | .br lp bs, k + 1, h => ⟨h.1, h.2.1, okBs_mono bs k h.2.2⟩
  | .pl p, k, h => by cases k <;> exact h
  | .look x, k, h => by cases k <;> exact h
theorem okB_mono {n : Nat} : ∀ (b : List Stm) (k : Nat), okB n k b → okB n (k + 1) b
  | [], _, _ => trivial
  | s :: r, k, h => ⟨ok_mono s k h.1, okB_mono r k h.2⟩
theorem okBs_mono {n : Nat} : ∀ (b : List (List Stm)) (k : Nat), okBs n k b → okBs n (k + 1) b
  | [], _, _ => trivial
  | s :: r, k, h => ⟨⟨h.1.1, okB_mono s k h.1.2⟩, okBs_mono r k h.2⟩
end
theorem ok_pl {n k : Nat} {p : Pl} (h : p.ok n) : (Stm.pl p).ok n k := by cases k <;> exact h
theorem ok_look {n k x : Nat} (h : x < n) : (Stm.look x).ok n k := by cases k <;> exact h
theorem blL_snoc (b : List Stm) (s : Stm) : blL (b ++ [s]) = blL b ++ [s.d] := by simp [blL_map]
theorem bsL_snoc (b : List (List Stm)) (s : List Stm) : bsL (b ++ [s]) = bsL b ++ [.tup (blL s)] := by simp [bsL_map]
theorem fn_statement : prog.fns[F__law_statement]? = some ⟨4, 9, b__law_statement⟩ := rfl
theorem fn_block : prog.fns[F__law_block]? = some ⟨4, 6, b__law_block⟩ := rfl
/-- a drawn statement -/
def SSpec (xs : List Int) (n L d : Nat) : Prop := ∀ (N k s p : Nat) (st : Stt), 2 * d + 4 ≤ N → DS xs k d s p st → 0 < s →
  ∃ (t : Stm) (st' : Stt) (s' p' : Nat), (CX N).call F__law_statement [.loc 0, .int (n : Int), .int (L : Int), .loc k] st = some (.ok t.d, st') ∧ t.ok n d ∧ DS xs k d s' p' st' ∧ s' + t.cnt ≤ s ∧ Fr k st st'
def BSpec (xs : List Int) (n L d : Nat) : Prop := ∀ (N k s p : Nat) (st : Stt), 2 * d + 5 ≤ N → DS xs k d s p st →
  ∃ (b : List Stm) (st' : Stt) (s' p' : Nat), (CX N).call F__law_block [.loc 0, .int (n : Int), .int (L : Int), .loc k] st = some (.ok (.tup (blL b)), st') ∧ okB n d b ∧ b.length ≤ 3 ∧ DS xs k d s' p' st' ∧ s' + cntB b ≤ s ∧ Fr k st st'
theorem sz_get {xs : List Int} {k d s p : Nat} {st : Stt} (h : DS xs k d s p st) {i : SE} {c : Ctx} {env : Env} {x1 x2 x3 : Option D} {j v : Nat} (hj : ([d, s, p] : List Nat)[j]? = some v) : (eBin opIx (eVar 3) (eC (.int (j : Int)))) c (x1 :: x2 :: x3 :: some (.loc k) :: env) st = some (.ok (.int (v : Int)), st) := by
  refine bin_run (var_run (x := .loc k) rfl) (y := .int (j : Int)) rfl (ix_loc h.sz ?_)
  have : ([d, s, p].map fun (k : Nat) => D.int (k : Int))[j]? = some (.int (v : Int)) := by rw [List.getElem?_map, hj]; rfl
  exact this
end MI

set_option autoImplicit false
set_option maxRecDepth 100000
set_option linter.all false
/-! R14: drawing statements and blocks. -/
namespace MI
open PySem
theorem DS.setq {xs : List Int} {k d s p q : Nat} {st : Stt} (h : DS xs k d s p st) (o : Ob) (q0 : q ≠ 0) (qk : q ≠ k) : DS xs k d s p (st.set q o) := by
  obtain ⟨a, b, e⟩ := h.pen
  exact ⟨⟨a, b, by rw [List.getElem?_set_ne q0]; exact e⟩, by rw [List.getElem?_set_ne qk]; exact h.sz, h.k0⟩
theorem Fr.setq {k q : Nat} {a b : Stt} (h : Fr k a b) (o : Ob) (hq : a.length ≤ q) : Fr k a (b.set q o) := ⟨by simp [h.len], fun i hi h0 hk => by rw [List.getElem?_set_ne (by omega)]; exact h.same i hi h0 hk⟩
theorem DS.push {xs : List Int} {k d s p : Nat} {st : Stt} (h : DS xs k d s p st) (o : Ob) : DS xs k d s p (st ++ [o]) := by
  obtain ⟨a, b, e⟩ := h.pen
  refine ⟨⟨a, b, ?_⟩, ?_, h.k0⟩
  · rw [List.getElem?_append_left (List.getElem?_eq_some_iff.mp e).1]; exact e
  · rw [List.getElem?_append_left (List.getElem?_eq_some_iff.mp h.sz).1]; exact h.sz
theorem Fr.push (k : Nat) (st : Stt) (o : Ob) : Fr k st (st ++ [o]) := ⟨by simp, fun i hi _ _ => List.getElem?_append_left hi⟩
theorem gt0_run (s : Nat) (st : Stt) : opGt (.int (s : Int)) (.int 0) st = some (.ok (.bl (decide (0 < s))), st) := by
  have : (decide ((0 : Int) < (s : Int))) = decide (0 < s) := by simp
  simp only [opGt, this]
/-- a draw said in a call -/
theorem drawE {xs : List Int} (hx : xs.length ≤ 63) {k d s p : Nat} {st : Stt} (h : DS xs k d s p st) (N : Nat) {many : Nat} (h0 : 0 < many) (h1 : many < 1000) {e : SE} {env : Env} (he : ∀ st, e (CX (N + 2)) (some (.loc 0) :: env) st = some (.ok (.int (many : Int)), st)) :
    ∃ m st', m < many ∧ eCall F__law_draw (lCons (eVar 0) (lCons e lNil)) (CX (N + 2)) (some (.loc 0) :: env) st = some (.ok (.int ((m : Nat) : Int)), st') ∧ DS xs k d s p st' ∧ Fr k st st' := by
  obtain ⟨m, st', hm, e1, h2, f⟩ := h.draw hx N h0 h1
  refine ⟨m, st', hm, ?_, h2, f⟩
  unfold eCall
  rw [bnd_ok (lcons_run (var_run (x := .loc 0) rfl) (lcons_run (he st) lnil_run))]
  exact e1
theorem block_of {xs : List Int} (hx : xs.length ≤ 63) {n L d : Nat} (hS : SSpec xs n L d) : BSpec xs n L d := by
  intro N k s p st hN h
  obtain ⟨M, rfl⟩ : ∃ M, N = M + 3 := ⟨N - 3, by omega⟩
  have hk0 := h.k0
  have hkl := (List.getElem?_eq_some_iff.mp h.sz).1
  rw [cx_call, call_np fn_block (by decide)]
  obtain ⟨m, st1, hm, e1, h1, f1⟩ := drawE hx (h.push (.lst [])) M (many := 4) (by omega) (by omega) (e := eC (.int 4)) (env := [some (.int (n : Int)), some (.int (L : Int)), some (.loc k), some (.loc st.length), none]) (fun _ => rfl)
  have q1 : st1[st.length]? = some (.lst []) := by
    rw [f1.same st.length (by simp) (by omega) (by omega)]; simp
  have len1 : st.length < st1.length := (List.getElem?_eq_some_iff.mp q1).1
  have ff : Fr k st st1 := (Fr.push k st _).trans f1
  have h0 : b__law_block_0 (CX (M + 2)) [some (.loc 0), some (.int (n : Int)), some (.int (L : Int)), some (.loc k), none, none] st = some (.nx, [some (.loc 0), some (.int (n : Int)), some (.int (L : Int)), some (.loc k), some (.loc st.length), none], st ++ [.lst []]) :=
    set_run (lst_new lnil_run (by decide)) (by show 4 < 6; decide)
  obtain ⟨env', st', e, x5, b, s', p', rfl, hb1, hb2, hb3, hb4, hb5, hb6⟩ := for_inv (g := gVar 5) (it := iRange1 (eCall F__law_draw (lCons (eVar 0) (lCons (eC (.int 4)) lNil)))) (b := (sIf (cB (eBin opGt (eBin opIx (eVar 3) (eC (.int 1))) (eC (.int 0))))
  (sExpr (eMt1 isLst mAppend (eVar 4) (eCall F__law_statement (lCons (eVar 0) (lCons (eVar 1) (lCons (eVar 2) (lCons (eVar 3) lNil)))))))
  sPass)) (c := CX (M + 2)) (env := [some (.loc 0), some (.int (n : Int)), some (.int (L : Int)), some (.loc k), some (.loc st.length), none]) (st := st ++ [.lst []]) (st1 := st1) (l := (List.range m).map fun (k : Nat) => D.int (k : Int))
    (fun i env st' => ∃ x5 b s' p', env = [some (.loc 0), some (.int (n : Int)), some (.int (L : Int)), some (.loc k), some (.loc st.length), x5] ∧ b.length ≤ i ∧ okB n d b ∧ DS xs k d s' p' st' ∧ s' + cntB b ≤ s ∧ st'[st.length]? = some (.lst (blL b)) ∧ Fr k st st')
    (range1_run e1 (by rw [lim_eq]; omega)) ⟨none, [], s, p, rfl, by simp, trivial, h1, by simp [cntB], q1, ff⟩ (by rw [List.length_map, List.length_range]; show m < 3000; omega) (by
      rintro i x env st' hd ⟨x5, b, s', p', rfl, hb1, hb2, hb3, hb4, hb5, hb6⟩
      have hil : i < m := by have := (List.getElem?_eq_some_iff.mp hd).1; simpa using this
      have ht : (cB (eBin opGt (eBin opIx (eVar 3) (eC (.int 1))) (eC (.int 0)))) (CX (M + 2)) [some (.loc 0), some (.int (n : Int)), some (.int (L : Int)), some (.loc k), some (.loc st.length), some x] st' = some (.ok (decide (0 < s')), st') :=
        cB_run (bin_run (y := .int 0) (sz_get (i := eVar 0) hb3 (j := 1) rfl) rfl (gt0_run s' _))
      by_cases hs : 0 < s'
      · obtain ⟨t, st2, s2, p2, e2, ok2, ds2, c2, f2⟩ := hS (M + 2) k s' p' st' (by omega) hb3 hs
        have q2 : st2[st.length]? = some (.lst (blL b)) := by
          rw [f2.same st.length (List.getElem?_eq_some_iff.mp hb5).1 (by omega) (by omega)]; exact hb5
        have hcall : eCall F__law_statement (lCons (eVar 0) (lCons (eVar 1) (lCons (eVar 2) (lCons (eVar 3) lNil)))) (CX (M + 2)) [some (.loc 0), some (.int (n : Int)), some (.int (L : Int)), some (.loc k), some (.loc st.length), some x] st' = some (.ok t.d, st2) := by
          unfold eCall
          rw [bnd_ok (a := [.loc 0, .int (n : Int), .int (L : Int), .loc k]) (st1 := st') rfl]
          exact e2
        have ap := append_run (c := CX (M + 2)) (env := [some (.loc 0), some (.int (n : Int)), some (.int (L : Int)), some (.loc k), some (.loc st.length), some x]) (a := eVar 4) (k := st.length) (var_run rfl) hb5 hcall q2 (by rw [blL_len, lim_eq]; omega)
        refine ⟨_, _, turn_var (by show 5 < 6; decide) ((if_t (by rw [← decide_eq_true hs]; exact ht)).trans (expr_run ap)), some x, b ++ [t], s2, p2, rfl, by simp; omega, okB_snoc hb2 ok2, ds2.setq _ (by omega) (by omega), by rw [cntB_snoc]; omega, ?_, (hb6.trans f2).setq _ (Nat.le_refl _)⟩
        rw [List.getElem?_set_self (List.getElem?_eq_some_iff.mp q2).1, blL_snoc]
      · exact ⟨_, _, turn_var (by show 5 < 6; decide) ((if_f (by rw [← decide_eq_false hs]; exact ht)).trans rfl), some x, b, s', p', rfl, by omega, hb2, hb3, hb4, hb5, hb6⟩)
  rw [List.length_map, List.length_range] at hb1
  have hbody : b__law_block (CX (M + 2)) [some (.loc 0), some (.int (n : Int)), some (.int (L : Int)), some (.loc k), none, none] st = some (.rt (.tup (blL b)), [some (.loc 0), some (.int (n : Int)), some (.int (L : Int)), some (.loc k), some (.loc st.length), x5], st') := by
    unfold b__law_block
    rw [seq_nx h0]
    refine (seq_nx (a := b__law_block_1) e).trans ?_
    exact ret_run (tuple_loc (var_run rfl) hb5)
  exact ⟨b, st', s', p', fr_rt rfl rfl hbody, hb2, by omega, hb3, hb4, hb6⟩
end MI

set_option autoImplicit false
set_option maxRecDepth 100000
set_option linter.all false
/-! R15: drawing statements. -/
namespace MI
open PySem
theorem ltN_run (i l : Nat) (st : Stt) : opLt (.int (i : Int)) (.int (l : Int)) st = some (.ok (.bl (decide (i < l))), st) := lt_run i l st
theorem gtN_run (i l : Nat) (st : Stt) : opGt (.int (i : Int)) (.int (l : Int)) st = some (.ok (.bl (decide (l < i))), st) := by
  simp only [opGt, Int.ofNat_lt]
theorem and_f {a b : ST} {c : Ctx} {env : Env} {st : Stt} (h1 : a c env st = some (.ok false, st)) : cAnd a b c env st = some (.ok false, st) := by
  unfold cAnd
  rw [bnd_ok h1]; rfl
abbrev eS (n L k : Nat) (x4 x5 x6 x7 x8 : Option D) : Env := [some (.loc 0), some (.int (n : Int)), some (.int (L : Int)), some (.loc k), x4, x5, x6, x7, x8]
section
variable {xs : List Int} {n L d k s p N : Nat} {st : Stt}
/-- sizes[j] = sizes[j] - 1 -/
theorem dec_run {c : Ctx} {x4 x5 x6 x7 x8 : Option D} {j v : Nat} (h : DS xs k d s p st) (hj : ([d, s, p] : List Nat)[j]? = some (v + 1)) (op : D → D → R D) (hop : op (.int ((v + 1 : Nat) : Int)) (.int 1) st = some (.ok (.int (v : Int)), st)) :
    (sAsg (gSub (eVar 3) (eC (.int (j : Int)))) (eBin op (eBin opIx (eVar 3) (eC (.int (j : Int)))) (eC (.int 1)))) c (eS n L k x4 x5 x6 x7 x8) st = some (.nx, eS n L k x4 x5 x6 x7 x8, st.set k (.lst (([d, s, p].map fun (k : Nat) => D.int (k : Int)).set j (.int (v : Int))))) := by
  have h1 := (List.getElem?_eq_some_iff.mp hj).1
  exact asg_sub (c := c) (env := eS n L k x4 x5 x6 x7 x8) (a := eVar 3) (i := eC (.int (j : Int))) (k := k) (j := j) (l := [.int (d : Int), .int (s : Int), .int (p : Int)]) (bin_run (y := .int 1) (sz_get (i := eVar 0) h hj) rfl hop) (var_run rfl) rfl h.sz (by simpa using h1)
theorem sub1 (v : Nat) (st : Stt) : opSub (.int ((v + 1 : Nat) : Int)) (.int 1) st = some (.ok (.int (v : Int)), st) := by
  have : ((v + 1 : Nat) : Int) - 1 = (v : Int) := by omega
  simp only [opSub, this]
end
theorem gsub_run {a i : SE} {c : Ctx} {env : Env} {st : Stt} {k j : Nat} {l : List D} {d : D} (ha : a c env st = some (.ok (.loc k), st)) (hi : i c env st = some (.ok (.int (j : Int)), st)) (hk : st[k]? = some (.lst l)) (hj : j < l.length) : gSub a i c d env st = some (env, st.set k (.lst (l.set j d))) := by
  simp only [gSub, gBnd, ha, hi, putIx, setIx, hk, ixN_ofNat hj]
theorem asg_two' {g1 g2 : SG} {e : SE} {c : Ctx} {env env1 env2 : Env} {st st1 st2 st3 : Stt} {x y : D} (he : e c env st = some (.ok (.tup [x, y]), st1)) (h1 : g1 c x env st1 = some (env1, st2)) (h2 : g2 c y env1 st2 = some (env2, st3)) : sAsg (gTup 2 (gCons g1 (gCons g2 gNil))) e c env st = some (.nx, env2, st3) := by
  unfold sAsg sBnd
  rw [he]
  simp only [gTup, List.length_cons, List.length_nil, if_true, gCons, h1, h2, gNil]
theorem mod_ne {n x m : Nat} (hn : n ≤ 4) (h1 : 1 < n) (hx : x < n) (hm : m < n - 1) : (x + 1 + m) % n < n ∧ (x + 1 + m) % n ≠ x := by
  match n, hn, h1 with
  | 2, _, _ => omega
  | 3, _, _ => omega
  | 4, _, _ => omega
theorem often_get (m : Nat) (hm : m < 4) : ∃ o, 1 ≤ o ∧ o ≤ 3 ∧ ([.int 1, .int 2, .int 2, .int 3] : List D)[m]? = some (.int ((o : Nat) : Int)) := by
  match m, hm with
  | 0, _ => exact ⟨1, by omega, by omega, rfl⟩
  | 1, _ => exact ⟨2, by omega, by omega, rfl⟩
  | 2, _ => exact ⟨2, by omega, by omega, rfl⟩
  | 3, _ => exact ⟨3, by omega, by omega, rfl⟩
theorem statement_of {xs : List Int} (hx : xs.length ≤ 63) {n L d : Nat} (hn0 : 1 ≤ n) (hn : n ≤ 4) (hL0 : 1 ≤ L) (hL : L ≤ 8) (hB : ∀ d', d = d' + 1 → BSpec xs n L d') : SSpec xs n L d := by
  intro N k s p st hN h hs
  obtain ⟨M, rfl⟩ : ∃ M, N = M + 3 := ⟨N - 3, by omega⟩
  obtain ⟨s, rfl⟩ : ∃ z, s = z + 1 := ⟨s - 1, by omega⟩
  have hk0 := h.k0
  rw [cx_call, call_np fn_statement (by decide)]
  -- one statement less
  have s0 : b__law_statement_0 (CX (M + 2)) (eS n L k none none none none none) st = some (.nx, eS n L k none none none none none, st.set k (szO d s p)) := dec_run h (j := 1) rfl opSub (sub1 s _)
  have h0 := h.setk d s p
  -- the option, the name
  obtain ⟨o, st1, ho, e1, h1, f1⟩ := drawE hx h0 M (many := 10) (by omega) (by omega) (e := eC (.int 10)) (env := [some (.int (n : Int)), some (.int (L : Int)), some (.loc k), none, none, none, none, none]) (fun _ => rfl)
  obtain ⟨x, st2, hxn, e2, h2, f2⟩ := drawE hx h1 M (many := n) (by omega) (by omega) (e := eVar 1) (env := [some (.int (n : Int)), some (.int (L : Int)), some (.loc k), none, none, none, none, none]) (fun _ => rfl)
  have F2 : Fr k st st2 := ((Fr.setk k st _).trans f1).trans f2
  have s1 : b__law_statement_1 (CX (M + 2)) (eS n L k none none none none none) (st.set k (szO d s p)) = some (.nx, eS n L k (some (.int (o : Int))) (some (.int (x : Int))) none none none, st2) := by
    have hl := lcons_run e1 (lcons_run e2 lnil_run)
    unfold b__law_statement_1 sPar sBnd
    rw [hl]; rfl
  -- what is read
  have to : ∀ (v : Nat) (x6 x7 x8 : Option D) (st : Stt), (cB (eBin opLt (eVar 4) (eC (.int (v : Int))))) (CX (M + 2)) (eS n L k (some (.int (o : Int))) (some (.int (x : Int))) x6 x7 x8) st = some (.ok (decide (o < v)), st) := fun v x6 x7 x8 st => cB_run (bin_run (y := .int (v : Int)) (var_run rfl) rfl (lt_run o v _))
  have tp : (cB (eBin opGt (eBin opIx (eVar 3) (eC (.int 2))) (eC (.int 0)))) (CX (M + 2)) (eS n L k (some (.int (o : Int))) (some (.int (x : Int))) none none none) st2 = some (.ok (decide (0 < p)), st2) := cB_run (bin_run (y := .int 0) (sz_get (i := eVar 0) h2 (j := 2) rfl) rfl (gt0_run p _))
  have td : (cB (eBin opGt (eBin opIx (eVar 3) (eC (.int 0))) (eC (.int 0)))) (CX (M + 2)) (eS n L k (some (.int (o : Int))) (some (.int (x : Int))) none none none) st2 = some (.ok (decide (0 < d)), st2) := cB_run (bin_run (y := .int 0) (sz_get (i := eVar 0) h2 (j := 0) rfl) rfl (gt0_run d _))
  have to2 : (cB (eBin opLt (eVar 4) (eC (.int 2)))) (CX (M + 2)) (eS n L k (some (.int (o : Int))) (some (.int (x : Int))) none none none) st2 = some (.ok (decide (o < 2)), st2) := to 2 _ _ _ _
  have to4 : (cB (eBin opLt (eVar 4) (eC (.int 4)))) (CX (M + 2)) (eS n L k (some (.int (o : Int))) (some (.int (x : Int))) none none none) st2 = some (.ok (decide (o < 4)), st2) := to 4 _ _ _ _
  have to7 : (cB (eBin opLt (eVar 4) (eC (.int 7)))) (CX (M + 2)) (eS n L k (some (.int (o : Int))) (some (.int (x : Int))) none none none) st2 = some (.ok (decide (o < 7)), st2) := to 7 _ _ _ _
  have to9 : (cB (eBin opLt (eVar 4) (eC (.int 9)))) (CX (M + 2)) (eS n L k (some (.int (o : Int))) (some (.int (x : Int))) none none none) st2 = some (.ok (decide (o < 9)), st2) := to 9 _ _ _ _
  have t2 := and_run to2 tp
  have t3 := and_run to4 (and_run tp td)
  have finish : ∀ {t : Stm} {env' : Env} {st' : Stt} {s' p' : Nat}, b__law_statement (CX (M + 2)) (eS n L k none none none none none) st = some (.rt t.d, env', st') → t.ok n d → DS xs k d s' p' st' → s' + t.cnt ≤ s + 1 → Fr k st st' →
      ∃ (t : Stm) (st' : Stt) (s' p' : Nat), (⟨4, 9, b__law_statement⟩ : Fn).run ⟨prog.call 3000 (M + 2), prog.meth, prog.fld, 3000⟩ [.loc 0, .int (n : Int), .int (L : Int), .loc k] st = some (.ok t.d, st') ∧ t.ok n d ∧ DS xs k d s' p' st' ∧ s' + t.cnt ≤ s + 1 ∧ Fr k st st' := fun {t env' st' s' p'} hb a b c e => ⟨t, st', s', p', fr_rt rfl rfl hb, a, b, c, e⟩
  by_cases c2 : o < 2 ∧ 0 < p
  · -- a look
    obtain ⟨p, rfl⟩ : ∃ z, p = z + 1 := ⟨p - 1, by omega⟩
    have a1 : (sAsg (gSub (eVar 3) (eC (.int 2))) (eBin opSub (eBin opIx (eVar 3) (eC (.int 2))) (eC (.int 1)))) (CX (M + 2)) (eS n L k (some (.int (o : Int))) (some (.int (x : Int))) none none none) st2 = some (.nx, eS n L k (some (.int (o : Int))) (some (.int (x : Int))) none none none, st2.set k (szO d s p)) := dec_run h2 (j := 2) rfl opSub (sub1 p _)
    have hb : b__law_statement (CX (M + 2)) (eS n L k none none none none none) st = some (.rt (Stm.look x).d, eS n L k (some (.int (o : Int))) (some (.int (x : Int))) none none none, st2.set k (szO d s p)) := by
      unfold b__law_statement
      rw [seq_nx s0, seq_nx s1]
      refine seq_rt (a := b__law_statement_2) ((if_t (by rw [t2, decide_eq_true c2.1, decide_eq_true c2.2]; rfl)).trans ((seq_nx a1).trans ?_))
      exact ret_run (d := (Stm.look x).d) rfl
    exact finish hb (ok_look hxn) (h2.setk d s p) (by simp [Stm.cnt]) (F2.trans (Fr.setk k _ _))
  have b2 : (decide (o < 2) && decide (0 < p)) = false := by
    rw [← Bool.decide_and]; exact decide_eq_false c2
  have q2 : b__law_statement_2 (CX (M + 2)) (eS n L k (some (.int (o : Int))) (some (.int (x : Int))) none none none) st2 = some (.nx, eS n L k (some (.int (o : Int))) (some (.int (x : Int))) none none none, st2) := (if_f (by rw [t2, b2])).trans rfl
  by_cases c3 : o < 4 ∧ 0 < p ∧ 0 < d
  · obtain ⟨p, rfl⟩ : ∃ z, p = z + 1 := ⟨p - 1, by omega⟩
    obtain ⟨d, rfl⟩ : ∃ z, d = z + 1 := ⟨d - 1, by omega⟩
    have hB' := hB d rfl
    have hz : st2[k]? = some (szO (d + 1) s (p + 1)) := h2.sz
    have hkl := (List.getElem?_eq_some_iff.mp hz).1
    have ea : (eTup (lCons (eBin opSub (eBin opIx (eVar 3) (eC (.int 0))) (eC (.int 1))) (lCons (eBin opSub (eBin opIx (eVar 3) (eC (.int 2))) (eC (.int 1))) lNil))) (CX (M + 2)) (eS n L k (some (.int (o : Int))) (some (.int (x : Int))) none none none) st2 = some (.ok (.tup [.int (d : Int), .int (p : Int)]), st2) :=
      tup_run (lcons_run (bin_run (y := .int 1) (sz_get (i := eVar 0) h2 (j := 0) rfl) rfl (sub1 d _)) (lcons_run (bin_run (y := .int 1) (sz_get (i := eVar 0) h2 (j := 2) rfl) rfl (sub1 p _)) lnil_run)) lim2
    have a1 : (sAsg (gTup 2 (gCons (gSub (eVar 3) (eC (.int 0))) (gCons (gSub (eVar 3) (eC (.int 2))) gNil))) (eTup (lCons (eBin opSub (eBin opIx (eVar 3) (eC (.int 0))) (eC (.int 1))) (lCons (eBin opSub (eBin opIx (eVar 3) (eC (.int 2))) (eC (.int 1))) lNil)))) (CX (M + 2)) (eS n L k (some (.int (o : Int))) (some (.int (x : Int))) none none none) st2 = some (.nx, eS n L k (some (.int (o : Int))) (some (.int (x : Int))) none none none, st2.set k (szO d s p)) := by
      refine (asg_two' ea (gsub_run (a := eVar 3) (i := eC (.int 0)) (j := 0) (var_run rfl) rfl hz (by show 0 < 3; decide)) (gsub_run (a := eVar 3) (i := eC (.int 2)) (j := 2) (var_run rfl) rfl (List.getElem?_set_self hkl) (by show 2 < 3; decide))).trans ?_
      rw [List.set_set]; rfl
    have h3 := h2.setk d s p
    obtain ⟨m, st4, hm, e4, h4, f4⟩ := drawE hx h3 M (many := 4) (by omega) (by omega) (e := eC (.int 4)) (env := [some (.int (n : Int)), some (.int (L : Int)), some (.loc k), some (.int (o : Int)), some (.int (x : Int)), none, none, none]) (fun _ => rfl)
    obtain ⟨w, w1, w3, hw⟩ := often_get m hm
    have a2 : (sSet 6 (eBin opIx (eLstF (lCons (eC (.int 1)) (lCons (eC (.int 2)) (lCons (eC (.int 2)) (lCons (eC (.int 3)) lNil))))) (eCall F__law_draw (lCons (eVar 0) (lCons (eC (.int 4)) lNil))))) (CX (M + 2)) (eS n L k (some (.int (o : Int))) (some (.int (x : Int))) none none none) (st2.set k (szO d s p)) = some (.nx, eS n L k (some (.int (o : Int))) (some (.int (x : Int))) (some (.int (w : Int))) none none, st4) :=
      set_run (bin_run (x := .frz [.int 1, .int 2, .int 2, .int 3]) rfl e4 (ix_frz _ hw)) (by show 6 < 9; decide)
    obtain ⟨acc, st5, e5, bs, s', p', rfl, hbl, hbok, h5, c5, f5⟩ := compF_inv (own := [8]) (tg := gVar 8) (it := iRange1 (eVar 6)) (t := cYes) (e := eCall F__law_block (lCons (eVar 0) (lCons (eVar 1) (lCons (eVar 2) (lCons (eVar 3) lNil))))) (c := CX (M + 2)) (env := eS n L k (some (.int (o : Int))) (some (.int (x : Int))) (some (.int (w : Int))) none none) (st := st4) (st1 := st4) (l := (List.range w).map fun (k : Nat) => D.int (k : Int))
      (fun i acc st' => ∃ bs s' p', acc = bsL bs ∧ bs.length = i ∧ okBs n d bs ∧ DS xs k d s' p' st' ∧ s' + cntBs bs ≤ s ∧ Fr k st4 st')
      (range1_run (var_run rfl) (by rw [lim_eq]; omega)) ⟨[], s, p, rfl, rfl, trivial, h4, by simp [cntBs], Fr.refl _ _⟩ (by rw [List.length_map, List.length_range]; show w < 3000; omega) (by rw [List.length_map, List.length_range, lim_eq]; omega) (by
        rintro i y acc st' hd ⟨bs, s', p', rfl, hbl, hbok, h5, c5, f5⟩
        obtain ⟨b, st6, s6, p6, e6, ok6, l6, h6, c6, f6⟩ := hB' (M + 2) k s' p' st' (by omega) h5
        refine ⟨some (.tup (blL b)), st6, compT_y (st1 := st') (by show 8 < 9; decide) rfl ?_, bs ++ [b], s6, p6, by rw [bsL_snoc]; rfl, by simp [hbl], okBs_snoc hbok ⟨by omega, ok6⟩, h6, by rw [cntBs_snoc]; omega, f5.trans f6⟩
        unfold eCall
        rw [bnd_ok (a := [.loc 0, .int (n : Int), .int (L : Int), .loc k]) (st1 := st') rfl]
        exact e6)
    rw [List.length_map, List.length_range] at hbl
    have a3 : (sSet 7 (eUn bTuple (eCompF [8] (gVar 8) (iRange1 (eVar 6)) cYes (eCall F__law_block (lCons (eVar 0) (lCons (eVar 1) (lCons (eVar 2) (lCons (eVar 3) lNil)))))))) (CX (M + 2)) (eS n L k (some (.int (o : Int))) (some (.int (x : Int))) (some (.int (w : Int))) none none) st4 = some (.nx, eS n L k (some (.int (o : Int))) (some (.int (x : Int))) (some (.int (w : Int))) (some (.tup (bsL bs))) none, st5) :=
      set_run (tuple_frz e5) (by show 7 < 9; decide)
    have a4 : (sAsg (gSub (eVar 3) (eC (.int 0))) (eBin opAdd (eBin opIx (eVar 3) (eC (.int 0))) (eC (.int 1)))) (CX (M + 2)) (eS n L k (some (.int (o : Int))) (some (.int (x : Int))) (some (.int (w : Int))) (some (.tup (bsL bs))) none) st5 = some (.nx, eS n L k (some (.int (o : Int))) (some (.int (x : Int))) (some (.int (w : Int))) (some (.tup (bsL bs))) none, st5.set k (szO (d + 1) s' p')) :=
      asg_sub (c := CX (M + 2)) (env := eS n L k (some (.int (o : Int))) (some (.int (x : Int))) (some (.int (w : Int))) (some (.tup (bsL bs))) none) (a := eVar 3) (i := eC (.int 0)) (k := k) (j := 0) (l := [.int (d : Int), .int (s' : Int), .int (p' : Int)]) (d := .int ((d + 1 : Nat) : Int)) (bin_run (y := .int 1) (sz_get (i := eVar 0) h5 (j := 0) rfl) rfl rfl) (var_run rfl) rfl h5.sz (by show 0 < 3; decide)
    have tl : (cB (eBin opEq (eUn bLen (eVar 7)) (eC (.int 1)))) (CX (M + 2)) (eS n L k (some (.int (o : Int))) (some (.int (x : Int))) (some (.int (w : Int))) (some (.tup (bsL bs))) none) (st5.set k (szO (d + 1) s' p')) = some (.ok (decide (w = 1)), st5.set k (szO (d + 1) s' p')) := by
      have hlen : (eUn bLen (eVar 7)) (CX (M + 2)) (eS n L k (some (.int (o : Int))) (some (.int (x : Int))) (some (.int (w : Int))) (some (.tup (bsL bs))) none) (st5.set k (szO (d + 1) s' p')) = some (.ok (.int (w : Int)), st5.set k (szO (d + 1) s' p')) := by
        rw [← hbl, ← bsL_len]; rfl
      refine cB_run (bin_run (x := .int (w : Int)) (y := .int 1) hlen rfl ?_)
      · rw [eqi]
        have : ((w : Int) == 1) = decide (w = 1) := by
          by_cases h : w = 1
          · subst h; rfl
          · rw [decide_eq_false h]; simp; omega
        rw [this]
    have hret : ∃ lp, (lp = true → bs.length = 1) ∧ (sRet (eIf (cB (eBin opEq (eUn bLen (eVar 7)) (eC (.int 1)))) (eTup (lCons (eC (.str w_loop)) (lCons (eBin opIx (eVar 7) (eC (.int 0))) lNil))) (eTup (lCons (eC (.str w_choose)) (lCons (eVar 7) lNil))))) (CX (M + 2)) (eS n L k (some (.int (o : Int))) (some (.int (x : Int))) (some (.int (w : Int))) (some (.tup (bsL bs))) none) (st5.set k (szO (d + 1) s' p')) = some (.rt (Stm.br lp bs).d, eS n L k (some (.int (o : Int))) (some (.int (x : Int))) (some (.int (w : Int))) (some (.tup (bsL bs))) none, st5.set k (szO (d + 1) s' p')) := by
      by_cases hw1 : w = 1
      · refine ⟨true, fun _ => by omega, ret_run ?_⟩
        rw [decide_eq_true hw1] at tl
        unfold eIf
        rw [bnd_ok tl, if_pos rfl]
        match bs, hbl.trans hw1 with
        | [b], _ => rfl
      · refine ⟨false, (fun h => by cases h), ret_run ?_⟩
        rw [decide_eq_false hw1] at tl
        unfold eIf
        rw [bnd_ok tl, if_neg (by decide)]
        rfl
    obtain ⟨lp, hlp, hret⟩ := hret
    have hb : b__law_statement (CX (M + 2)) (eS n L k none none none none none) st = some (.rt (Stm.br lp bs).d, eS n L k (some (.int (o : Int))) (some (.int (x : Int))) (some (.int (w : Int))) (some (.tup (bsL bs))) none, st5.set k (szO (d + 1) s' p')) := by
      unfold b__law_statement
      rw [seq_nx s0, seq_nx s1, seq_nx q2]
      refine seq_rt (a := b__law_statement_3) ((if_t (by rw [t3, decide_eq_true c3.1, decide_eq_true c3.2.1, decide_eq_true c3.2.2]; rfl)).trans ((seq_nx a1).trans ((seq_nx a2).trans ((seq_nx a3).trans ((seq_nx a4).trans hret)))))
    exact finish hb ⟨hlp, by omega, hbok⟩ (h5.setk (d + 1) s' p') (by simp [Stm.cnt]; omega) ((((F2.trans (Fr.setk k _ _)).trans f4).trans f5).trans (Fr.setk k _ _))
  have b3 : (decide (o < 4) && (decide (0 < p) && decide (0 < d))) = false := by
    rw [← Bool.decide_and, ← Bool.decide_and]; exact decide_eq_false c3
  have q3 : b__law_statement_3 (CX (M + 2)) (eS n L k (some (.int (o : Int))) (some (.int (x : Int))) none none none) st2 = some (.nx, eS n L k (some (.int (o : Int))) (some (.int (x : Int))) none none none, st2) := (if_f (by rw [t3, b3])).trans rfl
  have tn : (cB (eBin opGt (eVar 1) (eC (.int 1)))) (CX (M + 2)) (eS n L k (some (.int (o : Int))) (some (.int (x : Int))) none none none) st2 = some (.ok (decide (1 < n)), st2) := cB_run (bin_run (y := .int 1) (var_run rfl) rfl (gtN_run n 1 _))
  have t4 := and_run to7 tn
  by_cases c4 : o < 7 ∧ 1 < n
  · -- a give
    obtain ⟨l, st3, hl, e3, h3, f3⟩ := drawE hx h2 M (many := L) (by omega) (by omega) (e := eVar 2) (env := [some (.int (n : Int)), some (.int (L : Int)), some (.loc k), some (.int (o : Int)), some (.int (x : Int)), none, none, none]) (fun _ => rfl)
    obtain ⟨m, st4, hm, e4, h4, f4⟩ := drawE hx h3 M (many := n - 1) (by omega) (by omega) (e := eBin opSub (eVar 1) (eC (.int 1))) (env := [some (.int (n : Int)), some (.int (L : Int)), some (.loc k), some (.int (o : Int)), some (.int (x : Int)), none, none, none]) (fun st => by
      refine bin_run (x := .int (n : Int)) (y := .int 1) rfl rfl ?_
      have : (n : Int) - 1 = ((n - 1 : Nat) : Int) := by omega
      simp only [opSub, this])
    have hy := mod_ne hn c4.2 hxn hm
    have ey : (eBin opMod (eUn bInt (eBin opAdd (eBin opAdd (eVar 5) (eC (.int 1))) (eCall F__law_draw (lCons (eVar 0) (lCons (eBin opSub (eVar 1) (eC (.int 1))) lNil))))) (eVar 1)) (CX (M + 2)) (eS n L k (some (.int (o : Int))) (some (.int (x : Int))) none none none) st3 = some (.ok (.int ((x + 1 + m) % n : Nat)), st4) := by
      refine bin_run (x := .int ((x + 1 + m : Nat) : Int)) (y := .int (n : Int)) (un_run (x := .int ((x + 1 + m : Nat) : Int)) (bin_run (x := .int ((x + 1 : Nat) : Int)) (y := .int (m : Int)) (bin_run (x := .int (x : Int)) (y := .int 1) rfl rfl rfl) e4 rfl) rfl) rfl ?_
      have : (0 : Int) < (n : Int) := by omega
      simp only [opMod, this, if_true]
      rfl
    have hb : b__law_statement (CX (M + 2)) (eS n L k none none none none none) st = some (.rt (Stm.pl (.give l x ((x + 1 + m) % n))).d, eS n L k (some (.int (o : Int))) (some (.int (x : Int))) none none none, st4) := by
      unfold b__law_statement
      rw [seq_nx s0, seq_nx s1, seq_nx q2, seq_nx q3]
      refine seq_rt (a := b__law_statement_4) ((if_t (by rw [t4, decide_eq_true c4.1, decide_eq_true c4.2]; rfl)).trans ?_)
      exact ret_run (tup_run (xs := [.str w_give, .int (l : Int), .int (x : Int), .int ((x + 1 + m) % n : Nat)]) (lcons_run (x := .str w_give) rfl (lcons_run e3 (lcons_run (x := .int (x : Int)) rfl (lcons_run ey lnil_run)))) (by show 4 < lim; decide))
    exact finish hb (ok_pl ⟨hxn, hy.1, Ne.symm hy.2, by omega⟩) h4 (by simp [Stm.cnt]) ((F2.trans f3).trans f4)
  have b4 : (decide (o < 7) && decide (1 < n)) = false := by
    rw [← Bool.decide_and]; exact decide_eq_false c4
  have q4 : b__law_statement_4 (CX (M + 2)) (eS n L k (some (.int (o : Int))) (some (.int (x : Int))) none none none) st2 = some (.nx, eS n L k (some (.int (o : Int))) (some (.int (x : Int))) none none none, st2) := (if_f (by rw [t4, b4])).trans rfl
  by_cases c5 : o < 9
  · -- a change
    obtain ⟨l, st3, hl, e3, h3, f3⟩ := drawE hx h2 M (many := L) (by omega) (by omega) (e := eVar 2) (env := [some (.int (n : Int)), some (.int (L : Int)), some (.loc k), some (.int (o : Int)), some (.int (x : Int)), none, none, none]) (fun _ => rfl)
    obtain ⟨m, st4, hm, e4, h4, f4⟩ := drawE hx h3 M (many := 10) (by omega) (by omega) (e := eC (.int 10)) (env := [some (.int (n : Int)), some (.int (L : Int)), some (.loc k), some (.int (o : Int)), some (.int (x : Int)), none, none, none]) (fun _ => rfl)
    have hb : b__law_statement (CX (M + 2)) (eS n L k none none none none none) st = some (.rt (Stm.pl (.change l x m)).d, eS n L k (some (.int (o : Int))) (some (.int (x : Int))) none none none, st4) := by
      unfold b__law_statement
      rw [seq_nx s0, seq_nx s1, seq_nx q2, seq_nx q3, seq_nx q4]
      refine ret_run ?_
      have ht := to9
      rw [decide_eq_true c5] at ht
      unfold eIf
      rw [bnd_ok ht, if_pos rfl]
      exact tup_run (xs := [.str w_change, .int (l : Int), .int (x : Int), .int (m : Int)]) (lcons_run (x := .str w_change) rfl (lcons_run e3 (lcons_run (x := .int (x : Int)) rfl (lcons_run e4 lnil_run)))) (by show 4 < lim; decide)
    exact finish hb (ok_pl ⟨hxn, by omega, hm⟩) h4 (by simp [Stm.cnt]) ((F2.trans f3).trans f4)
  · have hb : b__law_statement (CX (M + 2)) (eS n L k none none none none none) st = some (.rt (Stm.pl (.fresh x)).d, eS n L k (some (.int (o : Int))) (some (.int (x : Int))) none none none, st2) := by
      unfold b__law_statement
      rw [seq_nx s0, seq_nx s1, seq_nx q2, seq_nx q3, seq_nx q4]
      refine ret_run ?_
      have ht := to9
      rw [decide_eq_false c5] at ht
      unfold eIf
      rw [bnd_ok ht, if_neg (by decide)]
      exact tup_run (xs := [.str w_fresh, .int (x : Int)]) (lcons_run (x := .str w_fresh) rfl (lcons_run (x := .int (x : Int)) rfl lnil_run)) (by show 2 < lim; decide)
    exact finish hb (ok_pl hxn) h2 (by simp [Stm.cnt]) F2
end MI

set_option autoImplicit false
set_option maxRecDepth 100000
set_option linter.all false
/-! R16: drawing programs, ways, copyings. -/
namespace MI
open PySem
theorem all_spec {xs : List Int} (hx : xs.length ≤ 63) {n L : Nat} (hn0 : 1 ≤ n) (hn : n ≤ 4) (hL0 : 1 ≤ L) (hL : L ≤ 8) : ∀ d, SSpec xs n L d ∧ BSpec xs n L d
  | 0 => by
    have h := statement_of hx (d := 0) hn0 hn hL0 hL (fun d' e => by omega)
    exact ⟨h, block_of hx h⟩
  | d + 1 => by
    have h := statement_of hx (d := d + 1) hn0 hn hL0 hL (fun d' e => by
      have : d' = d := by omega
      subst this
      exact (all_spec hx hn0 hn hL0 hL d').2)
    exact ⟨h, block_of hx h⟩
/-- only the pen is changed; more may be there -/
structure FrP (st st' : Stt) : Prop where
  len : st.length ≤ st'.length
  same : ∀ i, i < st.length → i ≠ 0 → st'[i]? = st[i]?
theorem FrP.refl (st : Stt) : FrP st st := ⟨Nat.le_refl _, fun _ _ _ => rfl⟩
theorem FrP.trans {a b c : Stt} (h : FrP a b) (g : FrP b c) : FrP a c := ⟨Nat.le_trans h.len g.len, fun i hi h0 => (g.same i (Nat.lt_of_lt_of_le hi h.len) h0).trans (h.same i hi h0)⟩
theorem FrP.of {k : Nat} {a b : Stt} (h : Fr k a b) (hk : a.length ≤ k) : FrP a b := ⟨h.len, fun i hi h0 => h.same i hi h0 (by omega)⟩
theorem pen_draw {xs : List Int} (hx : xs.length ≤ 63) {st : Stt} (h : Pen xs st) (N : Nat) {many : Nat} (h0 : 0 < many) (h1 : many < 1000) {e : SE} {env : Env} (he : ∀ st, e (CX (N + 2)) (some (.loc 0) :: env) st = some (.ok (.int (many : Int)), st)) :
    ∃ m st', m < many ∧ eCall F__law_draw (lCons (eVar 0) (lCons e lNil)) (CX (N + 2)) (some (.loc 0) :: env) st = some (.ok (.int ((m : Nat) : Int)), st') ∧ Pen xs st' ∧ FrP st st' := by
  obtain ⟨m, a, q, hm, e1⟩ := draw_at N hx h0 h1 h
  refine ⟨m, _, hm, ?_, pen_set0 h a q, ⟨by simp, fun i _ h0 => List.getElem?_set_ne (Ne.symm h0)⟩⟩
  unfold eCall
  rw [bnd_ok (lcons_run (var_run (x := .loc 0) rfl) (lcons_run (he st) lnil_run))]
  exact e1
theorem sz_at {xs : List Int} {k d s p : Nat} {st : Stt} (h : DS xs k d s p st) {c : Ctx} {env : Env} {i j v : Nat} (hi : env[i]? = some (some (.loc k))) (hj : ([d, s, p] : List Nat)[j]? = some v) : (eBin opIx (eVar i) (eC (.int (j : Int)))) c env st = some (.ok (.int (v : Int)), st) := by
  refine bin_run (var_run (x := .loc k) hi) (y := .int (j : Int)) rfl (ix_loc h.sz ?_)
  have : ([d, s, p].map fun (k : Nat) => D.int (k : Int))[j]? = some (.int (v : Int)) := by rw [List.getElem?_map, hj]; rfl
  exact this
theorem fn_program : prog.fns[F__law_program]? = some ⟨5, 8, b__law_program⟩ := rfl
theorem fn_list : prog.fns[F__law_list]? = some ⟨2, 3, b__law_list⟩ := rfl
theorem fn_copying : prog.fns[F__law_copying]? = some ⟨2, 3, b__law_copying⟩ := rfl
theorem fn_some : prog.fns[F__law_some_program]? = some ⟨1, 3, b__law_some_program⟩ := rfl
abbrev eP (n L S P k q : Nat) (x7 : Option D) : Env := [some (.loc 0), some (.int (n : Int)), some (.int (L : Int)), some (.int (S : Int)), some (.int (P : Int)), some (.loc k), some (.loc q), x7]
theorem program_run {xs : List Int} (hx : xs.length ≤ 63) {n L S P : Nat} (hn0 : 1 ≤ n) (hn : n ≤ 4) (hL0 : 1 ≤ L) (hL : L ≤ 8) (hS : S ≤ 100) {st : Stt} (hp : Pen xs st) {N : Nat} (hN : 20 ≤ N) :
    ∃ (b : List Stm) (st' : Stt), (CX N).call F__law_program [.loc 0, .int (n : Int), .int (L : Int), .int (S : Int), .int (P : Int)] st = some (.ok (prD n b), st') ∧ PrOk n b ∧ Pen xs st' ∧ FrP st st' := by
  obtain ⟨M, rfl⟩ : ∃ M, N = M + 3 := ⟨N - 3, by omega⟩
  have h1st : 1 ≤ st.length := by
    obtain ⟨a, q, e⟩ := hp
    exact (List.getElem?_eq_some_iff.mp e).1
  rw [cx_call, call_np fn_program (by decide)]
  have hsp := (all_spec hx hn0 hn hL0 hL 4).1
  -- sizes, found
  have s0 : b__law_program_0 (CX (M + 2)) [some (.loc 0), some (.int (n : Int)), some (.int (L : Int)), some (.int (S : Int)), some (.int (P : Int)), none, none, none] st = some (.nx, eP n L S P st.length (st.length + 1) none, st ++ [szO 4 S P] ++ [.lst []]) := by
    have hl : (lCons (eLst (lCons (eC (.int 4)) (lCons (eVar 3) (lCons (eVar 4) lNil)))) (lCons (eLst lNil) lNil)) (CX (M + 2)) [some (.loc 0), some (.int (n : Int)), some (.int (L : Int)), some (.int (S : Int)), some (.int (P : Int)), none, none, none] st = some (.ok [.loc st.length, .loc (st.length + 1)], st ++ [szO 4 S P] ++ [.lst []]) := by
      have a1 := lst_new (l := (lCons (eC (.int 4)) (lCons (eVar 3) (lCons (eVar 4) lNil)))) (c := CX (M + 2)) (env := [some (.loc 0), some (.int (n : Int)), some (.int (L : Int)), some (.int (S : Int)), some (.int (P : Int)), none, none, none]) (st := st) (st1 := st) (xs := [.int 4, .int (S : Int), .int (P : Int)]) rfl (by show 3 < lim; decide)
      have a2 := lst_new (l := lNil) (c := CX (M + 2)) (env := [some (.loc 0), some (.int (n : Int)), some (.int (L : Int)), some (.int (S : Int)), some (.int (P : Int)), none, none, none]) (st := st ++ [szO 4 S P]) (st1 := st ++ [szO 4 S P]) lnil_run (by show 0 < lim; decide)
      have el : (st ++ [szO 4 S P]).length = st.length + 1 := by simp
      rw [el] at a2
      exact lcons_run a1 (lcons_run a2 lnil_run)
    unfold b__law_program_0 sPar sBnd
    rw [hl]; rfl
  generalize hk : st.length = k at s0 h1st
  have ds0 : DS xs k 4 S P (st ++ [szO 4 S P] ++ [.lst []]) := by
    obtain ⟨a, q, e⟩ := hp
    have e0 := (List.getElem?_eq_some_iff.mp e).1
    refine ⟨⟨a, q, ?_⟩, ?_, by omega⟩
    · rw [List.append_assoc, List.getElem?_append_left e0]; exact e
    · rw [← hk, List.append_assoc]; simp
  have q0 : (st ++ [szO 4 S P] ++ [.lst []])[k + 1]? = some (.lst []) := by
    rw [← hk]
    rw [List.getElem?_append_right (by simp)]
    simp
  have fr0 : FrP st (st ++ [szO 4 S P] ++ [.lst []]) := ⟨by simp, fun i hi _ => by rw [List.append_assoc, List.getElem?_append_left hi]⟩
  obtain ⟨m, st1, hm, e1, h1, f1⟩ := drawE hx ds0 M (many := 5) (by omega) (by omega) (e := eC (.int 5)) (env := [some (.int (n : Int)), some (.int (L : Int)), some (.int (S : Int)), some (.int (P : Int)), some (.loc k), some (.loc (k + 1)), none]) (fun _ => rfl)
  have q1 : st1[k + 1]? = some (.lst []) := by
    rw [f1.same (k + 1) (List.getElem?_eq_some_iff.mp q0).1 (by omega) (by omega)]; exact q0
  have frk : ∀ {a b : Stt}, FrP st a → Fr k a b → FrP st b := fun ha hb => ⟨Nat.le_trans ha.len hb.len, fun i hi h0 => (hb.same i (Nat.lt_of_lt_of_le hi ha.len) h0 (by omega)).trans (ha.same i hi h0)⟩
  have frq : ∀ {a : Stt} (o : Ob), FrP st a → FrP st (a.set (k + 1) o) := fun o ha => ⟨by simp [ha.len], fun i hi h0 => by rw [List.getElem?_set_ne (by omega)]; exact ha.same i hi h0⟩
  have e1' : (eBin opAdd (eC (.int 2)) (eCall F__law_draw (lCons (eVar 0) (lCons (eC (.int 5)) lNil)))) (CX (M + 2)) (eP n L S P k (k + 1) none) (st ++ [szO 4 S P] ++ [.lst []]) = some (.ok (.int ((2 + m : Nat) : Int)), st1) :=
    bin_run (x := .int 2) (y := .int (m : Int)) rfl e1 rfl
  obtain ⟨env2, st2, e2, x7, b, s', p', rfl, hb1, hb2, hb3, hb4, hb5, hb6⟩ := for_inv (g := gVar 7) (it := iRange1 (eBin opAdd (eC (.int 2)) (eCall F__law_draw (lCons (eVar 0) (lCons (eC (.int 5)) lNil))))) (b := (sIf (cB (eBin opGt (eBin opIx (eVar 5) (eC (.int 1))) (eC (.int 0))))
  (sExpr (eMt1 isLst mAppend (eVar 6) (eCall F__law_statement (lCons (eVar 0) (lCons (eVar 1) (lCons (eVar 2) (lCons (eVar 5) lNil)))))))
  sPass)) (c := CX (M + 2)) (env := eP n L S P k (k + 1) none) (st := st ++ [szO 4 S P] ++ [.lst []]) (st1 := st1) (l := (List.range (2 + m)).map fun (k : Nat) => D.int (k : Int))
    (fun i env st' => ∃ x7 b s' p', env = eP n L S P k (k + 1) x7 ∧ b.length ≤ i ∧ okB n 4 b ∧ DS xs k 4 s' p' st' ∧ s' + cntB b ≤ S ∧ st'[k + 1]? = some (.lst (blL b)) ∧ FrP st st')
    (range1_run e1' (by rw [lim_eq]; omega)) ⟨none, [], S, P, rfl, by simp, trivial, h1, by simp [cntB], q1, frk fr0 f1⟩ (by rw [List.length_map, List.length_range]; show 2 + m < 3000; omega) (by
      rintro i x env st' hd ⟨x7, b, s', p', rfl, hb1, hb2, hb3, hb4, hb5, hb6⟩
      have hil : i < 2 + m := by have := (List.getElem?_eq_some_iff.mp hd).1; simpa using this
      have ht : (cB (eBin opGt (eBin opIx (eVar 5) (eC (.int 1))) (eC (.int 0)))) (CX (M + 2)) (eP n L S P k (k + 1) (some x)) st' = some (.ok (decide (0 < s')), st') :=
        cB_run (bin_run (y := .int 0) (sz_at hb3 (i := 5) (j := 1) rfl rfl) rfl (gt0_run s' _))
      by_cases hs : 0 < s'
      · obtain ⟨t, st2, s2, p2, e2, ok2, ds2, c2, f2⟩ := hsp (M + 2) k s' p' st' (by omega) hb3 hs
        have q2 : st2[k + 1]? = some (.lst (blL b)) := by
          rw [f2.same (k + 1) (List.getElem?_eq_some_iff.mp hb5).1 (by omega) (by omega)]; exact hb5
        have hcall : eCall F__law_statement (lCons (eVar 0) (lCons (eVar 1) (lCons (eVar 2) (lCons (eVar 5) lNil)))) (CX (M + 2)) (eP n L S P k (k + 1) (some x)) st' = some (.ok t.d, st2) := by
          unfold eCall
          rw [bnd_ok (a := [.loc 0, .int (n : Int), .int (L : Int), .loc k]) (st1 := st') rfl]
          exact e2
        have ap := append_run (c := CX (M + 2)) (env := eP n L S P k (k + 1) (some x)) (a := eVar 6) (k := k + 1) (var_run rfl) hb5 hcall q2 (by rw [blL_len, lim_eq]; omega)
        refine ⟨_, _, turn_var (by show 7 < 8; decide) ((if_t (by rw [← decide_eq_true hs]; exact ht)).trans (expr_run ap)), some x, b ++ [t], s2, p2, rfl, by simp; omega, okB_snoc hb2 ok2, ds2.setq _ (by omega) (by omega), by rw [cntB_snoc]; omega, ?_, frq _ (frk hb6 f2)⟩
        rw [List.getElem?_set_self (List.getElem?_eq_some_iff.mp q2).1, blL_snoc]
      · exact ⟨_, _, turn_var (by show 7 < 8; decide) ((if_f (by rw [← decide_eq_false hs]; exact ht)).trans rfl), some x, b, s', p', rfl, by omega, hb2, hb3, hb4, hb5, hb6⟩)
  rw [List.length_map, List.length_range] at hb1
  have ts : (cB (eBin opGt (eBin opIx (eVar 5) (eC (.int 1))) (eC (.int 0)))) (CX (M + 2)) (eP n L S P k (k + 1) x7) st2 = some (.ok (decide (0 < s')), st2) := cB_run (bin_run (y := .int 0) (sz_at hb3 (i := 5) (j := 1) rfl rfl) rfl (gt0_run s' _))
  have tp : (cB (eBin opGt (eBin opIx (eVar 5) (eC (.int 2))) (eC (.int 0)))) (CX (M + 2)) (eP n L S P k (k + 1) x7) st2 = some (.ok (decide (0 < p')), st2) := cB_run (bin_run (y := .int 0) (sz_at hb3 (i := 5) (j := 2) rfl rfl) rfl (gt0_run p' _))
  -- the last look
  have last : ∃ (b' : List Stm) (st3 : Stt), b__law_program_2 (CX (M + 2)) (eP n L S P k (k + 1) x7) st2 = some (.nx, eP n L S P k (k + 1) x7, st3) ∧ b'.length ≤ 7 ∧ okB n 4 b' ∧ cntB b' ≤ S ∧ st3[k + 1]? = some (.lst (blL b')) ∧ Pen xs st3 ∧ FrP st st3 := by
    by_cases hs : 0 < s'
    · by_cases hpp : 0 < p'
      · obtain ⟨w, st3, hw, e3, h3, f3⟩ := drawE hx hb3 M (many := 2) (by omega) (by omega) (e := eC (.int 2)) (env := [some (.int (n : Int)), some (.int (L : Int)), some (.int (S : Int)), some (.int (P : Int)), some (.loc k), some (.loc (k + 1)), x7]) (fun _ => rfl)
        have q3 : st3[k + 1]? = some (.lst (blL b)) := by
          rw [f3.same (k + 1) (List.getElem?_eq_some_iff.mp hb5).1 (by omega) (by omega)]; exact hb5
        have tw : (cB (eBin opEq (eCall F__law_draw (lCons (eVar 0) (lCons (eC (.int 2)) lNil))) (eC (.int 0)))) (CX (M + 2)) (eP n L S P k (k + 1) x7) st2 = some (.ok ((w : Int) == 0), st3) := cB_run (bin_run (y := .int 0) e3 rfl (eqi _ _ _))
        have tt : (cAnd (cB (eBin opGt (eBin opIx (eVar 5) (eC (.int 1))) (eC (.int 0)))) (cAnd (cB (eBin opGt (eBin opIx (eVar 5) (eC (.int 2))) (eC (.int 0)))) (cB (eBin opEq (eCall F__law_draw (lCons (eVar 0) (lCons (eC (.int 2)) lNil))) (eC (.int 0)))))) (CX (M + 2)) (eP n L S P k (k + 1) x7) st2 = some (.ok ((w : Int) == 0), st3) := by
          rw [decide_eq_true hs] at ts
          rw [decide_eq_true hpp] at tp
          unfold cAnd
          rw [bnd_ok ts, if_pos rfl, bnd_ok tp, if_pos rfl]
          exact tw
        by_cases hw0 : w = 0
        · subst hw0
          obtain ⟨x, st4, hxn, e4, h4, f4⟩ := drawE hx h3 M (many := n) (by omega) (by omega) (e := eVar 1) (env := [some (.int (n : Int)), some (.int (L : Int)), some (.int (S : Int)), some (.int (P : Int)), some (.loc k), some (.loc (k + 1)), x7]) (fun _ => rfl)
          have q4 : st4[k + 1]? = some (.lst (blL b)) := by
            rw [f4.same (k + 1) (List.getElem?_eq_some_iff.mp q3).1 (by omega) (by omega)]; exact q3
          have ap := append_run (c := CX (M + 2)) (env := eP n L S P k (k + 1) x7) (a := eVar 6) (b := (eTup (lCons (eC (.str w_look)) (lCons (eCall F__law_draw (lCons (eVar 0) (lCons (eVar 1) lNil))) lNil)))) (k := k + 1) (y := (Stm.look x).d) (var_run rfl) q3 (tup_run (xs := [.str w_look, .int (x : Int)]) (lcons_run (x := .str w_look) rfl (lcons_run e4 lnil_run)) lim2) q4 (by rw [blL_len, lim_eq]; omega)
          have hd := h4.setq (q := k + 1) (.lst (blL b ++ [(Stm.look x).d])) (by omega) (by omega)
          refine ⟨b ++ [.look x], _, (if_t (by rw [tt]; rfl)).trans (expr_run ap), by simp; omega, okB_snoc hb2 (ok_look hxn), by rw [cntB_snoc]; simp only [Stm.cnt]; omega, ?_, hd.pen, frq _ (frk (frk hb6 f3) f4)⟩
          rw [List.getElem?_set_self (List.getElem?_eq_some_iff.mp q4).1, blL_snoc]
        · have hwf : ((w : Int) == 0) = false := by simp; omega
          exact ⟨b, st3, (if_f (by rw [tt, hwf])).trans rfl, by omega, hb2, by omega, q3, h3.pen, frk hb6 f3⟩
      · rw [decide_eq_false hpp] at tp
        rw [decide_eq_true hs] at ts
        have tt : (cAnd (cB (eBin opGt (eBin opIx (eVar 5) (eC (.int 1))) (eC (.int 0)))) (cAnd (cB (eBin opGt (eBin opIx (eVar 5) (eC (.int 2))) (eC (.int 0)))) (cB (eBin opEq (eCall F__law_draw (lCons (eVar 0) (lCons (eC (.int 2)) lNil))) (eC (.int 0)))))) (CX (M + 2)) (eP n L S P k (k + 1) x7) st2 = some (.ok false, st2) := by
          unfold cAnd
          rw [bnd_ok ts, if_pos rfl, bnd_ok tp]; rfl
        exact ⟨b, st2, (if_f tt).trans rfl, by omega, hb2, by omega, hb5, hb3.pen, hb6⟩
    · rw [decide_eq_false hs] at ts
      exact ⟨b, st2, (if_f (and_f ts)).trans rfl, by omega, hb2, by omega, hb5, hb3.pen, hb6⟩
  obtain ⟨b', st3, s2, l7, ok4, c4, q5, pen5, fr5⟩ := last
  have hbody : b__law_program (CX (M + 2)) [some (.loc 0), some (.int (n : Int)), some (.int (L : Int)), some (.int (S : Int)), some (.int (P : Int)), none, none, none] st = some (.rt (prD n b'), eP n L S P k (k + 1) x7, st3) := by
    unfold b__law_program
    rw [seq_nx s0]
    refine (seq_nx (a := b__law_program_1) e2).trans ((seq_nx s2).trans ?_)
    exact ret_run (tup_run (xs := [.int (n : Int), .tup (blL b')]) (lcons_run (var_run rfl) (lcons_run (tuple_loc (var_run rfl) q5) lnil_run)) lim2)
  exact ⟨b', st3, fr_rt rfl rfl hbody, ⟨okB_mono b' 4 ok4, by omega, by unfold paths; rw [psB_cnt]; omega⟩, pen5, fr5⟩
end MI

set_option autoImplicit false
set_option maxRecDepth 100000
set_option linter.all false
/-! R17: drawing ways, copyings, some program. -/
namespace MI
open PySem
theorem way_get (m : Nat) (hm : m < 6) : ∃ o, ([.int 0, .int 0, .int 0, .int 1, .int 1, .int 2] : List D)[m]? = some (.int ((o : Nat) : Int)) := by
  match m, hm with
  | 0, _ => exact ⟨0, rfl⟩
  | 1, _ => exact ⟨0, rfl⟩
  | 2, _ => exact ⟨0, rfl⟩
  | 3, _ => exact ⟨1, rfl⟩
  | 4, _ => exact ⟨1, rfl⟩
  | 5, _ => exact ⟨2, rfl⟩
theorem name_get (m : Nat) (hm : m < 7) : ∃ o, 1 ≤ o ∧ o ≤ 4 ∧ ([.int 1, .int 2, .int 2, .int 3, .int 3, .int 4, .int 4] : List D)[m]? = some (.int ((o : Nat) : Int)) := by
  match m, hm with
  | 0, _ => exact ⟨1, by omega, by omega, rfl⟩
  | 1, _ => exact ⟨2, by omega, by omega, rfl⟩
  | 2, _ => exact ⟨2, by omega, by omega, rfl⟩
  | 3, _ => exact ⟨3, by omega, by omega, rfl⟩
  | 4, _ => exact ⟨3, by omega, by omega, rfl⟩
  | 5, _ => exact ⟨4, by omega, by omega, rfl⟩
  | 6, _ => exact ⟨4, by omega, by omega, rfl⟩
theorem list_run {xs : List Int} (hx : xs.length ≤ 63) {most : Nat} (hm : most ≤ 100) {st : Stt} (hp : Pen xs st) {N : Nat} (hN : 20 ≤ N) :
    ∃ (ws : List Nat) (st' : Stt), (CX N).call F__law_list [.loc 0, .int (most : Int)] st = some (.ok (pD ws), st') ∧ ws.length ≤ most ∧ Pen xs st' ∧ FrP st st' := by
  obtain ⟨M, rfl⟩ : ∃ M, N = M + 3 := ⟨N - 3, by omega⟩
  rw [cx_call, call_np fn_list (by decide)]
  obtain ⟨m, st1, hm1, e1, h1, f1⟩ := pen_draw hx hp M (many := most + 1) (by omega) (by omega) (e := eBin opAdd (eVar 1) (eC (.int 1))) (env := [some (.int (most : Int)), none]) (fun _ => rfl)
  obtain ⟨acc, st2, e2, ws, rfl, hl, h2, f2⟩ := compF_inv (own := [2]) (tg := gVar 2) (it := iRange1 (eCall F__law_draw (lCons (eVar 0) (lCons (eBin opAdd (eVar 1) (eC (.int 1))) lNil)))) (t := cYes) (e := (eBin opIx (eLstF (lCons (eC (.int 0)) (lCons (eC (.int 0)) (lCons (eC (.int 0)) (lCons (eC (.int 1)) (lCons (eC (.int 1)) (lCons (eC (.int 2)) lNil))))))) (eCall F__law_draw (lCons (eVar 0) (lCons (eC (.int 6)) lNil))))) (c := CX (M + 2)) (env := [some (.loc 0), some (.int (most : Int)), none]) (st := st) (st1 := st1) (l := (List.range m).map fun (k : Nat) => D.int (k : Int))
    (fun i acc st' => ∃ ws : List Nat, acc = (ws.map fun (k : Nat) => D.int (k : Int)) ∧ ws.length = i ∧ Pen xs st' ∧ FrP st st')
    (range1_run e1 (by rw [lim_eq]; omega)) ⟨[], rfl, rfl, h1, f1⟩ (by rw [List.length_map, List.length_range]; show m < 3000; omega) (by rw [List.length_map, List.length_range, lim_eq]; omega) (by
      rintro i y acc st' hd ⟨ws, rfl, hl, h2, f2⟩
      obtain ⟨w, st3, hw, e3, h3, f3⟩ := pen_draw hx h2 M (many := 6) (by omega) (by omega) (e := eC (.int 6)) (env := [some (.int (most : Int)), some y]) (fun _ => rfl)
      obtain ⟨o, ho⟩ := way_get w hw
      refine ⟨some (.int (o : Int)), st3, compT_y (st1 := st') (by show 2 < 3; decide) rfl ?_, ws ++ [o], by simp, by simp [hl], h3, f2.trans f3⟩
      exact bin_run (x := .frz [.int 0, .int 0, .int 0, .int 1, .int 1, .int 2]) rfl e3 (ix_frz _ ho))
  rw [List.length_map, List.length_range] at hl
  have hb : b__law_list (CX (M + 2)) [some (.loc 0), some (.int (most : Int)), none] st = some (.rt (pD ws), [some (.loc 0), some (.int (most : Int)), none], st2) := ret_run (tuple_frz e2)
  exact ⟨ws, st2, fr_rt rfl rfl hb, by omega, h2, f2⟩
theorem copying_run {xs : List Int} (hx : xs.length ≤ 63) {many : Nat} (hm : many ≤ 100) {st : Stt} (hp : Pen xs st) {N : Nat} (hN : 20 ≤ N) :
    ∃ (cy : List Nat) (st' : Stt), (CX N).call F__law_copying [.loc 0, .int (many : Int)] st = some (.ok (pD cy), st') ∧ cy.length ≤ many ∧ Pen xs st' ∧ FrP st st' := by
  obtain ⟨M, rfl⟩ : ∃ M, N = M + 3 := ⟨N - 3, by omega⟩
  rw [cx_call, call_np fn_copying (by decide)]
  obtain ⟨acc, st2, e2, ws, rfl, hl, h2, f2⟩ := compF_inv (own := [2]) (tg := gVar 2) (it := iRange1 (eVar 1)) (t := (cB (eBin opEq (eCall F__law_draw (lCons (eVar 0) (lCons (eC (.int 2)) lNil))) (eC (.int 0))))) (e := eVar 2) (c := CX (M + 2)) (env := [some (.loc 0), some (.int (many : Int)), none]) (st := st) (st1 := st) (l := (List.range many).map fun (k : Nat) => D.int (k : Int))
    (fun i acc st' => ∃ ws : List Nat, acc = (ws.map fun (k : Nat) => D.int (k : Int)) ∧ ws.length ≤ i ∧ Pen xs st' ∧ FrP st st')
    (range1_run (var_run rfl) (by rw [lim_eq]; omega)) ⟨[], rfl, Nat.le_refl _, hp, FrP.refl _⟩ (by rw [List.length_map, List.length_range]; show many < 3000; omega) (by rw [List.length_map, List.length_range, lim_eq]; omega) (by
      rintro i y acc st' hd ⟨ws, rfl, hl, h2, f2⟩
      rw [List.getElem?_map] at hd
      obtain ⟨j, hj, rfl⟩ := Option.map_eq_some_iff.mp hd
      obtain ⟨w, st3, hw, e3, h3, f3⟩ := pen_draw hx h2 M (many := 2) (by omega) (by omega) (e := eC (.int 2)) (env := [some (.int (many : Int)), some (.int (j : Int))]) (fun _ => rfl)
      have tw : (cB (eBin opEq (eCall F__law_draw (lCons (eVar 0) (lCons (eC (.int 2)) lNil))) (eC (.int 0)))) (CX (M + 2)) [some (.loc 0), some (.int (many : Int)), some (.int (j : Int))] st' = some (.ok ((w : Int) == 0), st3) := cB_run (bin_run (y := .int 0) e3 rfl (eqi _ _ _))
      by_cases hw0 : w = 0
      · subst hw0
        exact ⟨some (.int (j : Int)), st3, compT_y (st1 := st3) (by show 2 < 3; decide) tw (var_run rfl), ws ++ [j], by simp, by simp; omega, h3, f2.trans f3⟩
      · have hwf : ((w : Int) == 0) = false := by simp; omega
        rw [hwf] at tw
        exact ⟨none, st3, compT_n (by show 2 < 3; decide) tw, ws, by simp, by omega, h3, f2.trans f3⟩)
  rw [List.length_map, List.length_range] at hl
  have hb : b__law_copying (CX (M + 2)) [some (.loc 0), some (.int (many : Int)), none] st = some (.rt (pD ws), [some (.loc 0), some (.int (many : Int)), none], st2) := by
    unfold b__law_copying b__law_copying_0
    exact ret_run (tuple_frz e2)
  exact ⟨ws, st2, fr_rt rfl rfl hb, hl, h2, f2⟩
theorem some_run {xs : List Int} (hx : xs.length ≤ 63) {st : Stt} (hp : Pen xs st) {N : Nat} (hN : 30 ≤ N) :
    ∃ (n : Nat) (b : List Stm) (st' : Stt), (CX N).call F__law_some_program [.loc 0] st = some (.ok (prD n b), st') ∧ 1 ≤ n ∧ n ≤ 4 ∧ PrOk n b ∧ Pen xs st' ∧ FrP st st' := by
  obtain ⟨M, rfl⟩ : ∃ M, N = M + 3 := ⟨N - 3, by omega⟩
  rw [cx_call, call_np fn_some (by decide)]
  obtain ⟨a, st1, ha, e1, h1, f1⟩ := pen_draw hx hp M (many := 7) (by omega) (by omega) (e := eC (.int 7)) (env := [none, none]) (fun _ => rfl)
  obtain ⟨L, st2, hL, e2, h2, f2⟩ := pen_draw hx h1 M (many := 7) (by omega) (by omega) (e := eC (.int 7)) (env := [none, none]) (fun _ => rfl)
  obtain ⟨n, n1, n4, hn⟩ := name_get a ha
  have s0 : b__law_some_program_0 (CX (M + 2)) [some (.loc 0), none, none] st = some (.nx, [some (.loc 0), some (.int (n : Int)), some (.int ((2 + L : Nat) : Int))], st2) := by
    have hl : (lCons (eBin opIx (eLstF (lCons (eC (.int 1)) (lCons (eC (.int 2)) (lCons (eC (.int 2)) (lCons (eC (.int 3)) (lCons (eC (.int 3)) (lCons (eC (.int 4)) (lCons (eC (.int 4)) lNil)))))))) (eCall F__law_draw (lCons (eVar 0) (lCons (eC (.int 7)) lNil)))) (lCons (eBin opAdd (eC (.int 2)) (eCall F__law_draw (lCons (eVar 0) (lCons (eC (.int 7)) lNil)))) lNil)) (CX (M + 2)) [some (.loc 0), none, none] st = some (.ok [.int (n : Int), .int ((2 + L : Nat) : Int)], st2) :=
      lcons_run (bin_run (x := .frz [.int 1, .int 2, .int 2, .int 3, .int 3, .int 4, .int 4]) rfl e1 (ix_frz _ hn)) (lcons_run (bin_run (x := .int 2) (y := .int (L : Int)) rfl e2 rfl) lnil_run)
    unfold b__law_some_program_0 sPar sBnd
    rw [hl]; rfl
  obtain ⟨S, st3, hS, e3, h3, f3⟩ := pen_draw hx h2 M (many := 9) (by omega) (by omega) (e := eC (.int 9)) (env := [some (.int (n : Int)), some (.int ((2 + L : Nat) : Int))]) (fun _ => rfl)
  obtain ⟨P, st4, hP, e4, h4, f4⟩ := pen_draw hx h3 M (many := 4) (by omega) (by omega) (e := eC (.int 4)) (env := [some (.int (n : Int)), some (.int ((2 + L : Nat) : Int))]) (fun _ => rfl)
  obtain ⟨b, st5, e5, ok5, h5, f5⟩ := program_run hx (n := n) (L := 2 + L) (S := 8 + S) (P := 3 + P) n1 n4 (by omega) (by omega) (by omega) h4 (N := M + 2) (by omega)
  have hcall : (eCall F__law_program (lCons (eVar 0) (lCons (eVar 1) (lCons (eVar 2) (lCons (eBin opAdd (eC (.int 8)) (eCall F__law_draw (lCons (eVar 0) (lCons (eC (.int 9)) lNil)))) (lCons (eBin opAdd (eC (.int 3)) (eCall F__law_draw (lCons (eVar 0) (lCons (eC (.int 4)) lNil)))) lNil)))))) (CX (M + 2)) [some (.loc 0), some (.int (n : Int)), some (.int ((2 + L : Nat) : Int))] st2 = some (.ok (prD n b), st5) := by
    have hl : (lCons (eVar 0) (lCons (eVar 1) (lCons (eVar 2) (lCons (eBin opAdd (eC (.int 8)) (eCall F__law_draw (lCons (eVar 0) (lCons (eC (.int 9)) lNil)))) (lCons (eBin opAdd (eC (.int 3)) (eCall F__law_draw (lCons (eVar 0) (lCons (eC (.int 4)) lNil)))) lNil))))) (CX (M + 2)) [some (.loc 0), some (.int (n : Int)), some (.int ((2 + L : Nat) : Int))] st2 = some (.ok [.loc 0, .int (n : Int), .int ((2 + L : Nat) : Int), .int ((8 + S : Nat) : Int), .int ((3 + P : Nat) : Int)], st4) :=
      lcons_run (var_run rfl) (lcons_run (var_run rfl) (lcons_run (var_run rfl) (lcons_run (bin_run (x := .int 8) (y := .int (S : Int)) rfl e3 rfl) (lcons_run (bin_run (x := .int 3) (y := .int (P : Int)) rfl e4 rfl) lnil_run))))
    exact call_run hl e5
  have hb : b__law_some_program (CX (M + 2)) [some (.loc 0), none, none] st = some (.rt (prD n b), [some (.loc 0), some (.int (n : Int)), some (.int ((2 + L : Nat) : Int))], st5) := (seq_nx s0).trans (ret_run hcall)
  exact ⟨n, b, st5, fr_rt rfl rfl hb, n1, n4, ok5, h5, (((f1.trans f2).trans f3).trans f4).trans f5⟩
/-! ### what is compared -/
theorem runW_len {n : Nat} {M : Mach n} (b : List Stm) : ∀ (ws : List Nat) (o : Option Nat) (s : M.σ) (lk : List (Nat × D)), (M.runW b ws o s lk).1.length ≤ lk.length + ws.length
  | [], o, s, lk => by simp [Mach.runW]
  | _ :: _, none, s, lk => by simp [Mach.runW]
  | w :: ws, some k, s, lk => by
    rw [runW_some]
    cases stAt b ((spots b)[k]?.getD []) with
    | none => simp
    | some t =>
      simp only
      by_cases hw : t.ways ≤ w
      · rw [if_pos hw]; simp
      · rw [if_neg hw]
        refine Nat.le_trans (runW_len b ws _ _ _) ?_
        cases t.look? with
        | none => simp only [List.length_cons]; omega
        | some x => simp only [List.length_append, List.length_cons, List.length_nil]; omega
theorem run_len {n : Nat} {M : Mach n} (b : List Stm) (ws : List Nat) (s : M.σ) : (M.run b ws s).1.length ≤ ws.length := by
  have := runW_len (M := M) b ws (flowS b).2 (M.acts s (flowS b).1) []
  simpa [Mach.run] using this
theorem looks_left {P : D → Prop} : ∀ {l m : List (Nat × D)}, Looks (fun a _ => P a) l m → ∀ x ∈ l, P x.2
  | [], [], _, _, h => by simp at h
  | x :: l, y :: m, q, z, h => by
    rcases List.mem_cons.mp h with h | h
    · rw [h]; exact q.1.2
    · exact looks_left q.2 z h
  | [], _ :: _, q, _, _ => q.elim
  | _ :: _, [], q, _, _ => q.elim
theorem shown_ok {n : Nat} {b : List Stm} (hP : PrOk n b) (hn : n ≤ 4) {cy : List Nat} (hcy : cy.length ≤ 100) {ws : List Nat} (hw : ws.length ≤ 2000) : ∀ x ∈ (runS n b cy hcy ws).1, D.ok 30 x.2 = true := by
  have G : Go (mSt n cy hcy) (mSt n cy hcy) (fun s h => s = h ∧ (s : St).inv n 0) (fun a _ => D.ok 30 a = true) := ⟨fun k s h x r is _ hx => by
    obtain ⟨rfl, i⟩ := r
    exact ⟨rfl, (inv_act is hx : St.inv n k _).weak (Nat.zero_le _)⟩, fun s h x r hx => by
    obtain ⟨rfl, i⟩ := r
    have i' : St.inv n 0 s := i
    have h2 := (i'.shn hx).2
    have : ∀ q : List Nat, D.okL 29 (q.map fun (k : Nat) => D.int (k : Int)) = true := fun q => by
      induction q with
      | nil => simp [D.okL]
      | cons x q ih => simp [D.okL, D.ok, ih]
    show D.ok 30 (pD (St.sh s x)) = true
    unfold pD
    simp only [D.ok, this, Bool.and_true, decide_eq_true_eq, List.length_map]
    rw [lim_eq]; omega⟩
  exact looks_left (go_run G hP (ws := ws) (s := St.new n) (h := St.new n) ⟨rfl, (new_inv hn).weak (Nat.zero_le _)⟩ ((new_inv hn).weak (by omega)) ((new_inv hn).weak (by omega))).1
theorem okL_map {α : Type} (m : Nat) (f : α → D) : ∀ l : List α, (∀ x ∈ l, D.ok m (f x) = true) → D.okL m (l.map f) = true
  | [], _ => by simp [D.okL]
  | x :: l, h => by simp only [List.map_cons, D.okL, h x (by simp), okL_map m f l (fun y hy => h y (by simp [hy])), Bool.and_self]
theorem RunEnd.ok (m : Nat) (e : RunEnd) : D.ok (m + 1) e.d = true := by
  cases e with
  | fin => simp [RunEnd.d, D.ok, D.okL, lim_eq, w_end]
  | open_ k => simp [RunEnd.d, D.ok, D.okL, lim_eq, w_open]
  | astray k => simp [RunEnd.d, D.ok, D.okL, lim_eq, w_astray]
theorem ok2 {m : Nat} {a b : D} (ha : D.ok m a = true) (hb : D.ok m b = true) : D.ok (m + 1) (.tup [a, b]) = true := by
  have h : decide (([a, b] : List D).length < lim) = true := decide_eq_true (by show 2 < lim; decide)
  simp only [D.ok, D.okL, ha, hb, h, Bool.and_self]
theorem resD_ok {r : List (Nat × D) × RunEnd} (h : ∀ x ∈ r.1, D.ok 30 x.2 = true) (hl : r.1.length ≤ 2000) : D.ok 33 (resD r) = true := by
  have h1 : D.okL 31 (r.1.map lookD) = true := okL_map 31 lookD _ fun x hx => ok2 (by simp [D.ok]) (h x hx)
  have h3 : decide ((r.1.map lookD).length < lim) = true := decide_eq_true (by rw [List.length_map, lim_eq]; omega)
  have h4 : D.ok 32 (.tup (r.1.map lookD)) = true := by simp only [D.ok, h1, h3, Bool.and_self]
  exact ok2 h4 (r.2.ok 31)
mutual
theorem ok_up : ∀ (n : Nat) (d : D), D.ok n d = true → D.ok (n + 1) d = true
  | n, .non, _ => by simp [D.ok]
  | n, .bl _, _ => by simp [D.ok]
  | n, .int _, _ => by simp [D.ok]
  | n, .str s, h => by simp only [D.ok] at h ⊢; exact h
  | 0, .tup _, h => by simp [D.ok] at h
  | n + 1, .tup l, h => by
    simp only [D.ok, Bool.and_eq_true] at h ⊢
    exact ⟨h.1, okL_up n l h.2⟩
  | 0, .xtup _, h => by simp [D.ok] at h
  | n + 1, .xtup l, h => by
    simp only [D.ok, Bool.and_eq_true] at h ⊢
    exact ⟨h.1, okL_up n l h.2⟩
  | 0, .frz _, h => by simp [D.ok] at h
  | n + 1, .frz l, h => by
    simp only [D.ok, Bool.and_eq_true] at h ⊢
    exact ⟨h.1, okL_up n l h.2⟩
  | _, .loc _, h => by simp [D.ok] at h
theorem okL_up : ∀ (n : Nat) (l : List D), D.okL n l = true → D.okL (n + 1) l = true
  | _, [], _ => by simp [D.okL]
  | n, x :: xs, h => by
    simp only [D.okL, Bool.and_eq_true] at h ⊢
    exact ⟨ok_up n x h.1, okL_up n xs h.2⟩
end
theorem ok_deep {d : D} (h : D.ok 33 d = true) : D.ok deep d = true := ok_up 39 _ (ok_up 38 _ (ok_up 37 _ (ok_up 36 _ (ok_up 35 _ (ok_up 34 _ (ok_up 33 _ h))))))
/-- two values alike are not unlike -/
theorem ne_self {d : D} (ho : D.ok deep d = true) (st : Stt) : opNe d d st = some (.ok (.bl false), st) := by
  have e : eqD d d st = some (.ok true, st) := by
    unfold eqD
    rw [dat_self ho]
    simp [ho, eqv_refl _ _ ho]
  unfold opNe
  rw [bnd_ok e]; rfl
theorem ints_ok (m : Nat) {l : List Nat} (h : l.length ≤ 1000000) : D.ok (m + 1) (pD l) = true := by
  have : D.okL m (l.map fun (k : Nat) => D.int (k : Int)) = true := okL_map m _ _ fun _ _ => by simp [D.ok]
  unfold pD
  simp only [D.ok, this, Bool.and_true, decide_eq_true_eq, List.length_map]
  rw [lim_eq]; omega
end MI

set_option autoImplicit false
set_option maxRecDepth 100000
set_option linter.all false
/-! K3: the law's own paths. -/
namespace MI
open PySem
theorem fn_lblocks : prog.fns[F__law_blocks]? = some ⟨1, 1, b__law_blocks⟩ := rfl
theorem fn_lpaths : prog.fns[F__law_all_paths]? = some ⟨2, 7, b__law_all_paths⟩ := rfl
theorem fn_lblock_at : prog.fns[F__law_block_at]? = some ⟨2, 4, b__law_block_at⟩ := rfl
theorem fn_lat : prog.fns[F__law_at]? = some ⟨2, 2, b__law_at⟩ := rfl
theorem enum_frz {a : SE} {c : Ctx} {env : Env} {st st1 : Stt} {l : List D} (h : a c env st = some (.ok (.frz l), st1)) (hl : l.length < lim) : iEnum a c env st = some (.ok (.items (enumD 0 l)), st1) := by
  unfold iEnum
  rw [bnd_ok h]
  simp only [hl, if_true]
theorem lblocks_run {n k : Nat} {s : Stm} (h : s.ok n k) (N : Nat) (st : Stt) : prog.call 3000 (N + 1) F__law_blocks [s.d] st = some (.ok (.frz (bsL s.bs)), st) := by
  have lf : D.lfL [s.d] = true := by simp [D.lfL, Stm.lf s]
  refine pure_frz fn_lblocks (by decide) lf rfl (env' := [some s.d]) (st' := []) ?_ (bsL_lf _)
  match s, h with
  | .pl (.fresh x), _ => kernel_rfl
  | .pl (.give l x y), _ => kernel_rfl
  | .pl (.change l x m), _ => kernel_rfl
  | .look x, _ => kernel_rfl
  | .br false bs, h =>
    have hl : (bsL bs).length < lim := by
      rw [bsL_len, lim_eq]
      cases k with
      | zero => exact h.elim
      | succ k => have := h.2.1; omega
    have e1 : (cB (eBin opEq (eBin opIx (eVar 0) (eC (.int 0))) (eC (.str w_choose)))) (CX N) [some (Stm.br false bs).d] [] = some (.ok true, []) := by kernel_rfl
    have e2 : (eUn bListF (eBin opIx (eVar 0) (eC (.int 1)))) (CX N) [some (Stm.br false bs).d] [] = some (.ok (.frz (bsL bs)), []) := by
      refine un_run (x := .tup (bsL bs)) (st1 := []) rfl ?_
      unfold bListF
      have : seqOf (.tup (bsL bs)) [] = some (.ok (bsL bs), []) := rfl
      rw [bnd_ok this, if_pos hl]; rfl
    exact seq_rt (a := b__law_blocks_0) ((if_t e1).trans (ret_run e2))
  | .br true [b], _ => kernel_rfl
  | .br true [], h => cases k with
    | zero => exact h.elim
    | succ k => exact absurd (h.1 rfl) (by simp)
  | .br true (_ :: _ :: _), h => cases k with
    | zero => exact h.elim
    | succ k => exact absurd (h.1 rfl) (by simp)
theorem lpaths_run {n : Nat} : ∀ (k : Nat) (b : List Stm), okB n k b → b.length ≤ 8 → (psB b [] 0).length ≤ 1000 → ∀ (p : List Nat), p.length + 2 * k ≤ 100 → ∀ (N : Nat), k < N → ∀ st, prog.call 3000 (N + 1) F__law_all_paths [.tup (blL b), pD p] st = some (.ok (.frz ((psB b p 0).map pD)), st) := by
  intro k
  induction k using Nat.strongRecOn with
  | ind k ih =>
  intro b hb hl hs p hp N hN st
  obtain ⟨N, rfl⟩ : ∃ M, N = M + 1 := ⟨N - 1, by omega⟩
  have lfa : D.lfL [.tup (blL b), pD p] = true := by
    show (D.lf (.tup (blL b)) && (D.lf (pD p) && true)) = true
    rw [pD_lf p, show D.lf (.tup (blL b)) = true from blL_lf b]; rfl
  have hs' : (psB b p 0).length ≤ 1000 := by rw [psB_len b p [] 0]; exact hs
  -- the outer walk
  obtain ⟨env', st', e, P⟩ := for_inv (g := gTup 2 (gCons (gVar 3) (gCons (gVar 4) gNil))) (it := iEnum (eVar 0)) (b := (sSeq (sExpr (eMt1 isLst mAppend (eVar 2) (eBin opAdd (eVar 1) (eTup (lCons (eVar 3) lNil)))))
  (sFor (gTup 2 (gCons (gVar 5) (gCons (gVar 6) gNil))) (iEnum (eCall F__law_blocks (lCons (eVar 4) lNil)))
  (sExpr (eMt1 isLst mExtend (eVar 2) (eCall F__law_all_paths (lCons (eVar 6) (lCons (eBin opAdd (eVar 1) (eTup (lCons (eVar 3) (lCons (eVar 5) lNil)))) lNil)))))))) (c := CX (N + 1)) (env := [some (.tup (blL b)), some (pD p), some (.loc 0), none, none, none, none]) (st := [.lst []]) (st1 := [.lst []])
    (l := enumD 0 (blL b)) (fun i env st => ∃ a b' c' d', env = [some (.tup (blL b)), some (pD p), some (.loc 0), a, b', c', d'] ∧ st = [.lst ((psB (b.take i) p 0).map pD)])
    (enum_run (var_run rfl) (by rw [blL_len]; rw [lim_eq]; omega)) ⟨_, _, _, _, rfl, by simp [psB]⟩ (by rw [enumD_len, blL_len]; show b.length < 3000; omega) (by
      rintro i d env st hd ⟨a, b', c', d', rfl, rfl⟩
      obtain ⟨x, hx, rfl⟩ := enumD_get _ _ _ _ hd
      rw [blL_get] at hx
      obtain ⟨s, hs1, rfl⟩ := Option.map_eq_some_iff.mp hx
      have hok := okB_get hb hs1
      rw [Nat.zero_add]
      have bnd1 := psB_pre b p (i + 1)
      rw [psB_take hs1 p, psS_bs] at bnd1
      simp only [List.length_append, List.length_cons] at bnd1
      have hp2 : (p ++ [i]).length = p.length + 1 := by simp
      have app : sExpr (eMt1 isLst mAppend (eVar 2) (eBin opAdd (eVar 1) (eTup (lCons (eVar 3) lNil)))) (CX (N + 1)) [some (.tup (blL b)), some (pD p), some (.loc 0), some (.int (i : Int)), some s.d, c', d'] [.lst ((psB (b.take i) p 0).map pD)] = some (.nx, [some (.tup (blL b)), some (pD p), some (.loc 0), some (.int (i : Int)), some s.d, c', d'], [.lst ((psB (b.take i) p 0 ++ [p ++ [i]]).map pD)]) := by
        have := append_run (c := CX (N + 1)) (st := [.lst ((psB (b.take i) p 0).map pD)]) (a := eVar 2) (b := eBin opAdd (eVar 1) (eTup (lCons (eVar 3) lNil))) (env := [some (.tup (blL b)), some (pD p), some (.loc 0), some (.int (i : Int)), some s.d, c', d']) (k := 0) (y := pD (p ++ [i])) (var_run rfl) rfl
          (bin_run (var_run rfl) (tup_run (lcons_run (var_run rfl) lnil_run) lim1) (by rw [← pD_app]; exact tadd_run _ (by rw [pD_len]; show p.length + 1 < lim; rw [lim_eq]; omega))) rfl (by rw [List.length_map, lim_eq]; omega)
        rw [expr_run this]
        simp
      obtain ⟨env2, st2, e2, a2, b2, rfl, rfl⟩ := for_inv (g := gTup 2 (gCons (gVar 5) (gCons (gVar 6) gNil))) (it := iEnum (eCall F__law_blocks (lCons (eVar 4) lNil))) (b := (sExpr (eMt1 isLst mExtend (eVar 2) (eCall F__law_all_paths (lCons (eVar 6) (lCons (eBin opAdd (eVar 1) (eTup (lCons (eVar 3) (lCons (eVar 5) lNil)))) lNil)))))) (c := CX (N + 1)) (env := [some (.tup (blL b)), some (pD p), some (.loc 0), some (.int (i : Int)), some s.d, c', d'])
        (st := [.lst ((psB (b.take i) p 0 ++ [p ++ [i]]).map pD)]) (st1 := [.lst ((psB (b.take i) p 0 ++ [p ++ [i]]).map pD)]) (l := enumD 0 (bsL s.bs))
        (fun j env st => ∃ a2 b2, env = [some (.tup (blL b)), some (pD p), some (.loc 0), some (.int (i : Int)), some s.d, a2, b2] ∧ st = [.lst ((psB (b.take i) p 0 ++ (p ++ [i]) :: psBs (s.bs.take j) (p ++ [i]) 0).map pD)])
        (enum_frz (call_run (lcons_run (var_run rfl) lnil_run) (lblocks_run hok N _)) (by
          rw [bsL_len]; rw [lim_eq]
          match s, k, hok with
          | .pl _, _, _ => simp [Stm.bs]
          | .look _, _, _ => simp [Stm.bs]
          | .br _ bs, k + 1, h => have := h.2.1; simp [Stm.bs]; omega)) ⟨_, _, rfl, by simp [psBs]⟩ (by
          rw [enumD_len, bsL_len]
          show s.bs.length < 3000
          match s, k, hok with
          | .pl _, _, _ => simp [Stm.bs]
          | .look _, _, _ => simp [Stm.bs]
          | .br _ bs, k + 1, h => have := h.2.1; simp [Stm.bs]; omega) (by
          rintro j d env st hd ⟨a2, b2, rfl, rfl⟩
          obtain ⟨x, hx, rfl⟩ := enumD_get _ _ _ _ hd
          rw [bsL_get] at hx
          obtain ⟨t, ht, rfl⟩ := Option.map_eq_some_iff.mp hx
          rw [Nat.zero_add]
          obtain ⟨lp, bs, k', rfl, rfl⟩ : ∃ lp bs k', s = .br lp bs ∧ k = k' + 1 := by
            match s, k, hok, ht with
            | .br lp bs, k + 1, _, _ => exact ⟨_, _, _, rfl, rfl⟩
            | .pl _, _, _, h => simp [Stm.bs] at h
            | .look _, _, _, h => simp [Stm.bs] at h
          have hbs := okBs_get hok.2.2 ht
          have b1 := psBs_pre (Stm.br lp bs).bs (p ++ [i]) (j + 1)
          rw [psBs_take ht (p ++ [i])] at b1
          simp only [List.length_append] at b1
          have b3 : (psB t [] 0).length ≤ 1000 := by
            rw [psB_len t [] (p ++ [i] ++ [j]) 0]; omega
          have hrec := ih k' (by omega) t hbs.2 hbs.1 b3 (p ++ [i] ++ [j]) (by simp; omega) N (by omega) [.lst ((psB (b.take i) p 0 ++ (p ++ [i]) :: psBs ((Stm.br lp bs).bs.take j) (p ++ [i]) 0).map pD)]
          refine ⟨_, _, turn_two (by show 5 < 7; decide) (by show 6 < 7; decide) (expr_run (extend_run (k := 0) (l' := ((psB (b.take i) p 0 ++ (p ++ [i]) :: psBs ((Stm.br lp bs).bs.take j) (p ++ [i]) 0).map pD)) (m := (psB t (p ++ [i] ++ [j]) 0).map pD) (var_run rfl) rfl
            (call_run (lcons_run (var_run rfl) (lcons_run (bin_run (var_run rfl) (tup_run (lcons_run (var_run rfl) (lcons_run (var_run rfl) lnil_run)) lim2) (r := some (.ok (pD (p ++ [i] ++ [j])), _)) (by
              rw [List.append_assoc, ← pD_app]; exact tadd_run _ (by rw [pD_len]; show p.length + 2 < lim; rw [lim_eq]; omega))) lnil_run)) hrec) rfl rfl (by simp only [List.length_map, List.length_append, List.length_cons]; rw [lim_eq]; omega))), _, _, rfl, ?_⟩
          rw [psBs_take ht (p ++ [i])]
          simp)
      refine ⟨_, _, turn_two (by show 3 < 7; decide) (by show 4 < 7; decide) ((seq_nx app).trans e2), _, _, _, _, rfl, ?_⟩
      rw [enumD_len, bsL_len, List.take_length, psB_take hs1 p, psS_bs])
  obtain ⟨a, b', c', d', rfl, rfl⟩ := P
  rw [enumD_len, blL_len, List.take_length] at e
  refine pure_lst fn_lpaths (by decide) lfa rfl (n := 0) (env' := [some (.tup (blL b)), some (pD p), some (.loc 0), a, b', c', d']) (st' := [.lst ((psB b p 0).map pD)]) (l := (psB b p 0).map pD) ?_ rfl (pDs_lf _)
  show b__law_all_paths (CX (N + 1)) [some (.tup (blL b)), some (pD p), none, none, none, none, none] [] = _
  have h0 : b__law_all_paths_0 (CX (N + 1)) [some (.tup (blL b)), some (pD p), none, none, none, none, none] [] = some (.nx, [some (.tup (blL b)), some (pD p), some (.loc 0), none, none, none, none], [.lst []]) := rfl
  unfold b__law_all_paths
  rw [seq_nx h0]
  refine (seq_nx (a := b__law_all_paths_1) e).trans ?_
  exact ret_run (var_run rfl)

theorem pure_tup2 {f N p k : Nat} {b : SS} {ds : List D} {d : D} {env env' : Env} {st st' : Stt} (hf : prog.fns[f]? = some ⟨p, k, b⟩) (hp : prog.pures.contains f = true) (ha : D.lfL ds = true) (hl : ds.length = p) (he : ds.map some ++ List.replicate (k - p) none = env)
    (h : b (CX N) env [] = some (.rt d, env', st')) (hn : ∀ n, d ≠ .loc n) (hd : D.lf d = true) : prog.call 3000 (N + 1) f ds st = some (.ok d, st) := by
  rw [call_p hf hp]
  exact opt_run ha (fr_rt hl he h) hn hd
theorem everyOther_range : ∀ (m k : Nat), everyOther ((List.range' k (2 * m)).map fun (j : Nat) => D.int (j : Int)) = (List.range m).map fun (j : Nat) => D.int ((k + 2 * j : Nat) : Int)
  | 0, k => rfl
  | m + 1, k => by
    have h := everyOther_range m (k + 2)
    rw [show 2 * (m + 1) = 2 * m + 1 + 1 by omega, List.range'_succ, List.range'_succ, List.map_cons, List.map_cons, everyOther]
    rw [show k + 1 + 1 = k + 2 by omega, h, List.range_succ_eq_map, List.map_cons, List.map_map]
    congr 1
    refine List.map_congr_left fun j _ => ?_
    show D.int ((k + 2 + 2 * j : Nat) : Int) = D.int ((k + 2 * (j + 1) : Nat) : Int)
    rw [show k + 2 + 2 * j = k + 2 * (j + 1) by omega]
theorem range3_run {a : SE} {c : Ctx} {env : Env} {st st1 : Stt} {m : Nat} (h : a c env st = some (.ok (.int ((2 * m : Nat) : Int)), st1)) (hm : m < 1000) : iRange3 a c env st = some (.ok (.items ((List.range m).map fun (j : Nat) => D.int ((2 * j : Nat) : Int))), st1) := by
  unfold iRange3
  rw [bnd_ok h]
  show (if -(lim : Int) < ((2 * m : Nat) : Int) ∧ ((2 * m : Nat) : Int) < lim then ret (Src.items (everyOther (rangeL 0 ((2 * m : Nat) : Int)))) else fail) st1 = _
  rw [if_pos ⟨by rw [lim_eq]; omega, by rw [lim_eq]; omega⟩, range_items, List.range_eq_range', everyOther_range]
  simp [ret]
theorem unp_get : ∀ (pr : List (Nat × Nat)) (j : Nat) (i w : Nat), pr[j]? = some (i, w) → (unp pr)[2 * j]? = some i ∧ (unp pr)[2 * j + 1]? = some w
  | [], _, _, _, h => by simp at h
  | (a, b) :: r, 0, i, w, h => by
    have e : (a, b) = (i, w) := by simpa using h
    cases e
    exact ⟨rfl, rfl⟩
  | (a, b) :: r, j + 1, i, w, h => by
    have := unp_get r j i w (by simpa using h)
    rw [show 2 * (j + 1) = 2 * j + 1 + 1 by omega]
    simp only [unp, List.getElem?_cons_succ]
    exact this
theorem lblock_at_run {n : Nat} {b b1 : List Stm} {p : List Nat} (hP : PrOk n b) (h : blkAt b p = some b1) (N : Nat) (st : Stt) : prog.call 3000 (N + 2) F__law_block_at [prD n b, pD p] st = some (.ok (.tup (blL b1)), st) := by
  have hsh := blkAt_short hP h
  obtain ⟨pr, rfl⟩ := blkAt_unp h
  have lfa : D.lfL [prD n b, pD (unp pr)] = true := by
    show (D.lf (prD n b) && (D.lf (pD (unp pr)) && true)) = true
    rw [prD_lf, pD_lf]; rfl
  have hlen : (eUn bLen (eVar 1)) (CX (N + 1)) [some (prD n b), some (pD (unp pr)), some (.tup (blL b)), none] [] = some (.ok (.int ((2 * pr.length : Nat) : Int)), []) := by
    refine un_run (x := pD (unp pr)) (st1 := []) rfl ?_
    rw [← unp_len, ← pD_len (unp pr)]; rfl
  have hm : pr.length < 1000 := by rw [unp_len] at hsh; omega
  obtain ⟨env', st', e, P⟩ := for_inv (g := gVar 3) (it := iRange3 (eUn bLen (eVar 1))) (b := (sSet 2 (eBin opIx (eCall F__law_blocks (lCons (eBin opIx (eVar 2) (eBin opIx (eVar 1) (eVar 3))) lNil)) (eBin opIx (eVar 1) (eBin opAdd (eVar 3) (eC (.int 1))))))) (c := CX (N + 1))
    (fun j env st => st = [] ∧ ∃ b2 x, blkAt b (unp (pr.take j)) = some b2 ∧ env = [some (prD n b), some (pD (unp pr)), some (.tup (blL b2)), x]) (range3_run hlen hm) ⟨rfl, b, none, rfl, rfl⟩ (by
      show (List.map _ _).length < 3000
      rw [List.length_map, List.length_range]; omega) (by
      rintro j d env st hd ⟨rfl, b2, x, hb2, rfl⟩
      rw [List.getElem?_map] at hd
      obtain ⟨j', hj', rfl⟩ := Option.map_eq_some_iff.mp hd
      have hjl : j < pr.length := by have := (List.getElem?_eq_some_iff.mp hj').1; simpa using this
      have ej : j' = j := by
        rw [List.getElem?_range hjl] at hj'
        exact (Option.some.inj hj').symm
      subst ej
      obtain ⟨⟨i, w⟩, hj⟩ : ∃ x, pr[j']? = some x := ⟨_, List.getElem?_eq_getElem hjl⟩
      obtain ⟨g1, g2⟩ := unp_get pr j' i w hj
      have e4 : unp (pr.take (j' + 1)) = unp (pr.take j') ++ [i, w] := by
        obtain ⟨hlt, e⟩ := List.getElem?_eq_some_iff.mp hj
        rw [List.take_succ_eq_append_getElem hlt, e, unp_app]; rfl
      have h5 : ∃ b3, blkAt b (unp (pr.take (j' + 1))) = some b3 := blkAt_pre (c := pr.drop (j' + 1)) (b1 := b1) (by rw [List.take_append_drop]; exact h)
      obtain ⟨b3, h5⟩ := h5
      have h6 := h5
      rw [e4, blkAt_app _ _ _ _ hb2] at h6
      simp only [blkAt] at h6
      cases h7 : b2[i]? with
      | none => rw [h7] at h6; cases h6
      | some s =>
        rw [h7] at h6
        simp only at h6
        cases h8 : s.bs[w]? with
        | none => rw [h8] at h6; cases h6
        | some b' =>
          rw [h8] at h6
          have h6' : b' = b3 := by simpa using h6
          subst h6'
          obtain ⟨k2, _, hok2, hl2⟩ := blkAt_ok hP.ok hP.len hb2
          have hs := okB_get hok2 h7
          have ei : (eBin opIx (eVar 1) (eVar 3)) (CX (N + 1)) [some (prD n b), some (pD (unp pr)), some (.tup (blL b2)), some (.int ((2 * j' : Nat) : Int))] [] = some (.ok (.int (i : Int)), []) :=
            bin_run (var_run rfl) (var_run rfl) (ix_tup _ (by rw [List.getElem?_map, g1]; rfl))
          have ew : (eBin opIx (eVar 1) (eBin opAdd (eVar 3) (eC (.int 1)))) (CX (N + 1)) [some (prD n b), some (pD (unp pr)), some (.tup (blL b2)), some (.int ((2 * j' : Nat) : Int))] [] = some (.ok (.int (w : Int)), []) :=
            bin_run (x := pD (unp pr)) (y := .int ((2 * j' + 1 : Nat) : Int)) (var_run rfl) (bin_run (x := .int ((2 * j' : Nat) : Int)) (y := .int 1) rfl rfl rfl) (ix_tup _ (by rw [List.getElem?_map, g2]; rfl))
          exact ⟨_, _, turn_var (by show 3 < 4; decide) (set_run (bin_run (call_run (lcons_run (bin_run (var_run rfl) ei (ix_tup (k := i) _ (by rw [blL_get, h7]; rfl))) lnil_run) (lblocks_run hs N _)) ew (ix_frz (k := w) (d := .tup (blL b')) _ (by rw [bsL_get, h8]; rfl))) (by show 2 < 4; decide)), rfl, b', _, h5, rfl⟩)
  obtain ⟨rfl, b2, x, hb2, rfl⟩ := P
  rw [List.length_map, List.length_range, List.take_length, h] at hb2
  cases hb2
  have h0 : b__law_block_at_0 (CX (N + 1)) [some (prD n b), some (pD (unp pr)), none, none] [] = some (.nx, [some (prD n b), some (pD (unp pr)), some (.tup (blL b)), none], []) := rfl
  have hb : b__law_block_at (CX (N + 1)) [some (prD n b), some (pD (unp pr)), none, none] [] = some (.rt (.tup (blL b1)), [some (prD n b), some (pD (unp pr)), some (.tup (blL b1)), x], []) := by
    unfold b__law_block_at
    rw [seq_nx h0]
    refine (seq_nx (a := b__law_block_at_1) e).trans ?_
    exact ret_run (var_run rfl)
  exact pure_tup2 fn_lblock_at (by decide) lfa rfl rfl hb (fun _ z => by cases z) (blL_lf b1)
theorem lat_run {n : Nat} {b : List Stm} {q : List Nat} {s : Stm} (hP : PrOk n b) (h : stAt b q = some s) (N : Nat) (st : Stt) : prog.call 3000 (N + 3) F__law_at [prD n b, pD q] st = some (.ok s.d, st) := by
  obtain ⟨p, i, b1, rfl, h1, h2⟩ := stAt_some h
  have lfa : D.lfL [prD n b, pD (p ++ [i])] = true := by
    show (D.lf (prD n b) && (D.lf (pD (p ++ [i])) && true)) = true
    rw [prD_lf, pD_lf]; rfl
  have hbl : (CX (N + 2)).call F__law_block_at [prD n b, pD p] [] = some (.ok (.tup (blL b1)), []) := by
    rw [cx_call]
    exact lblock_at_run hP h1 N []
  have hc : (eCall F__law_block_at (lCons (eVar 0) (lCons (eSlc (eVar 1) oNone (oSome (eUn opNeg (eC (.int 1))))) lNil))) (CX (N + 2)) [some (prD n b), some (pD (p ++ [i]))] [] = some (.ok (.tup (blL b1)), []) :=
    call_run (lcons_run (var_run rfl) (lcons_run (slc_last (l := p.map fun (k : Nat) => D.int (k : Int)) (d := .int (i : Int)) (var_run (by rw [pD_snoc]; rfl))) lnil_run)) hbl
  have hi : (eBin opIx (eVar 1) (eUn opNeg (eC (.int 1)))) (CX (N + 2)) [some (prD n b), some (pD (p ++ [i]))] [] = some (.ok (.int (i : Int)), []) := bin_run (y := .int (-1)) (var_run rfl) rfl (by rw [pD_snoc]; exact ix_last _)
  have hb : b__law_at (CX (N + 2)) [some (prD n b), some (pD (p ++ [i]))] [] = some (.rt s.d, [some (prD n b), some (pD (p ++ [i]))], []) := by
    unfold b__law_at b__law_at_0
    exact ret_run (bin_run hc hi (ix_tup _ (by rw [blL_get, h2]; rfl)))
  exact pure_tup2 fn_lat (by decide) lfa rfl rfl hb (fun _ z => by cases s with | pl p => cases p <;> cases z | look _ => cases z | br lp _ => cases lp <;> cases z) s.lf
end MI

set_option autoImplicit false
set_option maxRecDepth 100000
set_option linter.all false
/-! C2: other marks at the changes: the same paths, spots, flows. -/
namespace MI
open PySem
def Pl.mp (f : Nat → Nat) : Pl → Pl
  | .fresh x => .fresh x
  | .give l x y => .give l x y
  | .change l x m => .change l x (f m)
mutual
def Stm.mp (f : Nat → Nat) : Stm → Stm
  | .pl p => .pl (p.mp f)
  | .look x => .look x
  | .br lp bs => .br lp (mpBs f bs)
def mpB (f : Nat → Nat) : List Stm → List Stm
  | [] => []
  | s :: r => s.mp f :: mpB f r
def mpBs (f : Nat → Nat) : List (List Stm) → List (List Stm)
  | [] => []
  | b :: r => mpB f b :: mpBs f r
end
section
variable (f : Nat → Nat)
theorem mpB_map : ∀ b : List Stm, mpB f b = b.map (Stm.mp f)
  | [] => rfl
  | s :: r => by rw [mpB, mpB_map r]; rfl
theorem mpBs_map : ∀ b : List (List Stm), mpBs f b = b.map (mpB f)
  | [] => rfl
  | s :: r => by rw [mpBs, mpBs_map r]; rfl
theorem mp_bs (s : Stm) : (s.mp f).bs = mpBs f s.bs := by cases s <;> rfl
theorem mp_spot (s : Stm) : (s.mp f).isSpot = s.isSpot := by cases s <;> rfl
theorem mp_loop (s : Stm) : (s.mp f).isLoop = s.isLoop := by cases s <;> rfl
theorem mp_look (s : Stm) : (s.mp f).look? = s.look? := by cases s <;> rfl
theorem mpB_get (b : List Stm) (i : Nat) : (mpB f b)[i]? = b[i]?.map (Stm.mp f) := by rw [mpB_map]; simp
theorem mpBs_get (b : List (List Stm)) (i : Nat) : (mpBs f b)[i]? = b[i]?.map (mpB f) := by rw [mpBs_map]; simp
theorem mpB_len (b : List Stm) : (mpB f b).length = b.length := by rw [mpB_map]; simp
theorem mpBs_len (b : List (List Stm)) : (mpBs f b).length = b.length := by rw [mpBs_map]; simp
theorem mp_ways (s : Stm) : (s.mp f).ways = s.ways := by
  cases s with
  | pl p => rfl
  | look x => rfl
  | br lp bs => cases lp <;> simp [Stm.mp, Stm.ways, mpBs_len]
theorem pl_ok {n : Nat} (hf : ∀ m, m < 10 → f m < 10) {p : Pl} (h : p.ok n) : (p.mp f).ok n := by
  cases p with
  | fresh x => exact h
  | give l x y => exact h
  | change l x m => exact ⟨h.1, h.2.1, hf m h.2.2⟩
mutual
theorem mp_ok {n : Nat} (hf : ∀ m, m < 10 → f m < 10) : ∀ (s : Stm) (k : Nat), s.ok n k → (s.mp f).ok n k
  | .pl p, k, h => ok_pl (pl_ok f hf (Stm.ok_pl h))
  | .look x, k, h => by cases k <;> exact h
  | .br lp bs, 0, h => h.elim
  | .br lp bs, k + 1, h => ⟨fun e => by rw [mpBs_len]; exact h.1 e, by rw [mpBs_len]; exact h.2.1, mpBs_ok hf bs k h.2.2⟩
theorem mpB_ok {n : Nat} (hf : ∀ m, m < 10 → f m < 10) : ∀ (b : List Stm) (k : Nat), okB n k b → okB n k (mpB f b)
  | [], _, _ => trivial
  | s :: r, k, h => ⟨mp_ok hf s k h.1, mpB_ok hf r k h.2⟩
theorem mpBs_ok {n : Nat} (hf : ∀ m, m < 10 → f m < 10) : ∀ (b : List (List Stm)) (k : Nat), okBs n k b → okBs n k (mpBs f b)
  | [], _, _ => trivial
  | b :: r, k, h => ⟨⟨by rw [mpB_len]; exact h.1.1, mpB_ok hf b k h.1.2⟩, mpBs_ok hf r k h.2⟩
end
mutual
theorem psS_mp : ∀ (s : Stm) (p : List Nat), psS (s.mp f) p = psS s p
  | .pl _, _ => rfl
  | .look _, _ => rfl
  | .br _ bs, p => by rw [Stm.mp, psS, psS, psBs_mp bs p 0]
theorem psB_mp : ∀ (b : List Stm) (p : List Nat) (i : Nat), psB (mpB f b) p i = psB b p i
  | [], _, _ => rfl
  | s :: r, p, i => by rw [mpB, psB, psB, psS_mp s, psB_mp r]
theorem psBs_mp : ∀ (b : List (List Stm)) (p : List Nat) (i : Nat), psBs (mpBs f b) p i = psBs b p i
  | [], _, _ => rfl
  | b :: r, p, i => by rw [mpBs, psBs, psBs, psB_mp b, psBs_mp r]
end
theorem paths_mp (b : List Stm) : paths (mpB f b) = paths b := psB_mp f b [] 0
theorem blkAt_mp : ∀ (p : List Nat) (b : List Stm), blkAt (mpB f b) p = (blkAt b p).map (mpB f)
  | [], b => rfl
  | [_], b => rfl
  | i :: w :: r, b => by
    rw [blkAt, blkAt, mpB_get]
    cases h : b[i]? with
    | none => rfl
    | some s =>
      simp only [Option.map_some, mp_bs, mpBs_get]
      cases h2 : s.bs[w]? with
      | none => rfl
      | some b' => exact blkAt_mp r b'
theorem stAt_mp (b : List Stm) (q : List Nat) : stAt (mpB f b) q = (stAt b q).map (Stm.mp f) := by
  unfold stAt
  cases q.getLast? with
  | none => rfl
  | some i =>
    simp only [blkAt_mp]
    cases blkAt b q.dropLast with
    | none => rfl
    | some b' => exact mpB_get f b' i
theorem isSp_mp (b : List Stm) (q : List Nat) : isSp (mpB f b) q = isSp b q := by
  unfold isSp
  rw [stAt_mp]
  cases stAt b q with
  | none => rfl
  | some s => exact mp_spot f s
theorem spots_mp (b : List Stm) : spots (mpB f b) = spots b := by
  unfold spots
  rw [paths_mp]
  congr 1
  exact funext fun q => isSp_mp f b q
theorem prok_mp {n : Nat} {b : List Stm} (hf : ∀ m, m < 10 → f m < 10) (h : PrOk n b) : PrOk n (mpB f b) := ⟨mpB_ok f hf b 5 h.ok, by rw [mpB_len]; exact h.len, by rw [paths_mp]; exact h.all⟩
def mpF (r : List Pl × Option Nat) : List Pl × Option Nat := (r.1.map (Pl.mp f), r.2)
theorem flN_mp (b : List Stm) : ∀ (F : Nat) (p : List Nat) (i : Nat) (acc : List Pl), flN (mpB f b) F p i (acc.map (Pl.mp f)) = (flN b F p i acc).map (mpF f)
  | 0, _, _, _ => rfl
  | F + 1, p, i, acc => by
    rw [flN, flN, stAt_mp, spots_mp]
    cases h : stAt b (p ++ [i]) with
    | some s =>
      match s with
      | .pl x =>
        have := flN_mp b F p (i + 1) (acc ++ [x])
        rw [List.map_append] at this
        exact this
      | .look _ => rfl
      | .br _ _ => rfl
    | none =>
      simp only [Option.map_none]
      by_cases hp : p = []
      · simp only [hp, if_true]; rfl
      · simp only [hp, if_false]
        rw [stAt_mp]
        cases ho : stAt b p.dropLast with
        | none => rfl
        | some s =>
          simp only [Option.map_some, mp_loop]
          by_cases hl : s.isLoop = true
          · simp only [hl, if_true]; rfl
          · simp only [hl, if_false]
            exact flN_mp b F _ _ acc
theorem flowOn_mp (b : List Stm) (p : List Nat) (i : Nat) : flowOn (mpB f b) p i = mpF f (flowOn b p i) := by
  unfold flowOn
  have := flN_mp f b 100 p i []
  rw [List.map_nil] at this
  rw [this]
  cases flN b 100 p i [] <;> rfl
theorem flowS_mp (b : List Stm) : flowS (mpB f b) = mpF f (flowS b) := flowOn_mp f b [] 0
theorem goesOn_mp (s : Stm) (w : Nat) : goesOn (s.mp f) w = goesOn s w := by cases s <;> rfl
end
end MI

set_option autoImplicit false
set_option maxRecDepth 100000
set_option linter.all false
/-! C3: copies are counted: other marks, more ways, no labels, labels that do not stand. -/
namespace MI
open PySem
theorem flowF_mp (f : Nat → Nat) (b : List Stm) (k w : Nat) : flowF (mpB f b) k w = mpF f (flowF b k w) := by
  unfold flowF
  rw [spots_mp]
  cases (spots b)[k]? with
  | none => rfl
  | some q =>
    simp only [stAt_mp]
    cases stAt b q with
    | none => rfl
    | some s =>
      simp only [Option.map_some, goesOn_mp, flowOn_mp]
      by_cases h : goesOn s w = true
      · simp only [h, if_true]
      · simp only [h, if_false]; rfl
/-! ### other marks -/
structure Sam (s t : St) : Prop where
  sl : s.sl = t.sl
  cp : s.cp = t.cp
  ct : s.ct.length = t.ct.length
theorem sam_move {s t : St} (h : Sam s t) (x : Nat) (so : List (Option Nat)) (v w : List Nat) : Sam (s.move x so v) (t.move x so w) := ⟨by show s.sl.set x _ = t.sl.set x _; rw [h.sl, h.ct], h.cp, by show (s.ct.set _ _).length = (t.ct.set _ _).length; rw [List.length_set, List.length_set, h.ct]⟩
theorem sam_more {s t : St} (h : Sam s t) : Sam s.more t.more := ⟨h.sl, congrArg (· + 1) h.cp, h.ct⟩
theorem sam_put {s t : St} (h : Sam s t) (x : Nat) (v w : List Nat) : Sam (s.put x v) (t.put x w) := ⟨h.sl, h.cp, by show (s.ct.set _ _).length = (t.ct.set _ _).length; rw [List.length_set, List.length_set, h.ct]⟩
theorem sam_act {s t : St} (h : Sam s t) (cy : List Nat) (f : Nat → Nat) (p : Pl) : Sam (s.act cy p) (t.act cy (p.mp f)) := by
  cases p with
  | fresh x =>
    simp only [Pl.mp, St.act]
    refine sam_put ?_ x _ _
    rw [← h.sl]
    by_cases ha : aloneN s.sl x = true
    · simp only [ha, if_true]; exact h
    · simp only [ha, if_false]; exact sam_move h _ _ _ _
  | give l x y =>
    simp only [Pl.mp, St.act]
    by_cases hc : cy.contains l = true
    · simp only [hc, if_true]
      rw [← h.sl]
      exact sam_more (sam_move h _ _ _ _)
    · simp only [hc, if_false]
      exact ⟨by show s.sl.set x _ = t.sl.set x _; rw [h.sl], h.cp, h.ct⟩
  | change l x m =>
    simp only [Pl.mp, St.act]
    refine sam_put ?_ x _ _
    rw [← h.sl]
    by_cases hc : (cy.contains l && !aloneN s.sl x) = true
    · simp only [hc, if_true]
      exact sam_more (sam_move h _ _ _ _)
    · simp only [hc, if_false]; exact h
section
variable {n : Nat} {cy : List Nat} {hcy : cy.length ≤ 100}
abbrev actsS (cy : List Nat) (s : St) (xs : List Pl) : St := xs.foldl (St.act cy) s
theorem sam_acts (f : Nat → Nat) : ∀ (xs : List Pl) {s t : St}, Sam s t → Sam (actsS cy s xs) (actsS cy t (xs.map (Pl.mp f)))
  | [], s, t, h => h
  | x :: xs, s, t, h => sam_acts f xs (sam_act h cy f x)
/-- what is shown next -/
abbrev lookS (t : Stm) (k : Nat) (s : St) (lk : List (Nat × D)) : List (Nat × D) := match t.look? with
  | some x => lk ++ [(k, pD (s.sh x))]
  | none => lk
abbrev rW (n : Nat) (cy : List Nat) (hcy : cy.length ≤ 100) (b : List Stm) (ws : List Nat) (o : Option Nat) (s : St) (lk : List (Nat × D)) : List (Nat × D) × RunEnd × St := (mSt n cy hcy).runW b ws o s lk
theorem rW_nil (b : List Stm) (o : Option Nat) (s : St) (lk : List (Nat × D)) : rW n cy hcy b [] o s lk = (lk, endOf o, s) := rfl
theorem rW_none (b : List Stm) (w : Nat) (ws : List Nat) (s : St) (lk : List (Nat × D)) : rW n cy hcy b (w :: ws) none s lk = (lk, .fin, s) := rfl
theorem rW_some (b : List Stm) (w : Nat) (ws : List Nat) (k : Nat) (s : St) (lk : List (Nat × D)) : rW n cy hcy b (w :: ws) (some k) s lk = (match stAt b ((spots b)[k]?.getD []) with
    | none => (lk, .fin, s)
    | some t => if t.ways ≤ w then (lk, .astray k, s)
      else rW n cy hcy b ws (flowF b k w).2 (actsS cy s (flowF b k w).1) (lookS t k s lk)) := runW_some (M := mSt n cy hcy) b w ws k s lk
theorem sam_runW (f : Nat → Nat) (b : List Stm) : ∀ (ws : List Nat) (o : Option Nat) (s t : St) (lk lm : List (Nat × D)), Sam s t → Sam (rW n cy hcy b ws o s lk).2.2 (rW n cy hcy (mpB f b) ws o t lm).2.2
  | [], o, s, t, lk, lm, h => h
  | _ :: _, none, s, t, lk, lm, h => h
  | w :: ws, some k, s, t, lk, lm, h => by
    rw [rW_some, rW_some, spots_mp, stAt_mp, flowF_mp]
    cases stAt b ((spots b)[k]?.getD []) with
    | none => exact h
    | some u =>
      simp only [Option.map_some, mp_ways]
      by_cases hw : u.ways ≤ w
      · simp only [hw, if_true]; exact h
      · simp only [hw, if_false]
        exact sam_runW f b ws _ _ _ _ _ (sam_acts f _ h)
theorem sam_run (f : Nat → Nat) (b : List Stm) (ws : List Nat) : Sam (runS n b cy hcy ws).2.2 (runS n (mpB f b) cy hcy ws).2.2 := by
  have h := sam_runW (n := n) (cy := cy) (hcy := hcy) f b ws (flowS b).2 _ _ [] [] (sam_acts (cy := cy) f (flowS b).1 (s := St.new n) (t := St.new n) ⟨rfl, rfl, rfl⟩)
  have e : runS n (mpB f b) cy hcy ws = rW n cy hcy (mpB f b) ws (flowS (mpB f b)).2 (actsS cy (St.new n) (flowS (mpB f b)).1) [] := rfl
  rw [e, flowS_mp]
  exact h
/-! ### copies never fall -/
theorem cp_act (cy : List Nat) (s : St) (p : Pl) : s.cp ≤ (s.act cy p).cp := by
  cases p with
  | fresh x =>
    simp only [St.act]
    by_cases ha : aloneN s.sl x = true
    · simp only [ha, if_true]; exact Nat.le_refl _
    · simp only [ha, if_false]; exact Nat.le_refl _
  | give l x y =>
    simp only [St.act]
    by_cases hc : cy.contains l = true
    · simp only [hc, if_true]; exact Nat.le_succ _
    · simp only [hc, if_false]; exact Nat.le_refl _
  | change l x m =>
    simp only [St.act]
    by_cases hc : (cy.contains l && !aloneN s.sl x) = true
    · simp only [hc, if_true]; exact Nat.le_succ _
    · simp only [hc, if_false]; exact Nat.le_refl _
theorem cp_acts : ∀ (xs : List Pl) (s : St), s.cp ≤ (actsS cy s xs).cp
  | [], s => Nat.le_refl _
  | x :: xs, s => Nat.le_trans (cp_act cy s x) (cp_acts xs (s.act cy x))
theorem cp_runW (b : List Stm) : ∀ (ws : List Nat) (o : Option Nat) (s : St) (lk : List (Nat × D)), s.cp ≤ (rW n cy hcy b ws o s lk).2.2.cp
  | [], o, s, lk => Nat.le_refl _
  | _ :: _, none, s, lk => Nat.le_refl _
  | w :: ws, some k, s, lk => by
    rw [rW_some]
    cases stAt b ((spots b)[k]?.getD []) with
    | none => exact Nat.le_refl _
    | some u =>
      simp only
      by_cases hw : u.ways ≤ w
      · simp only [hw, if_true]; exact Nat.le_refl _
      · simp only [hw, if_false]
        exact Nat.le_trans (cp_acts _ s) (cp_runW b ws _ _ _)
theorem cp_app (b : List Stm) (w2 : List Nat) : ∀ (ws : List Nat) (o : Option Nat) (s : St) (lk : List (Nat × D)), (rW n cy hcy b ws o s lk).2.2.cp ≤ (rW n cy hcy b (ws ++ w2) o s lk).2.2.cp
  | [], o, s, lk => cp_runW b w2 o s lk
  | _ :: _, none, s, lk => Nat.le_refl _
  | w :: ws, some k, s, lk => by
    rw [List.cons_append, rW_some, rW_some]
    cases stAt b ((spots b)[k]?.getD []) with
    | none => exact Nat.le_refl _
    | some u =>
      simp only
      by_cases hw : u.ways ≤ w
      · simp only [hw, if_true]; exact Nat.le_refl _
      · simp only [hw, if_false]
        exact cp_app b w2 ws _ _ _
theorem cp_run (b : List Stm) (ws w2 : List Nat) : (runS n b cy hcy ws).2.2.cp ≤ (runS n b cy hcy (ws ++ w2)).2.2.cp := cp_app b w2 ws _ _ _
/-! ### no labels -/
theorem no_act (s : St) (p : Pl) : (s.act [] p).cp = s.cp := by
  cases p with
  | fresh x =>
    simp only [St.act]
    by_cases ha : aloneN s.sl x = true
    · simp only [ha, if_true]; rfl
    · simp only [ha, if_false]; rfl
  | give l x y => rfl
  | change l x m => rfl
theorem no_acts : ∀ (xs : List Pl) (s : St), (actsS [] s xs).cp = s.cp
  | [], s => rfl
  | x :: xs, s => (no_acts xs (s.act [] x)).trans (no_act s x)
theorem no_runW {h0 : ([] : List Nat).length ≤ 100} (b : List Stm) : ∀ (ws : List Nat) (o : Option Nat) (s : St) (lk : List (Nat × D)), (rW n [] h0 b ws o s lk).2.2.cp = s.cp
  | [], o, s, lk => rfl
  | _ :: _, none, s, lk => rfl
  | w :: ws, some k, s, lk => by
    rw [rW_some]
    cases stAt b ((spots b)[k]?.getD []) with
    | none => rfl
    | some u =>
      simp only
      by_cases hw : u.ways ≤ w
      · simp only [hw, if_true]
      · simp only [hw, if_false]
        exact (no_runW b ws _ _ _).trans (no_acts _ s)
theorem no_run {h0 : ([] : List Nat).length ≤ 100} (b : List Stm) (ws : List Nat) : (runS n b [] h0 ws).2.2.cp = 0 := (no_runW b ws _ _ _).trans (no_acts _ (St.new n))
/-! ### labels that do not stand -/
theorem flN_all {b : List Stm} {P : Pl → Prop} (hP : ∀ q x, stAt b q = some (.pl x) → P x) : ∀ (F : Nat) (p : List Nat) (i : Nat) (acc : List Pl) (r : List Pl × Option Nat), flN b F p i acc = some r → (∀ x ∈ acc, P x) → ∀ x ∈ r.1, P x
  | 0, p, i, acc, r, h, _ => by simp [flN] at h
  | F + 1, p, i, acc, r, h, ha => by
    rw [flN] at h
    cases hs : stAt b (p ++ [i]) with
    | some s =>
      rw [hs] at h
      match s, hs, h with
      | .pl x, hs, h =>
        refine flN_all hP F p (i + 1) _ r h fun y hy => ?_
        rcases List.mem_append.mp hy with hy | hy
        · exact ha y hy
        · have : y = x := by simpa using hy
          subst this; exact hP _ _ hs
      | .look _, _, h => cases h; exact ha
      | .br _ _, _, h => cases h; exact ha
    | none =>
      rw [hs] at h
      by_cases hp : p = []
      · simp only [hp, if_true] at h; cases h; exact ha
      · simp only [hp, if_false] at h
        cases ho : stAt b p.dropLast with
        | none => rw [ho] at h; cases h
        | some s =>
          rw [ho] at h
          by_cases hl : s.isLoop = true
          · simp only [hl, if_true] at h; cases h; exact ha
          · simp only [hl, if_false] at h
            exact flN_all hP F _ _ _ r h ha
theorem flowOn_all {b : List Stm} {P : Pl → Prop} (hP : ∀ q x, stAt b q = some (.pl x) → P x) (p : List Nat) (i : Nat) : ∀ x ∈ (flowOn b p i).1, P x := by
  unfold flowOn
  cases h : flN b 100 p i [] with
  | none => intro x hx; simp at hx
  | some r => exact flN_all hP 100 p i [] r h (by simp)
theorem flowF_all {b : List Stm} {P : Pl → Prop} (hP : ∀ q x, stAt b q = some (.pl x) → P x) (k w : Nat) : ∀ x ∈ (flowF b k w).1, P x := by
  unfold flowF
  cases (spots b)[k]? with
  | none => intro x hx; simp at hx
  | some q =>
    simp only
    cases stAt b q with
    | none => intro x hx; simp at hx
    | some s =>
      simp only
      split
      · exact flowOn_all hP _ _
      · exact flowOn_all hP _ _
end
section
variable {n : Nat} {cy ct : List Nat} {hcy : cy.length ≤ 100} {hct : ct.length ≤ 100} {b : List Stm}
theorem cy_acts (h : ∀ q x, stAt b q = some (.pl x) → ∀ s : St, s.act cy x = s.act ct x) : ∀ (xs : List Pl) (s : St), (∀ x ∈ xs, ∀ s : St, s.act cy x = s.act ct x) → actsS cy s xs = actsS ct s xs
  | [], s, _ => rfl
  | x :: xs, s, hx => by
    show actsS cy (s.act cy x) xs = actsS ct (s.act ct x) xs
    rw [hx x (by simp), cy_acts h xs _ fun y hy => hx y (by simp [hy])]
theorem cy_runW (h : ∀ q x, stAt b q = some (.pl x) → ∀ s : St, s.act cy x = s.act ct x) : ∀ (ws : List Nat) (o : Option Nat) (s : St) (lk : List (Nat × D)), rW n cy hcy b ws o s lk = rW n ct hct b ws o s lk
  | [], o, s, lk => rfl
  | _ :: _, none, s, lk => rfl
  | w :: ws, some k, s, lk => by
    rw [rW_some, rW_some]
    cases stAt b ((spots b)[k]?.getD []) with
    | none => rfl
    | some u =>
      simp only
      by_cases hw : u.ways ≤ w
      · simp only [hw, if_true]
      · simp only [hw, if_false]
        rw [cy_runW h ws, cy_acts h _ _ (flowF_all h k w)]
theorem cy_run (h : ∀ q x, stAt b q = some (.pl x) → ∀ s : St, s.act cy x = s.act ct x) (ws : List Nat) : runS n b cy hcy ws = runS n b ct hct ws := by
  show rW n cy hcy b ws (flowS b).2 (actsS cy (St.new n) (flowS b).1) [] = rW n ct hct b ws (flowS b).2 (actsS ct (St.new n) (flowS b).1) []
  rw [cy_runW (hct := hct) h ws, cy_acts h (flowS b).1 _ (flowOn_all h [] 0)]
end
end MI

set_option autoImplicit false
set_option maxRecDepth 100000
set_option linter.all false
/-! C4: the law's own mapping runs. -/
namespace MI
open PySem
theorem fn_mapped : prog.fns[F__law_mapped]? = some ⟨3, 6, b__law_mapped⟩ := rfl
theorem fn_shuffled : prog.fns[F__law_shuffled]? = some ⟨2, 5, b__law_shuffled⟩ := rfl
/-- more may be there, nothing that was is changed -/
structure Up (st st' : Stt) : Prop where
  len : st.length ≤ st'.length
  same : ∀ i, i < st.length → st'[i]? = st[i]?
theorem Up.refl (st : Stt) : Up st st := ⟨Nat.le_refl _, fun _ _ => rfl⟩
theorem Up.trans {a b c : Stt} (h : Up a b) (g : Up b c) : Up a c := ⟨Nat.le_trans h.len g.len, fun i hi => (g.same i (Nat.lt_of_lt_of_le hi h.len)).trans (h.same i hi)⟩
theorem Up.push (st : Stt) (o : Ob) : Up st (st ++ [o]) := ⟨by simp, fun i hi => List.getElem?_append_left hi⟩
theorem Up.set {a b : Stt} (h : Up a b) (k : Nat) (hk : a.length ≤ k) (o : Ob) : Up a (b.set k o) := ⟨by simp [h.len], fun i hi => by rw [List.getElem?_set_ne (by omega)]; exact h.same i hi⟩
theorem Up.get {a b : Stt} (h : Up a b) {k : Nat} {o : Ob} (e : a[k]? = some o) : b[k]? = some o := (h.same k (List.getElem?_eq_some_iff.mp e).1).trans e
abbrev eM (b : List Stm) (mk k : Nat) (x4 x5 : Option D) : Env := [some (.tup (blL b)), some (.frz ((List.range 4).map fun (k : Nat) => D.int (k : Int))), some (.loc mk), some (.loc k), x4, x5]
def marksO (ms : List Nat) : Ob := .lst (ms.map fun (k : Nat) => D.int (k : Int))
abbrev mf (ms : List Nat) : Nat → Nat := fun m => ms.getD m 0
section
variable {n : Nat} {b : List Stm} {mk k : Nat} {x4 x5 : Option D} {st : Stt} {ms : List Nat} {c : Ctx}
theorem nm_run {e : SE} {x : Nat} (hx : x < 4) (he : e c (eM b mk k x4 x5) st = some (.ok (.int (x : Int)), st)) : (eBin opIx (eVar 1) e) c (eM b mk k x4 x5) st = some (.ok (.int (x : Int)), st) :=
  bin_run (x := .frz ((List.range 4).map fun (k : Nat) => D.int (k : Int))) (var_run rfl) he (ix_frz _ (by rw [List.getElem?_map, List.getElem?_range hx]; rfl))
theorem mk_run {e : SE} {m : Nat} (hm : m < ms.length) (hmk : st[mk]? = some (marksO ms)) (he : e c (eM b mk k x4 x5) st = some (.ok (.int (m : Int)), st)) : (eBin opIx (eVar 2) e) c (eM b mk k x4 x5) st = some (.ok (.int (mf ms m : Nat)), st) :=
  bin_run (x := .loc mk) (var_run rfl) he (ix_loc hmk (by rw [List.getElem?_map, List.getElem?_eq_getElem hm]; simp [mf, hm]))
end
abbrev tFL : MI.ST := (cB (eBin opIn (eBin opIx (eVar 4) (eC (.int 0))) (eTup (lCons (eC (.str w_fresh)) (lCons (eC (.str w_look)) lNil)))))
abbrev tGi : MI.ST := (cB (eBin opEq (eBin opIx (eVar 4) (eC (.int 0))) (eC (.str w_give))))
abbrev tCh : MI.ST := (cB (eBin opEq (eBin opIx (eVar 4) (eC (.int 0))) (eC (.str w_change))))
abbrev tCo : MI.ST := (cB (eBin opEq (eBin opIx (eVar 4) (eC (.int 0))) (eC (.str w_choose))))
abbrev aFL : SE := (eTup (lCons (eBin opIx (eVar 4) (eC (.int 0))) (lCons (eBin opIx (eVar 1) (eBin opIx (eVar 4) (eC (.int 1)))) lNil)))
abbrev aGi : SE := (eTup (lCons (eC (.str w_give)) (lCons (eBin opIx (eVar 4) (eC (.int 1))) (lCons (eBin opIx (eVar 1) (eBin opIx (eVar 4) (eC (.int 2)))) (lCons (eBin opIx (eVar 1) (eBin opIx (eVar 4) (eC (.int 3)))) lNil)))))
abbrev aCh : SE := (eTup (lCons (eC (.str w_change)) (lCons (eBin opIx (eVar 4) (eC (.int 1))) (lCons (eBin opIx (eVar 1) (eBin opIx (eVar 4) (eC (.int 2)))) (lCons (eBin opIx (eVar 2) (eBin opIx (eVar 4) (eC (.int 3)))) lNil)))))
abbrev aCo : SE := (eTup (lCons (eC (.str w_choose)) (lCons (eUn bTuple (eCompF [5] (gVar 5) (iSeq (eBin opIx (eVar 4) (eC (.int 1)))) cYes (eCall F__law_mapped (lCons (eVar 5) (lCons (eVar 1) (lCons (eVar 2) lNil)))))) lNil)))
abbrev aLo : SE := (eTup (lCons (eC (.str w_loop)) (lCons (eCall F__law_mapped (lCons (eBin opIx (eVar 4) (eC (.int 1))) (lCons (eVar 1) (lCons (eVar 2) lNil)))) lNil)))
abbrev mBody : SS := (sIf tFL (sExpr (eMt1 isLst mAppend (eVar 3) aFL)) (sIf tGi (sExpr (eMt1 isLst mAppend (eVar 3) aGi)) (sIf tCh (sExpr (eMt1 isLst mAppend (eVar 3) aCh)) (sIf tCo (sExpr (eMt1 isLst mAppend (eVar 3) aCo)) (sExpr (eMt1 isLst mAppend (eVar 3) aLo))))))
theorem mapped_1 : b__law_mapped_1 = sFor (gVar 4) (iSeq (eVar 0)) mBody := rfl
/-- which branch a statement takes -/
def brS : Stm → SE
  | .pl (.fresh _) => aFL
  | .look _ => aFL
  | .pl (.give _ _ _) => aGi
  | .pl (.change _ _ _) => aCh
  | .br false _ => aCo
  | .br true _ => aLo
theorem br_run {n d : Nat} (s : Stm) (hs : s.ok n d) (N : Nat) (b : List Stm) (mk k : Nat) (x5 : Option D) (st : Stt) : mBody (CX N) (eM b mk k (some s.d) x5) st = sExpr (eMt1 isLst mAppend (eVar 3) (brS s)) (CX N) (eM b mk k (some s.d) x5) st := by
  match s, hs with
  | .pl (.fresh x), _ =>
    have h1 : tFL (CX N) (eM b mk k (some (Stm.pl (.fresh x)).d) x5) st = some (.ok true, st) := by kernel_rfl
    exact if_t h1
  | .look x, _ =>
    have h1 : tFL (CX N) (eM b mk k (some (Stm.look x).d) x5) st = some (.ok true, st) := by kernel_rfl
    exact if_t h1
  | .pl (.give l x y), _ =>
    have h1 : tFL (CX N) (eM b mk k (some (Stm.pl (.give l x y)).d) x5) st = some (.ok false, st) := by kernel_rfl
    have h2 : tGi (CX N) (eM b mk k (some (Stm.pl (.give l x y)).d) x5) st = some (.ok true, st) := by kernel_rfl
    exact (if_f h1).trans (if_t h2)
  | .pl (.change l x m), _ =>
    have h1 : tFL (CX N) (eM b mk k (some (Stm.pl (.change l x m)).d) x5) st = some (.ok false, st) := by kernel_rfl
    have h2 : tGi (CX N) (eM b mk k (some (Stm.pl (.change l x m)).d) x5) st = some (.ok false, st) := by kernel_rfl
    have h3 : tCh (CX N) (eM b mk k (some (Stm.pl (.change l x m)).d) x5) st = some (.ok true, st) := by kernel_rfl
    exact (if_f h1).trans ((if_f h2).trans (if_t h3))
  | .br false bs, _ =>
    have h1 : tFL (CX N) (eM b mk k (some (Stm.br false bs).d) x5) st = some (.ok false, st) := by kernel_rfl
    have h2 : tGi (CX N) (eM b mk k (some (Stm.br false bs).d) x5) st = some (.ok false, st) := by kernel_rfl
    have h3 : tCh (CX N) (eM b mk k (some (Stm.br false bs).d) x5) st = some (.ok false, st) := by kernel_rfl
    have h4 : tCo (CX N) (eM b mk k (some (Stm.br false bs).d) x5) st = some (.ok true, st) := by kernel_rfl
    exact (if_f h1).trans ((if_f h2).trans ((if_f h3).trans (if_t h4)))
  | .br true bs, hs =>
    obtain ⟨t, rfl⟩ : ∃ t, bs = [t] := by
      cases d with
      | zero => exact hs.elim
      | succ z =>
        have := hs.1 rfl
        match bs, this with
        | [t], _ => exact ⟨t, rfl⟩
    have h1 : tFL (CX N) (eM b mk k (some (Stm.br true [t]).d) x5) st = some (.ok false, st) := by kernel_rfl
    have h2 : tGi (CX N) (eM b mk k (some (Stm.br true [t]).d) x5) st = some (.ok false, st) := by kernel_rfl
    have h3 : tCh (CX N) (eM b mk k (some (Stm.br true [t]).d) x5) st = some (.ok false, st) := by kernel_rfl
    have h4 : tCo (CX N) (eM b mk k (some (Stm.br true [t]).d) x5) st = some (.ok false, st) := by kernel_rfl
    exact (if_f h1).trans ((if_f h2).trans ((if_f h3).trans (if_f h4)))
/-- one block's mapping -/
def MSpec (n : Nat) (ms : List Nat) (d : Nat) : Prop := ∀ (N mk : Nat) (b : List Stm) (st : Stt), d < N → okB n d b → b.length ≤ 8 → st[mk]? = some (marksO ms) →
  ∃ st', (CX (N + 1)).call F__law_mapped [.tup (blL b), .frz ((List.range 4).map fun (k : Nat) => D.int (k : Int)), .loc mk] st = some (.ok (.tup (blL (mpB (mf ms) b))), st') ∧ Up st st'
theorem mapped_one {n d : Nat} {ms : List Nat} (hn : n ≤ 4) (hms : ms.length = 10) (ih : ∀ d', d = d' + 1 → MSpec n ms d') {N mk k : Nat} (hN : d < N) {b : List Stm} {s : Stm} (hs : s.ok n d) {x5 : Option D} {st : Stt} (hmk : st[mk]? = some (marksO ms)) :
    ∃ st', (brS s) (CX N) (eM b mk k (some s.d) x5) st = some (.ok (s.mp (mf ms)).d, st') ∧ Up st st' := by
  match s, hs with
  | .pl (.fresh x), hs =>
    have hx : x < n := Stm.ok_pl hs
    refine ⟨st, tup_run (xs := [.str w_fresh, .int (x : Int)]) (lcons_run (x := .str w_fresh) rfl (lcons_run (nm_run (x := x) (by omega) rfl) lnil_run)) lim2, Up.refl _⟩
  | .look x, hs =>
    have hx : x < n := by cases d <;> exact hs
    refine ⟨st, tup_run (xs := [.str w_look, .int (x : Int)]) (lcons_run (x := .str w_look) rfl (lcons_run (nm_run (x := x) (by omega) rfl) lnil_run)) lim2, Up.refl _⟩
  | .pl (.give l x y), hs =>
    have hx : (Pl.give l x y).ok n := Stm.ok_pl hs
    have h1 := hx.1
    have h2 := hx.2.1
    refine ⟨st, tup_run (xs := [.str w_give, .int (l : Int), .int (x : Int), .int (y : Int)]) (lcons_run (x := .str w_give) rfl (lcons_run (x := .int (l : Int)) rfl (lcons_run (nm_run (x := x) (by omega) rfl) (lcons_run (nm_run (x := y) (by omega) rfl) lnil_run)))) (by show 4 < lim; decide), Up.refl _⟩
  | .pl (.change l x m), hs =>
    have hx : (Pl.change l x m).ok n := Stm.ok_pl hs
    have h1 := hx.1
    have h2 := hx.2.2
    refine ⟨st, tup_run (xs := [.str w_change, .int (l : Int), .int (x : Int), .int (mf ms m : Nat)]) (lcons_run (x := .str w_change) rfl (lcons_run (x := .int (l : Int)) rfl (lcons_run (nm_run (x := x) (by omega) rfl) (lcons_run (mk_run (m := m) (by omega) hmk rfl) lnil_run)))) (by show 4 < lim; decide), Up.refl _⟩
  | .br false bs, hs =>
    obtain ⟨d, rfl⟩ : ∃ z, d = z + 1 := by
      cases d with
      | zero => exact hs.elim
      | succ z => exact ⟨z, rfl⟩
    have ih' := ih d rfl
    obtain ⟨M, rfl⟩ : ∃ M, N = M + 1 := ⟨N - 1, by omega⟩
    obtain ⟨acc, st', e, rfl, hu⟩ := compF_inv (own := [5]) (tg := gVar 5) (it := iSeq (eBin opIx (eVar 4) (eC (.int 1)))) (t := cYes) (e := eCall F__law_mapped (lCons (eVar 5) (lCons (eVar 1) (lCons (eVar 2) lNil)))) (c := CX (M + 1)) (env := eM b mk k (some (Stm.br false bs).d) x5) (st := st) (st1 := st) (l := bsL bs)
      (fun i acc st' => acc = bsL (mpBs (mf ms) (bs.take i)) ∧ Up st st')
      (seq_tup rfl) ⟨rfl, Up.refl _⟩ (by rw [bsL_len]; show bs.length < 3000; have := hs.2.1; omega) (by rw [bsL_len, lim_eq]; have := hs.2.1; omega) (by
        rintro i y acc st' hd ⟨rfl, hu⟩
        rw [bsL_get] at hd
        obtain ⟨t, ht, rfl⟩ := Option.map_eq_some_iff.mp hd
        have hb := okBs_get hs.2.2 ht
        obtain ⟨st2, e2, u2⟩ := ih' M mk t st' (by omega) hb.2 hb.1 (hu.get hmk)
        refine ⟨some (.tup (blL (mpB (mf ms) t))), st2, compT_y (st1 := st') (by show 5 < 6; decide) rfl (call_run (xs := [.tup (blL t), .frz ((List.range 4).map fun (k : Nat) => D.int (k : Int)), .loc mk]) rfl e2), ?_, hu.trans u2⟩
        obtain ⟨hi, e⟩ := List.getElem?_eq_some_iff.mp ht
        rw [List.take_succ_eq_append_getElem hi, e, mpBs_map, mpBs_map, List.map_append, bsL_map, bsL_map, List.map_append]; rfl)
    rw [bsL_len, List.take_length] at e
    exact ⟨st', tup_run (xs := [.str w_choose, .tup (bsL (mpBs (mf ms) bs))]) (lcons_run (x := .str w_choose) rfl (lcons_run (tuple_frz e) lnil_run)) lim2, hu⟩
  | .br true bs, hs =>
    obtain ⟨d, rfl⟩ : ∃ z, d = z + 1 := by
      cases d with
      | zero => exact hs.elim
      | succ z => exact ⟨z, rfl⟩
    have ih' := ih d rfl
    obtain ⟨M, rfl⟩ : ∃ M, N = M + 1 := ⟨N - 1, by omega⟩
    obtain ⟨t, rfl⟩ : ∃ t, bs = [t] := by
      have := hs.1 rfl
      match bs, this with
      | [t], _ => exact ⟨t, rfl⟩
    have hb := hs.2.2.1
    obtain ⟨st2, e2, u2⟩ := ih' M mk t st (by omega) hb.2 hb.1 hmk
    exact ⟨st2, tup_run (xs := [.str w_loop, .tup (blL (mpB (mf ms) t))]) (lcons_run (x := .str w_loop) rfl (lcons_run (call_run (xs := [.tup (blL t), .frz ((List.range 4).map fun (k : Nat) => D.int (k : Int)), .loc mk]) rfl e2) lnil_run)) lim2, u2⟩
theorem mapped_of {n d : Nat} {ms : List Nat} (hn : n ≤ 4) (hms : ms.length = 10) (ih : ∀ d', d = d' + 1 → MSpec n ms d') : MSpec n ms d := by
  intro N mk b st hN hb hl hmk
  rw [cx_call, call_np fn_mapped (by decide)]
  have hmkl := (List.getElem?_eq_some_iff.mp hmk).1
  have h0 : b__law_mapped_0 (CX N) [some (.tup (blL b)), some (.frz ((List.range 4).map fun (k : Nat) => D.int (k : Int))), some (.loc mk), none, none, none] st = some (.nx, eM b mk st.length none none, st ++ [.lst []]) :=
    set_run (lst_new lnil_run (by decide)) (by show 3 < 6; decide)
  obtain ⟨env', st', e, x4, rfl, hq, hu⟩ := for_inv (g := gVar 4) (it := iSeq (eVar 0)) (b := mBody) (c := CX N) (env := eM b mk st.length none none) (st := st ++ [.lst []]) (st1 := st ++ [.lst []]) (l := blL b)
    (fun i env st' => ∃ x4, env = eM b mk st.length x4 none ∧ st'[st.length]? = some (.lst (blL (mpB (mf ms) (b.take i)))) ∧ Up st st')
    (seq_tup (var_run rfl)) ⟨none, rfl, by simp [mpB, blL], Up.push _ _⟩ (by rw [blL_len]; show b.length < 3000; omega) (by
      rintro i x env st' hd ⟨x4, rfl, hq, hu⟩
      rw [blL_get] at hd
      obtain ⟨s, hs, rfl⟩ := Option.map_eq_some_iff.mp hd
      obtain ⟨st2, e2, u2⟩ := mapped_one hn hms ih hN (k := st.length) (b := b) (x5 := none) (okB_get hb hs) (hu.get hmk)
      have q2 := u2.get hq
      have hil : i < b.length := (List.getElem?_eq_some_iff.mp hs).1
      have ap := append_run (c := CX N) (env := eM b mk st.length (some s.d) none) (a := eVar 3) (k := st.length) (var_run rfl) hq e2 q2 (by rw [blL_len, mpB_len, lim_eq, List.length_take]; omega)
      refine ⟨_, _, turn_var (by show 4 < 6; decide) ((br_run s (okB_get hb hs) N b mk st.length none st').trans (expr_run ap)), some s.d, rfl, ?_, (hu.trans u2).set _ (Nat.le_refl _) _⟩
      rw [List.getElem?_set_self (List.getElem?_eq_some_iff.mp q2).1]
      obtain ⟨hi, e⟩ := List.getElem?_eq_some_iff.mp hs
      rw [List.take_succ_eq_append_getElem hi, e, mpB_map, mpB_map, List.map_append, blL_map, blL_map, List.map_append]; rfl)
  rw [blL_len, List.take_length] at hq
  refine ⟨st', fr_rt rfl rfl ((seq_nx h0).trans ((seq_nx (a := b__law_mapped_1) e).trans (ret_run (tuple_loc (var_run rfl) hq)))), hu⟩
theorem mapped_run {n : Nat} {ms : List Nat} (hn : n ≤ 4) (hms : ms.length = 10) : ∀ d, MSpec n ms d
  | 0 => mapped_of hn hms fun d' e => by omega
  | d + 1 => mapped_of hn hms fun d' e => by
    have : d' = d := by omega
    subst this; exact mapped_run hn hms d'
/-- numbers below one in another order: a list of so many, each below it -/
theorem shuffled_run {xs : List Int} (hx : xs.length ≤ 63) {many : Nat} (hm : many ≤ 100) {st : Stt} (hp : Pen xs st) {N : Nat} (hN : 20 ≤ N) :
    ∃ (ms : List Nat) (k : Nat) (st' : Stt), (CX N).call F__law_shuffled [.loc 0, .int (many : Int)] st = some (.ok (.loc k), st') ∧ st'[k]? = some (marksO ms) ∧ ms.length = many ∧ (∀ m ∈ ms, m < many) ∧ Pen xs st' ∧ FrP st st' := by
  obtain ⟨M, rfl⟩ : ∃ M, N = M + 3 := ⟨N - 3, by omega⟩
  have h1st : 1 ≤ st.length := by
    obtain ⟨a, q, e⟩ := hp
    exact (List.getElem?_eq_some_iff.mp e).1
  rw [cx_call, call_np fn_shuffled (by decide)]
  have h0 : b__law_shuffled_0 (CX (M + 2)) [some (.loc 0), some (.int (many : Int)), none, none, none] st = some (.nx, [some (.loc 0), some (.int (many : Int)), some (.loc st.length), none, none], st ++ [marksO (List.range many)]) := by
    refine set_run ?_ (by show 2 < 5; decide)
    have hr := range1_run (c := CX (M + 2)) (env := [some (.loc 0), some (.int (many : Int)), none, none, none]) (a := eVar 1) (st := st) (st1 := st) (n := many) (var_run rfl) (by rw [lim_eq]; omega)
    unfold eListOf
    rw [bnd_ok hr]
    show (if ((List.range many).map fun (k : Nat) => D.int (k : Int)).length < lim then new (.lst ((List.range many).map fun (k : Nat) => D.int (k : Int))) else fail) st = _
    rw [if_pos (by rw [List.length_map, List.length_range, lim_eq]; omega)]; rfl
  have pen_push : ∀ {st : Stt} (o : Ob), Pen xs st → Pen xs (st ++ [o]) := fun o ⟨a, q, e⟩ => ⟨a, q, by rw [List.getElem?_append_left (List.getElem?_eq_some_iff.mp e).1]; exact e⟩
  have pen_set : ∀ {st : Stt} (k : Nat) (o : Ob), k ≠ 0 → Pen xs st → Pen xs (st.set k o) := fun k o hk ⟨a, q, e⟩ => ⟨a, q, by rw [List.getElem?_set_ne hk]; exact e⟩
  obtain ⟨env', st', e, x3, x4, ms, rfl, hq, hl, hlt, hp', hf⟩ := for_inv (g := gVar 3) (it := iRange1 (eVar 1)) (b := (sSeq (sSet 4 (eCall F__law_draw (lCons (eVar 0) (lCons (eVar 1) lNil))))
  (sAsg (gTup 2 (gCons (gSub (eVar 2) (eVar 3)) (gCons (gSub (eVar 2) (eVar 4)) gNil))) (eTup (lCons (eBin opIx (eVar 2) (eVar 4)) (lCons (eBin opIx (eVar 2) (eVar 3)) lNil)))))) (c := CX (M + 2)) (env := [some (.loc 0), some (.int (many : Int)), some (.loc st.length), none, none]) (st := st ++ [marksO (List.range many)]) (st1 := st ++ [marksO (List.range many)]) (l := (List.range many).map fun (k : Nat) => D.int (k : Int))
    (fun i env st' => ∃ x3 x4 ms, env = [some (.loc 0), some (.int (many : Int)), some (.loc st.length), x3, x4] ∧ st'[st.length]? = some (marksO ms) ∧ ms.length = many ∧ (∀ m ∈ ms, m < many) ∧ Pen xs st' ∧ FrP st st')
    (range1_run (var_run rfl) (by rw [lim_eq]; omega)) ⟨none, none, List.range many, rfl, by simp, by simp, fun m hm => by simpa using hm, pen_push _ hp, ⟨by simp, fun i hi _ => List.getElem?_append_left hi⟩⟩ (by rw [List.length_map, List.length_range]; show many < 3000; omega) (by
      rintro i x env st' hd ⟨x3, x4, ms, rfl, hq, hl, hlt, hp', hf⟩
      rw [List.getElem?_map] at hd
      obtain ⟨j, hj, rfl⟩ := Option.map_eq_some_iff.mp hd
      have hjm : j < many := by
        have h1 := (List.getElem?_eq_some_iff.mp hj)
        obtain ⟨h1, h2⟩ := h1
        simp at h1 h2; omega
      obtain ⟨to, st2, hto, e2, h2, f2⟩ := pen_draw hx hp' M (many := many) (by omega) (by omega) (e := eVar 1) (env := [some (.int (many : Int)), some (.loc st.length), some (.int (j : Int)), x4]) (fun _ => rfl)
      have q2 : st2[st.length]? = some (marksO ms) := by
        rw [f2.same st.length (List.getElem?_eq_some_iff.mp hq).1 (by omega)]; exact hq
      have s1 : (sSet 4 (eCall F__law_draw (lCons (eVar 0) (lCons (eVar 1) lNil)))) (CX (M + 2)) [some (.loc 0), some (.int (many : Int)), some (.loc st.length), some (.int (j : Int)), x4] st' = some (.nx, [some (.loc 0), some (.int (many : Int)), some (.loc st.length), some (.int (j : Int)), some (.int (to : Int))], st2) := set_run e2 (by show 4 < 5; decide)
      have hjl : j < ms.length := by omega
      have htl : to < ms.length := by omega
      have gj : (ms.map fun (k : Nat) => D.int (k : Int))[j]? = some (.int (ms.getD j 0 : Nat)) := by rw [List.getElem?_map, List.getElem?_eq_getElem hjl]; simp [hjl]
      have gt : (ms.map fun (k : Nat) => D.int (k : Int))[to]? = some (.int (ms.getD to 0 : Nat)) := by rw [List.getElem?_map, List.getElem?_eq_getElem htl]; simp [htl]
      have ev : (eTup (lCons (eBin opIx (eVar 2) (eVar 4)) (lCons (eBin opIx (eVar 2) (eVar 3)) lNil))) (CX (M + 2)) [some (.loc 0), some (.int (many : Int)), some (.loc st.length), some (.int (j : Int)), some (.int (to : Int))] st2 = some (.ok (.tup [.int (ms.getD to 0 : Nat), .int (ms.getD j 0 : Nat)]), st2) :=
        tup_run (lcons_run (bin_run (x := .loc st.length) (var_run rfl) (var_run rfl) (ix_loc q2 gt)) (lcons_run (bin_run (x := .loc st.length) (var_run rfl) (var_run rfl) (ix_loc q2 gj)) lnil_run)) lim2
      have hl2 := (List.getElem?_eq_some_iff.mp q2).1
      have s2 := asg_two' (g1 := gSub (eVar 2) (eVar 3)) (g2 := gSub (eVar 2) (eVar 4)) ev (gsub_run (a := eVar 2) (i := eVar 3) (k := st.length) (j := j) (var_run rfl) (var_run rfl) q2 (by simpa using hjl)) (gsub_run (a := eVar 2) (i := eVar 4) (k := st.length) (j := to) (var_run rfl) (var_run rfl) (List.getElem?_set_self hl2) (by simpa using htl))
      rw [List.set_set] at s2
      have em : (((ms.map fun (k : Nat) => D.int (k : Int)).set j (.int (ms.getD to 0 : Nat))).set to (.int (ms.getD j 0 : Nat))) = ((ms.set j (ms.getD to 0)).set to (ms.getD j 0)).map fun (k : Nat) => D.int (k : Int) := by rw [List.map_set, List.map_set]
      rw [em] at s2
      have ml : ∀ y, y < ms.length → ms.getD y 0 < many := fun y hy => hlt _ (by rw [List.getD_eq_getElem?_getD, List.getElem?_eq_getElem hy]; exact List.getElem_mem hy)
      refine ⟨_, _, turn_var (by show 3 < 5; decide) ((seq_nx s1).trans s2), some (.int (j : Int)), some (.int (to : Int)), (ms.set j (ms.getD to 0)).set to (ms.getD j 0), rfl, List.getElem?_set_self hl2, by simp [hl], fun m hm => ?_, pen_set _ _ (by omega) h2, ?_⟩
      · rcases List.mem_or_eq_of_mem_set hm with hm | hm
        · rcases List.mem_or_eq_of_mem_set hm with hm | hm
          · exact hlt m hm
          · rw [hm]; exact ml to htl
        · rw [hm]; exact ml j hjl
      · have f3 := hf.trans f2
        exact ⟨by simp [f3.len], fun i hi h0 => by rw [List.getElem?_set_ne (by omega)]; exact f3.same i hi h0⟩)
  exact ⟨ms, st.length, st', fr_rt rfl rfl ((seq_nx h0).trans ((seq_nx (a := b__law_shuffled_1) e).trans (ret_run (var_run rfl)))), hq, hl, hlt, hp', hf⟩
end MI

set_option autoImplicit false
set_option maxRecDepth 100000
set_option linter.all false
/-! C5: which labels stand; a copying with some that do not. -/
namespace MI
open PySem
theorem lpathsP_run {n : Nat} {b : List Stm} (hP : PrOk n b) {N : Nat} (hN : 5 < N) (st : Stt) : prog.call 3000 (N + 1) F__law_all_paths [.tup (blL b), .tup []] st = some (.ok (.frz ((paths b).map pD)), st) :=
  lpaths_run 5 b hP.ok hP.len hP.all [] (by simp) N hN st
theorem okL_all {m : Nat} : ∀ {l : List D}, (∀ x ∈ l, D.ok m x = true) → D.okL m l = true
  | [], _ => by simp [D.okL]
  | x :: l, h => by simp only [D.okL, h x (by simp), okL_all (l := l) fun y hy => h y (by simp [hy]), Bool.and_self]
theorem okL_get {m : Nat} : ∀ {l : List D}, D.okL m l = true → ∀ x ∈ l, D.ok m x = true
  | [], _, _, h => by simp at h
  | y :: l, h, x, hx => by
    simp only [D.okL, Bool.and_eq_true] at h
    rcases List.mem_cons.mp hx with hx | hx
    · rw [hx]; exact h.1
    · exact okL_get h.2 x hx
theorem ok_more {d : D} {m : Nat} (h : D.ok m d = true) : ∀ k, D.ok (m + k) d = true
  | 0 => h
  | k + 1 => ok_up _ _ (ok_more h k)
theorem tup_ok {m : Nat} {l : List D} (hl : l.length ≤ 1000) (h : D.okL m l = true) : D.ok (m + 1) (.tup l) = true := by
  simp only [D.ok, h, Bool.and_true, decide_eq_true_eq]
  rw [lim_eq]; omega
theorem pl_d_ok (p : Pl) (m : Nat) : D.ok (m + 1) p.d = true := by
  cases p with
  | fresh x => exact tup_ok (by show 2 ≤ 1000; omega) (by simp [D.okL, D.ok, w_fresh])
  | give l x y => exact tup_ok (by show 4 ≤ 1000; omega) (by simp [D.okL, D.ok, w_give])
  | change l x y => exact tup_ok (by show 4 ≤ 1000; omega) (by simp [D.okL, D.ok, w_change])
mutual
theorem d_ok {n : Nat} : ∀ (s : Stm) (k : Nat), s.ok n k → D.ok (3 * k + 2) s.d = true
  | .pl p, k, _ => pl_d_ok p _
  | .look x, k, _ => tup_ok (by show 2 ≤ 1000; omega) (by simp [D.okL, D.ok, w_look])
  | .br lp bs, 0, h => h.elim
  | .br true bs, k + 1, h => by
    have h1 := bs_d_ok bs k h.2.2
    have h2 := h.2.1
    have : D.ok (3 * k + 3 + 1) (Stm.br true bs).d = true := tup_ok (by rw [List.length_cons, bsL_len]; omega) (by simp only [D.okL, h1, D.ok, Bool.and_true]; rfl)
    exact ok_up _ _ this
  | .br false bs, k + 1, h => by
    have h1 := bs_d_ok bs k h.2.2
    have h2 := h.2.1
    have h3 : D.ok (3 * k + 3 + 1) (.tup (bsL bs)) = true := tup_ok (by rw [bsL_len]; omega) h1
    have h4 : D.ok (3 * k + 3 + 1) (.str w_choose) = true := by simp only [D.ok]; rfl
    have h5 : D.ok (3 * k + 3 + 1 + 1) (Stm.br false bs).d = true := tup_ok (by show 2 ≤ 1000; omega) (by simp only [D.okL, h3, h4, Bool.and_true])
    exact h5
theorem b_d_ok {n : Nat} : ∀ (b : List Stm) (k : Nat), okB n k b → D.okL (3 * k + 2) (blL b) = true
  | [], _, _ => by simp [blL, D.okL]
  | s :: r, k, h => by simp only [blL, D.okL, d_ok s k h.1, b_d_ok r k h.2, Bool.and_self]
theorem bs_d_ok {n : Nat} : ∀ (b : List (List Stm)) (k : Nat), okBs n k b → D.okL (3 * k + 3) (bsL b) = true
  | [], _, _ => by simp [bsL, D.okL]
  | s :: r, k, h => by
    have h1 : D.ok (3 * k + 2 + 1) (.tup (blL s)) = true := tup_ok (by rw [blL_len]; have := h.1.1; omega) (b_d_ok s k h.1.2)
    simp only [bsL, D.okL, h1, bs_d_ok r k h.2, Bool.and_self]
end
/-- a statement's second part -/
def sec (s : Stm) : D := match s.d with
  | .tup l => l.getD 1 .non
  | _ => .non
theorem sec_run {n k : Nat} {s : Stm} (h : s.ok n k) (st : Stt) : opIx s.d (.int 1) st = some (.ok (sec s), st) := by
  match s, h with
  | .pl (.fresh x), _ => rfl
  | .pl (.give l x y), _ => rfl
  | .pl (.change l x y), _ => rfl
  | .look x, _ => rfl
  | .br false bs, _ => rfl
  | .br true [t], _ => rfl
  | .br true [], h => cases k with
    | zero => exact h.elim
    | succ k => exact absurd (h.1 rfl) (by simp)
  | .br true (_ :: _ :: _), h => cases k with
    | zero => exact h.elim
    | succ k => exact absurd (h.1 rfl) (by simp)
theorem sec_ok {n k : Nat} {s : Stm} (h : s.ok n k) : D.ok (3 * k + 2) (sec s) = true := by
  have h1 := d_ok s k h
  obtain ⟨l, e⟩ : ∃ l, s.d = .tup l := by
    match s with
    | .pl (.fresh x) => exact ⟨_, rfl⟩
    | .pl (.give l x y) => exact ⟨_, rfl⟩
    | .pl (.change l x y) => exact ⟨_, rfl⟩
    | .look x => exact ⟨_, rfl⟩
    | .br false bs => exact ⟨_, rfl⟩
    | .br true bs => exact ⟨_, rfl⟩
  unfold sec
  rw [e] at h1 ⊢
  show D.ok _ (l.getD 1 .non) = true
  simp only [D.ok, Bool.and_eq_true] at h1
  rw [List.getD_eq_getElem?_getD]
  cases q : l[1]? with
  | none => simp [D.ok]
  | some x => exact ok_up _ _ (okL_get h1.2 x (List.mem_of_getElem? q))
def secAt (b : List Stm) (q : List Nat) : D := match stAt b q with
  | some s => sec s
  | none => .non
theorem stAt_k {n : Nat} {b : List Stm} {q : List Nat} {s : Stm} (hP : PrOk n b) (h : stAt b q = some s) : ∃ k, k ≤ 5 ∧ s.ok n k := by
  obtain ⟨p, i, b1, rfl, h1, h2⟩ := stAt_some h
  obtain ⟨k, hk, hok, _⟩ := blkAt_ok hP.ok hP.len h1
  exact ⟨k, by omega, okB_get hok h2⟩
theorem used_ok {n : Nat} {b : List Stm} (hP : PrOk n b) : D.okL deep ((paths b).map (secAt b)) = true := okL_all fun x hx => by
  obtain ⟨q, hq, rfl⟩ := List.mem_map.mp hx
  obtain ⟨s, hs⟩ := path_in hq
  obtain ⟨k, hk, hok⟩ := stAt_k hP hs
  unfold secAt
  rw [hs]
  have := ok_more (sec_ok hok) (38 - 3 * k)
  rw [show 3 * k + 2 + (38 - 3 * k) = 40 by omega] at this
  exact this
/-- the labels that do not stand (and are no other statement's first number) -/
def idleB (b : List Stm) (l : Nat) : Bool := !((paths b).map (secAt b)).any fun y => D.eqv y (.int (l : Int))
def idleL (b : List Stm) : List Nat := (List.range 8).filter (idleB b)
theorem stands {b : List Stm} {q : List Nat} {p : Pl} {l : Nat} (h : stAt b q = some (.pl p)) (hl : sec (.pl p) = .int (l : Int)) : l ∉ idleL b := fun hm => by
  have := (List.mem_filter.mp hm).2
  unfold idleB at this
  rw [Bool.not_eq_true', List.any_eq_false] at this
  refine this (.int (l : Int)) (List.mem_map.mpr ⟨q, mem_paths.mpr (by rw [h]; rfl), ?_⟩) (by simp [D.eqv])
  unfold secAt
  rw [h]; exact hl
/-! ### sorted(set(..)) -/
theorem mem_insI {x y : Int} : ∀ {l : List Int}, y ∈ insI x l ↔ y = x ∨ y ∈ l
  | [] => by simp [insI]
  | z :: r => by
    unfold insI
    split
    · simp
    · simp only [List.mem_cons, mem_insI (l := r)]
      constructor
      · rintro (h | h | h)
        · exact .inr (.inl h)
        · exact .inl h
        · exact .inr (.inr h)
      · rintro (h | h | h)
        · exact .inr (.inl h)
        · exact .inl h
        · exact .inr (.inr h)
theorem mem_sortI {y : Int} : ∀ {l : List Int}, y ∈ sortI l ↔ y ∈ l
  | [] => by simp [sortI]
  | x :: r => by rw [sortI, mem_insI, mem_sortI, List.mem_cons]
theorem len_insI (x : Int) : ∀ l : List Int, (insI x l).length = l.length + 1
  | [] => rfl
  | z :: r => by
    unfold insI
    split
    · rfl
    · rw [List.length_cons, len_insI x r, List.length_cons]
theorem len_sortI : ∀ l : List Int, (sortI l).length = l.length
  | [] => rfl
  | x :: r => by rw [sortI, len_insI, len_sortI r]; rfl
theorem len_dedI : ∀ l : List Int, (dedI l).length ≤ l.length
  | [] => Nat.le_refl _
  | x :: r => by
    unfold dedI
    have := len_dedI r
    split
    · rw [List.length_cons]; omega
    · rw [List.length_cons, List.length_cons]; omega
def sortS (l : List Nat) : List Nat := (sortI (dedI (l.map fun (k : Nat) => (k : Int)))).map Int.toNat
theorem sortS_int (l : List Nat) : (sortS l).map (fun (k : Nat) => (k : Int)) = sortI (dedI (l.map fun (k : Nat) => (k : Int))) := by
  unfold sortS
  rw [List.map_map]
  refine (List.map_congr_left fun x hx => ?_).trans (List.map_id _)
  rw [mem_sortI, mem_dedI] at hx
  obtain ⟨y, _, rfl⟩ := List.mem_map.mp hx
  simp
theorem sortS_mem {l : List Nat} {x : Nat} : x ∈ sortS l ↔ x ∈ l := by
  unfold sortS
  rw [List.mem_map]
  constructor
  · rintro ⟨y, hy, rfl⟩
    rw [mem_sortI, mem_dedI] at hy
    obtain ⟨z, hz, rfl⟩ := List.mem_map.mp hy
    simpa using hz
  · intro h
    exact ⟨(x : Int), by rw [mem_sortI, mem_dedI]; exact List.mem_map.mpr ⟨x, h, rfl⟩, by simp⟩
theorem sortS_len (l : List Nat) : (sortS l).length ≤ l.length := by
  unfold sortS
  rw [List.length_map, len_sortI]
  exact Nat.le_trans (len_dedI _) (by simp)
theorem sorS_run {k : Nat} {l : List Nat} {st : Stt} (hk : st[k]? = some (.lst (l.map fun (k : Nat) => D.int (k : Int)))) (hl : l.length < 64) : bSorS (.loc k) st = some (.ok (.frz ((sortS l).map fun (k : Nat) => D.int (k : Int))), st) := by
  have e : seqOf (.loc k) st = some (.ok (l.map fun (k : Nat) => D.int (k : Int)), st) := by simp [seqOf, hk]
  unfold bSorS
  rw [bnd_ok e, ints_map]
  show (if (l.map fun (k : Nat) => (k : Int)).length < 64 then ret (D.frz ((sortI (dedI (l.map fun (k : Nat) => (k : Int)))).map D.int)) else fail) st = _
  rw [if_pos (by rw [List.length_map]; exact hl), ← sortS_int, List.map_map]; rfl
/-- the copying and what does not stand -/
def withIdle (b : List Stm) (cy : List Nat) : List Nat := sortS (cy ++ idleL b)
theorem idle_len (b : List Stm) : (idleL b).length ≤ 8 := Nat.le_trans (List.length_filter_le _ _) (by simp)
theorem with_len (b : List Stm) {cy : List Nat} (h : cy.length ≤ 8) : (withIdle b cy).length ≤ 16 := by
  have h1 := sortS_len (cy ++ idleL b)
  have h2 := idle_len b
  rw [List.length_append] at h1
  unfold withIdle; omega
theorem with_lab {b : List Stm} {cy : List Nat} {l : Nat} (h : l ∉ idleL b) : (withIdle b cy).contains l = cy.contains l := by
  have : (withIdle b cy).contains l = true ↔ cy.contains l = true := by
    simp only [List.contains_iff_mem, withIdle, sortS_mem, List.mem_append, h, or_false]
  by_cases q : cy.contains l = true
  · rw [q, this.mpr q]
  · have q2 : ¬ (withIdle b cy).contains l = true := fun z => q (this.mp z)
    rw [Bool.not_eq_true] at q q2
    rw [q, q2]
theorem with_run {n : Nat} {b : List Stm} {cy : List Nat} (hcy : cy.length ≤ 100) (hct : (withIdle b cy).length ≤ 100) (ws : List Nat) : runS n b (withIdle b cy) hct ws = runS n b cy hcy ws := cy_run (fun q x h s => by
  cases x with
  | fresh x => rfl
  | give l x y =>
    have e := with_lab (cy := cy) (stands h (l := l) rfl)
    simp only [St.act, e]
  | change l x m =>
    have e := with_lab (cy := cy) (stands h (l := l) rfl)
    simp only [St.act, e]) ws
end MI

set_option autoImplicit false
set_option maxRecDepth 100000
set_option linter.all false
/-! C6: the law k68. -/
namespace MI
open PySem
abbrev N0 : Nat := 100
abbrev eL (S : D) (x2 : Option D) (P C O : D) (x6 x7 x8 x9 x10 x11 x12 x13 x14 x15 : Option D) : Env := [some S, some (.loc 0), x2, some P, some C, some O, x6, x7, x8, x9, x10, x11, x12, x13, x14, x15]
/-- what run_store gives -/
def stD3 (n : Nat) (b : List Stm) (cy : List Nat) (hcy : cy.length ≤ 100) (ws : List Nat) : D := .tup [.tup ((runS n b cy hcy ws).1.map lookD), (runS n b cy hcy ws).2.1.d, .int ((runS n b cy hcy ws).2.2.cp : Int)]
theorem three (a b c : D) (st : Stt) : opIx (.tup [a, b, c]) (.int 2) st = some (.ok c, st) := rfl
theorem ne_int {i j : Int} (h : i = j) (st : Stt) : opNe (.int i) (.int j) st = some (.ok (.bl false), st) := by
  subst h
  exact ne_self (by simp [D.ok]) st
theorem ok3 {m : Nat} {a b c : D} (ha : D.ok m a = true) (hb : D.ok m b = true) (hc : D.ok m c = true) : D.ok (m + 1) (.tup [a, b, c]) = true := by
  have h : decide (([a, b, c] : List D).length < lim) = true := decide_eq_true (by show 3 < lim; decide)
  simp only [D.ok, D.okL, ha, hb, hc, h, Bool.and_self]
theorem comp_mapG {α : Type} {own : List Nat} {tg : SG} {it : SI} {t : ST} {e : SE} {c : Ctx} {env : Env} {st st1 : Stt} {xs : List α} {g : α → D} {r : List D} (f : α → Option D) (h : it c env st = some (.ok (.items (xs.map g)), st1)) (step : ∀ x, x ∈ xs → compT tg t e c (wipeE env own) (g x) st1 = some (.ok (f x), st1)) (hf : xs.length < c.fuel) (hl : xs.length < lim - 1) (hr : xs.filterMap f = r) :
    eComp own tg it t e c env st = some (.ok (.loc st1.length), st1 ++ [.lst r]) := by
  unfold eComp
  have := compL_mapG f step c.fuel 0 [] (by omega) (Nat.zero_le _) (by simpa using hl)
  rw [bnd_ok h, bnd_ok this]
  simp [hr, new]
section
variable {xs : List Int} {n : Nat} {b : List Stm} {cy ws w1 w2 : List Nat} {S O : D} {x2 x6 x7 x8 x9 x10 x11 x12 x13 x14 x15 : Option D} {st : Stt}
theorem stD3_ok (hP : PrOk n b) (hn : n ≤ 4) (hcy : cy.length ≤ 100) (hw : ws.length ≤ 2000) : D.ok deep (stD3 n b cy hcy ws) = true := by
  have h1 := shown_ok hP hn hcy hw
  have h2 := run_len (M := mSt n cy hcy) b ws (St.new n)
  have h3 := resD_ok (r := ((runS n b cy hcy ws).1, (runS n b cy hcy ws).2.1)) h1 (Nat.le_trans h2 hw)
  unfold resD at h3
  simp only [D.ok, D.okL, Bool.and_eq_true] at h3
  obtain ⟨_, ha, hb, _⟩ := h3
  have h4 : D.ok 32 (.tup ((runS n b cy hcy ws).1.map lookD)) = true := by simp only [D.ok, Bool.and_eq_true]; exact ha
  have h5 : D.ok 33 (stD3 n b cy hcy ws) = true := ok3 h4 hb (by simp [D.ok])
  exact ok_deep h5
theorem c_app (hl : w1.length + w2.length ≤ 2000) : (eBin opAdd (eVar 7) (eVar 8)) (CX N0) (eL S x2 (prD n b) (pD cy) O x6 (some (pD w1)) (some (pD w2)) x9 x10 x11 x12 x13 x14 x15) st = some (.ok (pD (w1 ++ w2)), st) := by
  refine bin_run (x := pD w1) (y := pD w2) (var_run rfl) (var_run rfl) ?_
  have : pD (w1 ++ w2) = .tup ((w1.map fun (k : Nat) => D.int (k : Int)) ++ (w2.map fun (k : Nat) => D.int (k : Int))) := by simp [pD]
  rw [this]
  exact tadd_run _ (by rw [List.length_map, List.length_map, lim_eq]; omega)
abbrev cnd1 : MI.ST := (cOr (cB (eBin opNe (eBin opIx (eCall F_run_store (lCons (eVar 3) (lCons (eTup lNil) (lCons (eVar 9) lNil)))) (eC (.int 2))) (eC (.int 0)))) (cNot (cB (eChain opLe opLe (eC (.int 0)) (eBin opIx (eVar 10) (eC (.int 2))) (eBin opIx (eVar 11) (eC (.int 2)))))))
abbrev cnd2 : MI.ST := (cB (eBin opNe (eBin opIx (eCall F_run_store (lCons (eVar 5) (lCons (eVar 4) (lCons (eVar 9) lNil)))) (eC (.int 2))) (eBin opIx (eVar 11) (eC (.int 2)))))
abbrev cnd3 : MI.ST := (cB (eBin opNe (eCall F_slots_behind (lCons (eVar 5) (lCons (eVar 4) (lCons (eVar 9) lNil)))) (eCall F_slots_behind (lCons (eVar 3) (lCons (eVar 4) (lCons (eVar 9) lNil))))))
abbrev cnd4 : MI.ST := (cB (eBin opNe (eCall F_run_store (lCons (eVar 3) (lCons (eUn bTuple (eUn bSorS (eBin opAdd (eUn bList (eVar 4)) (eVar 13)))) (lCons (eVar 9) lNil)))) (eVar 11)))
abbrev usedE : SE := (eCompF [14] (gVar 14) (iSeq (eCall F__law_all_paths (lCons (eBin opIx (eVar 3) (eC (.int 1))) (lCons (eTup lNil) lNil)))) cYes (eBin opIx (eCall F__law_at (lCons (eVar 3) (lCons (eVar 14) lNil))) (eC (.int 1))))
abbrev idleE : SE := (eComp [15] (gVar 15) (iRange1 (eC (.int 8))) (cB (eBin opNotIn (eVar 15) (eVar 12))) (eVar 15))
/-- the environment once all is set -/
abbrev eF (S : D) (x2 : Option D) (n : Nat) (b : List Stm) (cy : List Nat) (hcy : cy.length ≤ 100) (ms w1 w2 : List Nat) (x6 x12 x13 x14 x15 : Option D) : Env := eL S x2 (prD n b) (pD cy) (prD n (mpB (mf ms) b)) x6 (some (pD w1)) (some (pD w2)) (some (pD (w1 ++ w2))) (some (stD3 n b cy hcy w1)) (some (stD3 n b cy hcy (w1 ++ w2))) x12 x13 x14 x15
variable {ms : List Nat}
theorem le2 (a b : Nat) (st : Stt) : opLe (.int (a : Int)) (.int (b : Int)) st = some (.ok (.bl (decide (a ≤ b))), st) := by
  simp only [opLe, Int.ofNat_le]
theorem chain_run {f g : D → D → R D} {a e d : SE} {c : Ctx} {env : Env} {st : Stt} {x y z : D} {r : Option (Rs D × Stt)} (ha : a c env st = some (.ok x, st)) (he : e c env st = some (.ok y, st)) (hf : f x y st = some (.ok (.bl true), st)) (hd : d c env st = some (.ok z, st)) (hg : g y z st = r) : eChain f g a e d c env st = r := by
  unfold eChain
  rw [bnd_ok ha, bnd_ok he, bnd_ok hf]
  show bnd (d c env) _ st = r
  rw [bnd_ok hd]
  exact hg
theorem cnd1_run (hP : PrOk n b) (hn : n ≤ 4) (hcy : cy.length ≤ 100) (hw : (w1 ++ w2).length ≤ 2000) : cnd1 (CX N0) (eF S x2 n b cy hcy ms w1 w2 x6 x12 x13 x14 x15) st = some (.ok false, st) := by
  have h0 : ([] : List Nat).length ≤ 100 := by decide
  have e0 := run_store_run hP hn h0 hw (N := 99) (by omega) st
  have z := no_run (n := n) (h0 := h0) b (w1 ++ w2)
  have c1 : (eCall F_run_store (lCons (eVar 3) (lCons (eTup lNil) (lCons (eVar 9) lNil)))) (CX N0) (eF S x2 n b cy hcy ms w1 w2 x6 x12 x13 x14 x15) st = some (.ok (stD3 n b [] h0 (w1 ++ w2)), st) :=
    call_run (xs := [prD n b, pD [], pD (w1 ++ w2)]) rfl e0
  have t1 : (cB (eBin opNe (eBin opIx (eCall F_run_store (lCons (eVar 3) (lCons (eTup lNil) (lCons (eVar 9) lNil)))) (eC (.int 2))) (eC (.int 0)))) (CX N0) (eF S x2 n b cy hcy ms w1 w2 x6 x12 x13 x14 x15) st = some (.ok false, st) :=
    cB_run (bin_run (bin_run c1 rfl (three _ _ _ st)) rfl (ne_int (by rw [z]; rfl) st))
  have hm := cp_run (n := n) (cy := cy) (hcy := hcy) b w1 w2
  have t2 : (cNot (cB (eChain opLe opLe (eC (.int 0)) (eBin opIx (eVar 10) (eC (.int 2))) (eBin opIx (eVar 11) (eC (.int 2)))))) (CX N0) (eF S x2 n b cy hcy ms w1 w2 x6 x12 x13 x14 x15) st = some (.ok false, st) := by
    have g1 : (eBin opIx (eVar 10) (eC (.int 2))) (CX N0) (eF S x2 n b cy hcy ms w1 w2 x6 x12 x13 x14 x15) st = some (.ok (.int ((runS n b cy hcy w1).2.2.cp : Int)), st) := bin_run (x := stD3 n b cy hcy w1) (var_run rfl) rfl (three _ _ _ st)
    have g2 : (eBin opIx (eVar 11) (eC (.int 2))) (CX N0) (eF S x2 n b cy hcy ms w1 w2 x6 x12 x13 x14 x15) st = some (.ok (.int ((runS n b cy hcy (w1 ++ w2)).2.2.cp : Int)), st) := bin_run (x := stD3 n b cy hcy (w1 ++ w2)) (var_run rfl) rfl (three _ _ _ st)
    have f1 : opLe (.int 0) (.int ((runS n b cy hcy w1).2.2.cp : Int)) st = some (.ok (.bl true), st) := by
      have := le2 0 (runS n b cy hcy w1).2.2.cp st
      rw [decide_eq_true (Nat.zero_le _)] at this
      exact this
    have f2 := le2 (runS n b cy hcy w1).2.2.cp (runS n b cy hcy (w1 ++ w2)).2.2.cp st
    rw [decide_eq_true hm] at f2
    have hb := cB_run (chain_run (a := eC (.int 0)) (x := .int 0) rfl g1 f1 g2 f2)
    unfold cNot
    rw [bnd_ok hb]; rfl
  exact or_run t1 t2
theorem cnd2_run (hP : PrOk n b) (hn : n ≤ 4) (hcy : cy.length ≤ 100) (hw : (w1 ++ w2).length ≤ 2000) (hf : ∀ m, m < 10 → mf ms m < 10) : cnd2 (CX N0) (eF S x2 n b cy hcy ms w1 w2 x6 x12 x13 x14 x15) st = some (.ok false, st) := by
  have e0 := run_store_run (prok_mp (mf ms) hf hP) hn hcy hw (N := 99) (by omega) st
  have sm := sam_run (n := n) (cy := cy) (hcy := hcy) (mf ms) b (w1 ++ w2)
  have c1 : (eCall F_run_store (lCons (eVar 5) (lCons (eVar 4) (lCons (eVar 9) lNil)))) (CX N0) (eF S x2 n b cy hcy ms w1 w2 x6 x12 x13 x14 x15) st = some (.ok (stD3 n (mpB (mf ms) b) cy hcy (w1 ++ w2)), st) :=
    call_run (xs := [prD n (mpB (mf ms) b), pD cy, pD (w1 ++ w2)]) rfl e0
  exact cB_run (bin_run (bin_run c1 rfl (three _ _ _ st)) (bin_run (x := stD3 n b cy hcy (w1 ++ w2)) (var_run rfl) rfl (three _ _ _ st)) (ne_int (by rw [sm.cp]) st))
theorem xt_ok {l : List Nat} (h : l.length ≤ 1000) : D.ok deep (.xtup (l.map fun (k : Nat) => D.int (k : Int))) = true := by
  have := ints_ok 39 (l := l) (by omega)
  unfold pD at this
  simp only [D.ok] at this ⊢
  exact this
theorem cnd3_run (hP : PrOk n b) (hn : n ≤ 4) (hcy : cy.length ≤ 100) (hw : (w1 ++ w2).length ≤ 2000) (hf : ∀ m, m < 10 → mf ms m < 10) : cnd3 (CX N0) (eF S x2 n b cy hcy ms w1 w2 x6 x12 x13 x14 x15) st = some (.ok false, st) := by
  have e1 := slots_behind_run (prok_mp (mf ms) hf hP) hn hcy hw (N := 99) (by omega) st
  have e2 := slots_behind_run hP hn hcy hw (N := 99) (by omega) st
  have sm := sam_run (n := n) (cy := cy) (hcy := hcy) (mf ms) b (w1 ++ w2)
  have is : (runS n b cy hcy (w1 ++ w2)).2.2.inv n 0 := run_inv (A := mSt n cy hcy) hP hw (k := 0) ((new_inv hn).weak (by omega) : St.inv n _ (St.new n))
  rw [← sm.sl] at e1
  have c1 : (eCall F_slots_behind (lCons (eVar 5) (lCons (eVar 4) (lCons (eVar 9) lNil)))) (CX N0) (eF S x2 n b cy hcy ms w1 w2 x6 x12 x13 x14 x15) st = some (.ok (.xtup ((runS n b cy hcy (w1 ++ w2)).2.2.sl.map fun (k : Nat) => D.int (k : Int))), st) :=
    call_run (xs := [prD n (mpB (mf ms) b), pD cy, pD (w1 ++ w2)]) rfl e1
  have c2 : (eCall F_slots_behind (lCons (eVar 3) (lCons (eVar 4) (lCons (eVar 9) lNil)))) (CX N0) (eF S x2 n b cy hcy ms w1 w2 x6 x12 x13 x14 x15) st = some (.ok (.xtup ((runS n b cy hcy (w1 ++ w2)).2.2.sl.map fun (k : Nat) => D.int (k : Int))), st) :=
    call_run (xs := [prD n b, pD cy, pD (w1 ++ w2)]) rfl e2
  exact cB_run (bin_run c1 c2 (ne_self (xt_ok (by rw [is.sl]; omega)) st))
theorem used_run (hP : PrOk n b) (hcy : cy.length ≤ 100) : usedE (CX N0) (eF S x2 n b cy hcy ms w1 w2 x6 x12 x13 x14 x15) st = some (.ok (.frz ((paths b).map (secAt b))), st) := by
  have ep := lpathsP_run hP (N := 99) (by omega) st
  have c1 : (eCall F__law_all_paths (lCons (eBin opIx (eVar 3) (eC (.int 1))) (lCons (eTup lNil) lNil))) (CX N0) (eF S x2 n b cy hcy ms w1 w2 x6 x12 x13 x14 x15) st = some (.ok (.frz ((paths b).map pD)), st) :=
    call_run (xs := [.tup (blL b), .tup []]) rfl ep
  refine compF_mapG (xs := paths b) (g := pD) (fun q => some (secAt b q)) (seq_frz c1) (fun q hq => ?_) (by have := hP.all; show (paths b).length < 3000; omega) (by have := hP.all; rw [lim_eq]; omega) (by simp)
  obtain ⟨s, hs⟩ := path_in hq
  obtain ⟨k, hk, hok⟩ := stAt_k hP hs
  have es : secAt b q = sec s := by unfold secAt; rw [hs]
  rw [es]
  exact compT_y (st1 := st) (by show 14 < 16; decide) rfl (bin_run (call_run (xs := [prD n b, pD q]) rfl (lat_run hP hs 97 st)) rfl (sec_run hok st))
theorem idle_run (hP : PrOk n b) (hcy : cy.length ≤ 100) : idleE (CX N0) (eF S x2 n b cy hcy ms w1 w2 x6 (some (.frz ((paths b).map (secAt b)))) x13 x14 x15) st = some (.ok (.loc st.length), st ++ [.lst ((idleL b).map fun (k : Nat) => D.int (k : Int))]) := by
  refine comp_mapG (xs := List.range 8) (g := fun (k : Nat) => D.int (k : Int)) (fun l => if idleB b l = true then some (.int (l : Int)) else none) (range1_run (n := 8) rfl (by decide)) (fun l hl => ?_) (by decide) (by decide) (filterMap_if _ _ _)
  have ht : (cB (eBin opNotIn (eVar 15) (eVar 12))) (CX N0) (eF S x2 n b cy hcy ms w1 w2 x6 (some (.frz ((paths b).map (secAt b)))) x13 x14 (some (.int (l : Int)))) st = some (.ok (idleB b l), st) := by
    refine cB_run (bin_run (x := .int (l : Int)) (y := .frz ((paths b).map (secAt b))) (var_run rfl) (var_run rfl) ?_)
    have e : isInT (.int (l : Int)) (.frz ((paths b).map (secAt b))) st = some (.ok (((paths b).map (secAt b)).any fun y => D.eqv y (.int (l : Int))), st) := by
      unfold isInT
      simp only [used_ok hP, D.ok, Bool.and_self, if_true]
    unfold opNotIn
    rw [bnd_ok e]; rfl
  cases hi : idleB b l with
  | true =>
    rw [hi] at ht
    exact compT_y (st1 := st) (by show 15 < 16; decide) ht (var_run rfl)
  | false =>
    rw [hi] at ht
    exact compT_n (by show 15 < 16; decide) ht
theorem list_new {a : SE} {c : Ctx} {env : Env} {st : Stt} {l : List Nat} (h : a c env st = some (.ok (pD l), st)) (hl : l.length ≤ 1000) : eUn bList a c env st = some (.ok (.loc st.length), st ++ [.lst (l.map fun (k : Nat) => D.int (k : Int))]) := by
  refine un_run h ?_
  have e : seqOf (pD l) st = some (.ok (l.map fun (k : Nat) => D.int (k : Int)), st) := rfl
  unfold bList
  rw [bnd_ok e, if_pos (by rw [List.length_map, lim_eq]; omega)]; rfl
theorem cnd4_run (hP : PrOk n b) (hn : n ≤ 4) (hcy : cy.length ≤ 100) (hc8 : cy.length ≤ 8) (hw : (w1 ++ w2).length ≤ 2000) {k : Nat} (hk : st[k]? = some (.lst ((idleL b).map fun (k : Nat) => D.int (k : Int)))) :
    ∃ st', cnd4 (CX N0) (eF S x2 n b cy hcy ms w1 w2 x6 x12 (some (.loc k)) x14 x15) st = some (.ok false, st') ∧ Up st st' := by
  have hct : (withIdle b cy).length ≤ 100 := by have := with_len b hc8; omega
  have hi := idle_len b
  have e1 := list_new (a := eVar 4) (c := CX N0) (env := eF S x2 n b cy hcy ms w1 w2 x6 x12 (some (.loc k)) x14 x15) (st := st) (l := cy) (var_run rfl) (by omega)
  have hkl := (List.getElem?_eq_some_iff.mp hk).1
  have q1 : (st ++ [Ob.lst (cy.map fun (k : Nat) => D.int (k : Int))])[st.length]? = some (.lst (cy.map fun (k : Nat) => D.int (k : Int))) := by simp
  have q2 : (st ++ [Ob.lst (cy.map fun (k : Nat) => D.int (k : Int))])[k]? = some (.lst ((idleL b).map fun (k : Nat) => D.int (k : Int))) := by rw [List.getElem?_append_left hkl]; exact hk
  have ea : opAdd (.loc st.length) (.loc k) (st ++ [.lst (cy.map fun (k : Nat) => D.int (k : Int))]) = some (.ok (.loc (st.length + 1)), st ++ [.lst (cy.map fun (k : Nat) => D.int (k : Int))] ++ [.lst ((cy ++ idleL b).map fun (k : Nat) => D.int (k : Int))]) := by
    have hl : (cy.map fun (k : Nat) => D.int (k : Int)).length + ((idleL b).map fun (k : Nat) => D.int (k : Int)).length < lim := by rw [List.length_map, List.length_map, lim_eq]; omega
    simp only [opAdd, q1, q2, hl, if_true, new, List.length_append, List.length_singleton, List.map_append]
  have e2 : (eBin opAdd (eUn bList (eVar 4)) (eVar 13)) (CX N0) (eF S x2 n b cy hcy ms w1 w2 x6 x12 (some (.loc k)) x14 x15) st = some (.ok (.loc (st.length + 1)), st ++ [.lst (cy.map fun (k : Nat) => D.int (k : Int))] ++ [.lst ((cy ++ idleL b).map fun (k : Nat) => D.int (k : Int))]) :=
    bin_run e1 (var_run rfl) ea
  generalize hst' : st ++ [Ob.lst (cy.map fun (k : Nat) => D.int (k : Int))] ++ [.lst ((cy ++ idleL b).map fun (k : Nat) => D.int (k : Int))] = st' at e2
  have q3 : st'[st.length + 1]? = some (.lst ((cy ++ idleL b).map fun (k : Nat) => D.int (k : Int))) := by
    subst hst'
    rw [List.getElem?_append_right (by simp)]
    simp
  have e3 := un_run e2 (sorS_run (l := cy ++ idleL b) q3 (by rw [List.length_append]; omega))
  have e4 := tuple_frz e3
  have hr := run_store_run hP hn hct hw (N := 99) (by omega) st'
  have ec : (eCall F_run_store (lCons (eVar 3) (lCons (eUn bTuple (eUn bSorS (eBin opAdd (eUn bList (eVar 4)) (eVar 13)))) (lCons (eVar 9) lNil)))) (CX N0) (eF S x2 n b cy hcy ms w1 w2 x6 x12 (some (.loc k)) x14 x15) st = some (.ok (stD3 n b cy hcy (w1 ++ w2)), st') := by
    have h1 : stD3 n b (withIdle b cy) hct (w1 ++ w2) = stD3 n b cy hcy (w1 ++ w2) := by unfold stD3; rw [with_run hcy hct]
    rw [← h1]
    exact call_run (lcons_run (var_run rfl) (lcons_run e4 (lcons_run (var_run rfl) lnil_run))) hr
  refine ⟨st', cB_run (bin_run ec (var_run rfl) (ne_self (stD3_ok hP hn hcy hw) st')), ?_⟩
  subst hst'
  exact (Up.push _ _).trans (Up.push _ _)
abbrev inB : SS := (sSeq (sPar 7 8 (lCons (eCall F__law_list (lCons (eVar 1) (lCons (eC (.int 6)) lNil))) (lCons (eCall F__law_list (lCons (eVar 1) (lCons (eC (.int 6)) lNil))) lNil)))
  (sSeq (sSet 9 (eBin opAdd (eVar 7) (eVar 8)))
  (sSeq (sPar 10 11 (lCons (eCall F_run_store (lCons (eVar 3) (lCons (eVar 4) (lCons (eVar 7) lNil)))) (lCons (eCall F_run_store (lCons (eVar 3) (lCons (eVar 4) (lCons (eVar 9) lNil)))) lNil)))
  (sSeq (sIf cnd1 (sRet (eC (.bl false))) sPass)
  (sSeq (sIf cnd2 (sRet (eC (.bl false))) sPass)
  (sSeq (sIf cnd3 (sRet (eC (.bl false))) sPass)
  (sSeq (sSet 12 usedE)
  (sSeq (sSet 13 idleE)
  (sIf cnd4 (sRet (eC (.bl false))) sPass)))))))))
theorem up_pen {st st' : Stt} (h : Pen xs st) (u : Up st st') : Pen xs st' := by
  obtain ⟨a, q, e⟩ := h
  exact ⟨a, q, u.get e⟩
theorem inner_run (hx : xs.length ≤ 63) (hP : PrOk n b) (hn : n ≤ 4) (hc8 : cy.length ≤ 8) (hf : ∀ m, m < 10 → mf ms m < 10) (hp : Pen xs st) :
    ∃ y7 y8 y9 y10 y11 y12 y13 st', inB (CX N0) (eL S x2 (prD n b) (pD cy) (prD n (mpB (mf ms) b)) x6 x7 x8 x9 x10 x11 x12 x13 x14 x15) st = some (.nx, eL S x2 (prD n b) (pD cy) (prD n (mpB (mf ms) b)) x6 y7 y8 y9 y10 y11 y12 y13 x14 x15, st') ∧ Pen xs st' := by
  have hcy : cy.length ≤ 100 := by omega
  obtain ⟨w1, st1, e1, l1, h1, _⟩ := list_run hx (most := 6) (by omega) hp (N := N0) (by decide)
  obtain ⟨w2, st2, e2, l2, h2, _⟩ := list_run hx (most := 6) (by omega) h1 (N := N0) (by decide)
  have hw : (w1 ++ w2).length ≤ 2000 := by rw [List.length_append]; omega
  have a1 : (sPar 7 8 (lCons (eCall F__law_list (lCons (eVar 1) (lCons (eC (.int 6)) lNil))) (lCons (eCall F__law_list (lCons (eVar 1) (lCons (eC (.int 6)) lNil))) lNil))) (CX N0) (eL S x2 (prD n b) (pD cy) (prD n (mpB (mf ms) b)) x6 x7 x8 x9 x10 x11 x12 x13 x14 x15) st = some (.nx, eL S x2 (prD n b) (pD cy) (prD n (mpB (mf ms) b)) x6 (some (pD w1)) (some (pD w2)) x9 x10 x11 x12 x13 x14 x15, st2) := by
    have k1 : (eCall F__law_list (lCons (eVar 1) (lCons (eC (.int 6)) lNil))) (CX N0) (eL S x2 (prD n b) (pD cy) (prD n (mpB (mf ms) b)) x6 x7 x8 x9 x10 x11 x12 x13 x14 x15) st = some (.ok (pD w1), st1) := call_run (xs := [.loc 0, .int 6]) rfl e1
    have k2 : (eCall F__law_list (lCons (eVar 1) (lCons (eC (.int 6)) lNil))) (CX N0) (eL S x2 (prD n b) (pD cy) (prD n (mpB (mf ms) b)) x6 x7 x8 x9 x10 x11 x12 x13 x14 x15) st1 = some (.ok (pD w2), st2) := call_run (xs := [.loc 0, .int 6]) rfl e2
    have hl := lcons_run k1 (lcons_run k2 lnil_run)
    unfold sPar sBnd
    rw [hl]; rfl
  have a2 : (sSet 9 (eBin opAdd (eVar 7) (eVar 8))) (CX N0) (eL S x2 (prD n b) (pD cy) (prD n (mpB (mf ms) b)) x6 (some (pD w1)) (some (pD w2)) x9 x10 x11 x12 x13 x14 x15) st2 = some (.nx, eL S x2 (prD n b) (pD cy) (prD n (mpB (mf ms) b)) x6 (some (pD w1)) (some (pD w2)) (some (pD (w1 ++ w2))) x10 x11 x12 x13 x14 x15, st2) := set_run (c_app (by omega)) (by show 9 < 16; decide)
  have a3 : (sPar 10 11 (lCons (eCall F_run_store (lCons (eVar 3) (lCons (eVar 4) (lCons (eVar 7) lNil)))) (lCons (eCall F_run_store (lCons (eVar 3) (lCons (eVar 4) (lCons (eVar 9) lNil)))) lNil))) (CX N0) (eL S x2 (prD n b) (pD cy) (prD n (mpB (mf ms) b)) x6 (some (pD w1)) (some (pD w2)) (some (pD (w1 ++ w2))) x10 x11 x12 x13 x14 x15) st2 = some (.nx, eF S x2 n b cy hcy ms w1 w2 x6 x12 x13 x14 x15, st2) := by
    have k1 : (eCall F_run_store (lCons (eVar 3) (lCons (eVar 4) (lCons (eVar 7) lNil)))) (CX N0) (eL S x2 (prD n b) (pD cy) (prD n (mpB (mf ms) b)) x6 (some (pD w1)) (some (pD w2)) (some (pD (w1 ++ w2))) x10 x11 x12 x13 x14 x15) st2 = some (.ok (stD3 n b cy hcy w1), st2) := call_run (xs := [prD n b, pD cy, pD w1]) rfl (run_store_run hP hn hcy (ws := w1) (by omega) (N := 99) (by omega) st2)
    have k2 : (eCall F_run_store (lCons (eVar 3) (lCons (eVar 4) (lCons (eVar 9) lNil)))) (CX N0) (eL S x2 (prD n b) (pD cy) (prD n (mpB (mf ms) b)) x6 (some (pD w1)) (some (pD w2)) (some (pD (w1 ++ w2))) x10 x11 x12 x13 x14 x15) st2 = some (.ok (stD3 n b cy hcy (w1 ++ w2)), st2) := call_run (xs := [prD n b, pD cy, pD (w1 ++ w2)]) rfl (run_store_run hP hn hcy hw (N := 99) (by omega) st2)
    have hl := lcons_run k1 (lcons_run k2 lnil_run)
    unfold sPar sBnd
    rw [hl]; rfl
  have a7 : (sSet 12 usedE) (CX N0) (eF S x2 n b cy hcy ms w1 w2 x6 x12 x13 x14 x15) st2 = some (.nx, eF S x2 n b cy hcy ms w1 w2 x6 (some (.frz ((paths b).map (secAt b)))) x13 x14 x15, st2) := set_run (used_run hP hcy) (by show 12 < 16; decide)
  have a8 : (sSet 13 idleE) (CX N0) (eF S x2 n b cy hcy ms w1 w2 x6 (some (.frz ((paths b).map (secAt b)))) x13 x14 x15) st2 = some (.nx, eF S x2 n b cy hcy ms w1 w2 x6 (some (.frz ((paths b).map (secAt b)))) (some (.loc st2.length)) x14 x15, st2 ++ [.lst ((idleL b).map fun (k : Nat) => D.int (k : Int))]) := set_run (idle_run hP hcy) (by show 13 < 16; decide)
  obtain ⟨st3, e9, u3⟩ := cnd4_run (S := S) (x2 := x2) (x6 := x6) (x12 := some (.frz ((paths b).map (secAt b)))) (x14 := x14) (x15 := x15) (ms := ms) hP hn hcy hc8 hw (st := st2 ++ [.lst ((idleL b).map fun (k : Nat) => D.int (k : Int))]) (k := st2.length) (by simp)
  refine ⟨_, _, _, _, _, _, _, st3, (seq_nx a1).trans ((seq_nx a2).trans ((seq_nx a3).trans ((seq_nx ((if_f (cnd1_run hP hn hcy hw)).trans rfl)).trans ((seq_nx ((if_f (cnd2_run hP hn hcy hw hf)).trans rfl)).trans ((seq_nx ((if_f (cnd3_run hP hn hcy hw hf)).trans rfl)).trans ((seq_nx a7).trans ((seq_nx a8).trans ((if_f e9).trans rfl)))))))), up_pen h2 ((Up.push _ _).trans u3)⟩
abbrev outB : SS := (sSeq (sAsg (gTup 2 (gCons (gVar 3) (gCons (gVar 4) gNil))) (eTup (lCons (eCall F__law_some_program (lCons (eVar 1) lNil)) (lCons (eCall F__law_copying (lCons (eVar 1) (lCons (eC (.int 8)) lNil))) lNil))))
  (sSeq (sSet 5 (eTup (lCons (eBin opIx (eVar 3) (eC (.int 0))) (lCons (eCall F__law_mapped (lCons (eBin opIx (eVar 3) (eC (.int 1))) (lCons (eListOfF (iRange1 (eC (.int 4)))) (lCons (eCall F__law_shuffled (lCons (eVar 1) (lCons (eC (.int 10)) lNil))) lNil)))) lNil))))
  (sFor (gVar 6) (iRange1 (eC (.int 4))) inB)))
theorem outer_run (hx : xs.length ≤ 63) {x3 x4 x5 : Option D} (hp : Pen xs st) : ∃ y3 y4 y5 y6 y7 y8 y9 y10 y11 y12 y13 st', outB (CX N0) [some S, some (.loc 0), x2, x3, x4, x5, x6, x7, x8, x9, x10, x11, x12, x13, x14, x15] st = some (.nx, [some S, some (.loc 0), x2, y3, y4, y5, y6, y7, y8, y9, y10, y11, y12, y13, x14, x15], st') ∧ Pen xs st' := by
  obtain ⟨n, b, st1, e1, n1, n4, ok, h1, _⟩ := some_run hx hp (N := N0) (by decide)
  obtain ⟨cy, st2, e2, hcy, h2, _⟩ := copying_run hx (many := 8) (by omega) h1 (N := N0) (by decide)
  have a1 : (sAsg (gTup 2 (gCons (gVar 3) (gCons (gVar 4) gNil))) (eTup (lCons (eCall F__law_some_program (lCons (eVar 1) lNil)) (lCons (eCall F__law_copying (lCons (eVar 1) (lCons (eC (.int 8)) lNil))) lNil)))) (CX N0) [some S, some (.loc 0), x2, x3, x4, x5, x6, x7, x8, x9, x10, x11, x12, x13, x14, x15] st = some (.nx, [some S, some (.loc 0), x2, some (prD n b), some (pD cy), x5, x6, x7, x8, x9, x10, x11, x12, x13, x14, x15], st2) := by
    have k1 : (eCall F__law_some_program (lCons (eVar 1) lNil)) (CX N0) [some S, some (.loc 0), x2, x3, x4, x5, x6, x7, x8, x9, x10, x11, x12, x13, x14, x15] st = some (.ok (prD n b), st1) := call_run (xs := [.loc 0]) rfl e1
    have k2 : (eCall F__law_copying (lCons (eVar 1) (lCons (eC (.int 8)) lNil))) (CX N0) [some S, some (.loc 0), x2, x3, x4, x5, x6, x7, x8, x9, x10, x11, x12, x13, x14, x15] st1 = some (.ok (pD cy), st2) := call_run (xs := [.loc 0, .int 8]) rfl e2
    exact asg_two (tup_run (lcons_run k1 (lcons_run k2 lnil_run)) lim2) (by show 3 < 16; decide) (by show 4 < 16; decide)
  obtain ⟨ms, k, st3, e3, hk, hml, hmlt, h3, _⟩ := shuffled_run hx (many := 10) (by omega) h2 (N := N0) (by decide)
  have hf : ∀ m, m < 10 → mf ms m < 10 := fun m hm => hmlt _ (by
    have hm' : m < ms.length := by omega
    show ms.getD m 0 ∈ ms
    rw [List.getD_eq_getElem?_getD, List.getElem?_eq_getElem hm']; exact List.getElem_mem hm')
  obtain ⟨st4, e4, u4⟩ := mapped_run (n := n) n4 hml 5 99 k b st3 (by omega) ok.ok ok.len hk
  have h4 : Pen xs st4 := up_pen h3 u4
  have a2 : (sSet 5 (eTup (lCons (eBin opIx (eVar 3) (eC (.int 0))) (lCons (eCall F__law_mapped (lCons (eBin opIx (eVar 3) (eC (.int 1))) (lCons (eListOfF (iRange1 (eC (.int 4)))) (lCons (eCall F__law_shuffled (lCons (eVar 1) (lCons (eC (.int 10)) lNil))) lNil)))) lNil)))) (CX N0) [some S, some (.loc 0), x2, some (prD n b), some (pD cy), x5, x6, x7, x8, x9, x10, x11, x12, x13, x14, x15] st2 = some (.nx, eL S x2 (prD n b) (pD cy) (prD n (mpB (mf ms) b)) x6 x7 x8 x9 x10 x11 x12 x13 x14 x15, st4) := by
    have k1 : (eBin opIx (eVar 3) (eC (.int 0))) (CX N0) [some S, some (.loc 0), x2, some (prD n b), some (pD cy), x5, x6, x7, x8, x9, x10, x11, x12, x13, x14, x15] st2 = some (.ok (.int (n : Int)), st2) := rfl
    have k2 : (eBin opIx (eVar 3) (eC (.int 1))) (CX N0) [some S, some (.loc 0), x2, some (prD n b), some (pD cy), x5, x6, x7, x8, x9, x10, x11, x12, x13, x14, x15] st2 = some (.ok (.tup (blL b)), st2) := rfl
    have k3 : (eListOfF (iRange1 (eC (.int 4)))) (CX N0) [some S, some (.loc 0), x2, some (prD n b), some (pD cy), x5, x6, x7, x8, x9, x10, x11, x12, x13, x14, x15] st2 = some (.ok (.frz ((List.range 4).map fun (k : Nat) => D.int (k : Int))), st2) := by kernel_rfl
    have k4 : (eCall F__law_shuffled (lCons (eVar 1) (lCons (eC (.int 10)) lNil))) (CX N0) [some S, some (.loc 0), x2, some (prD n b), some (pD cy), x5, x6, x7, x8, x9, x10, x11, x12, x13, x14, x15] st2 = some (.ok (.loc k), st3) := call_run (xs := [.loc 0, .int 10]) rfl e3
    exact set_run (x := prD n (mpB (mf ms) b)) (tup_run (lcons_run k1 (lcons_run (call_run (lcons_run k2 (lcons_run k3 (lcons_run k4 lnil_run))) e4) lnil_run)) lim2) (by show 5 < 16; decide)
  have hr : iRange1 (eC (.int 4)) (CX N0) (eL S x2 (prD n b) (pD cy) (prD n (mpB (mf ms) b)) x6 x7 x8 x9 x10 x11 x12 x13 x14 x15) st4 = some (.ok (.items ((List.range 4).map fun (k : Nat) => D.int (k : Int))), st4) := range1_run (n := 4) rfl (by decide)
  obtain ⟨env', st', e5, y6, y7, y8, y9, y10, y11, y12, y13, rfl, h5⟩ := for_inv (g := gVar 6) (b := inB) (fun i env st' => ∃ y6 y7 y8 y9 y10 y11 y12 y13, env = eL S x2 (prD n b) (pD cy) (prD n (mpB (mf ms) b)) y6 y7 y8 y9 y10 y11 y12 y13 x14 x15 ∧ Pen xs st') hr ⟨_, _, _, _, _, _, _, _, rfl, h4⟩ (by decide) (by
    rintro i d env st' hd ⟨y6, y7, y8, y9, y10, y11, y12, y13, rfl, h5⟩
    obtain ⟨z7, z8, z9, z10, z11, z12, z13, st6, e6, h6⟩ := inner_run (S := S) (x2 := x2) (x6 := some d) (x7 := y7) (x8 := y8) (x9 := y9) (x10 := y10) (x11 := y11) (x12 := y12) (x13 := y13) (x14 := x14) (x15 := x15) hx ok n4 hcy hf h5
    exact ⟨_, st6, turn_var (by show 6 < 16; decide) e6, some d, z7, z8, z9, z10, z11, z12, z13, rfl, h6⟩)
  exact ⟨_, _, _, _, _, _, _, _, _, _, _, st', (seq_nx a1).trans ((seq_nx a2).trans e5), h5⟩
end
theorem pen_at (xs : List Int) (hx : xs.length ≤ 63) : prog.call 3000 100 F__law_pen [.frz (xs.map D.int)] [] = some (.ok (.loc 0), [penO xs 0 0]) := by
  rw [call_np (n := 99) fn_pen (by decide)]
  exact run_rt rfl (by rw [eq_pen]; exact pen_run _ xs hx)
theorem pure68 (ns : List Int) (hl : ns.length ≤ 63) : ∃ st, (⟨1, 16, b_law⟩ : Fn).run (CX 100) [.frz (ns.map D.int)] [] = some (.ok (.bl true), st) := by
  have a0 : b_law_0 (CX N0) [some (.frz (ns.map D.int)), none, none, none, none, none, none, none, none, none, none, none, none, none, none, none] [] = some (.nx, [some (.frz (ns.map D.int)), some (.loc 0), none, none, none, none, none, none, none, none, none, none, none, none, none, none], [penO ns 0 0]) :=
    set_run (call_run (xs := [.frz (ns.map D.int)]) rfl (pen_at ns hl)) (by show 1 < 16; decide)
  have hv : ∃ v : Nat, v ≤ 3 ∧ (eBin bMax2 (eC (.int 1)) (eBin bMin2 (eC (.int 3)) (eUn bLen (eVar 0)))) (CX N0) [some (.frz (ns.map D.int)), some (.loc 0), none, none, none, none, none, none, none, none, none, none, none, none, none, none] [penO ns 0 0] = some (.ok (.int (v : Int)), [penO ns 0 0]) := by
    have h1 : (eUn bLen (eVar 0)) (CX N0) [some (.frz (ns.map D.int)), some (.loc 0), none, none, none, none, none, none, none, none, none, none, none, none, none, none] [penO ns 0 0] = some (.ok (.int (ns.length : Int)), [penO ns 0 0]) := by
      refine un_run (x := .frz (ns.map D.int)) (var_run rfl) ?_
      have : (ns.map D.int).length = ns.length := by simp
      show some (Rs.ok (D.int ((ns.map D.int).length : Int)), [penO ns 0 0]) = _
      rw [this]
    have h2 := bin_run (f := bMin2) (a := eC (.int 3)) (x := .int 3) (st1 := [penO ns 0 0]) rfl h1 rfl
    have h3 := bin_run (f := bMax2) (a := eC (.int 1)) (x := .int 1) (st1 := [penO ns 0 0]) rfl h2 rfl
    refine ⟨max 1 (min 3 ns.length), by omega, h3.trans ?_⟩
    have e : (if (if (ns.length : Int) < 3 then (ns.length : Int) else 3) > 1 then (if (ns.length : Int) < 3 then (ns.length : Int) else 3) else 1) = ((max 1 (min 3 ns.length) : Nat) : Int) := by
      split <;> split <;> omega
    show some (Rs.ok (D.int (if (if (ns.length : Int) < 3 then (ns.length : Int) else 3) > 1 then (if (ns.length : Int) < 3 then (ns.length : Int) else 3) else 1)), [penO ns 0 0]) = _
    rw [e]
  obtain ⟨v, hv3, hv⟩ := hv
  obtain ⟨env', st', e, x2, x3, x4, x5, x6, x7, x8, x9, x10, x11, x12, x13, rfl, hp⟩ := for_inv (g := gVar 2) (b := outB) (c := CX N0) (fun i env st' => ∃ x2 x3 x4 x5 x6 x7 x8 x9 x10 x11 x12 x13, env = [some (.frz (ns.map D.int)), some (.loc 0), x2, x3, x4, x5, x6, x7, x8, x9, x10, x11, x12, x13, none, none] ∧ Pen ns st') (range1_run hv (by rw [lim_eq]; omega)) ⟨_, _, _, _, _, _, _, _, _, _, _, _, rfl, ⟨0, 0, rfl⟩⟩ (by rw [List.length_map, List.length_range]; show v < 3000; omega) (by
    rintro i d env st' hd ⟨x2, x3, x4, x5, x6, x7, x8, x9, x10, x11, x12, x13, rfl, hp⟩
    obtain ⟨y3, y4, y5, y6, y7, y8, y9, y10, y11, y12, y13, st4, e4, h4⟩ := outer_run (S := .frz (ns.map D.int)) (x2 := some d) (x3 := x3) (x4 := x4) (x5 := x5) (x6 := x6) (x7 := x7) (x8 := x8) (x9 := x9) (x10 := x10) (x11 := x11) (x12 := x12) (x13 := x13) (x14 := none) (x15 := none) hl hp
    exact ⟨_, st4, turn_var (by show 2 < 16; decide) e4, some d, y3, y4, y5, y6, y7, y8, y9, y10, y11, y12, y13, rfl, h4⟩)
  have hb : b_law (CX N0) [some (.frz (ns.map D.int)), none, none, none, none, none, none, none, none, none, none, none, none, none, none, none] [] = some (.rt (.bl true), [some (.frz (ns.map D.int)), some (.loc 0), x2, x3, x4, x5, x6, x7, x8, x9, x10, x11, x12, x13, none, none], st') := by
    unfold b_law
    rw [seq_nx a0]
    refine (seq_nx (a := b_law_1) e).trans ?_
    exact ret_run (d := .bl true) rfl
  exact ⟨st', fr_rt rfl rfl hb⟩
end MI

theorem PySem.Challenge.cw_copyplaces_k68_whole_copies_counted_holds : PySem.Challenge.rw_copyplaces_k68_whole_copies_counted.Holds := by
  exact Dv.law_holds fun ns hl => MI.pure68 ns hl
