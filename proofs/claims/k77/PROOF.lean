import PyProof.Rows.All
import Wide.All
import OpenK.AllK
import Wide.FinOn
import HandS.ForMost
import HandS.TupAny
import HandS.TupMul
import HandS.Deep
import HandS.Conv
import PyProof.SeqIndex
import HandS.ForExc
import HandS.Flow
import HandS.CallSlots
import HandS.ExcCtx
import HandS.SortInts
import PyProof.WalksMore
import PyProof.WalkInts
import HandS.ExcOwn
import HandS.Ends
import HandS.HeadEnd
import HandS.Defaults
import HandS.HeadHook2
import PyProof.AutoSeq1
import HandS.SetFor
import HandS.Strs
import PyProof.SeqRoads
import PyProof.ListIndex
import PyProof.ListIndexNeg
import HandS.Iter
import KE.GoesMore
import KE.GoesEnum
import HandS.SortKw
import KE.GoesEnumKw
import PyProof.ZipIter
import HandS.Comp
import HandS.Dict
import HandS.WordsExc
import HandS.HeadHook1
import PyProof.ReprReads
import HandS.Set
import HandS.Text
import HandS.StrMore
import HandS.FStr
import HandS.IsInst
import HandS.RaiseMore
import PyProof.StrLawsTight
import PyProof.Rows.StrCut
import PyProof.AssignAttr
import PyProof.ReprRoads
import PyProof.ReprLen
import PyProof.StrLawsRepr
import PyProof.CallFns
import KE.KStateDown
import HandS.Head0
import HandS.Head1
import HandS.Head2
import PyProof.TableCode
import PySem.Challenge.RW_copyplaces_k77_programs_written_and_read
set_option Elab.async false
set_option linter.all false
set_option autoImplicit false
set_option maxRecDepth 100000
set_option maxHeartbeats 4000000
/-! MI: a small pure layer: what the program's constructs do to plain data. -/
set_option autoImplicit false
namespace MI

/-- a value: texts by their code points, tuples as trees, a mutable object by its place in the store; frz: a list that is read alone (the script); xtup: a tuple whose methods are called -/
inductive D where
  | non
  | bl (b : Bool)
  | int (i : Int)
  | str (s : List Nat)
  | tup (l : List D)
  | loc (n : Nat)
  | frz (l : List D)
  | xtup (l : List D)
  deriving Inhabited

/-- a mutable object -/
inductive Ob where
  | lst (l : List D)
  | ins (c : Nat) (fs : List (List Nat × D))
  | dic (kvs : List (D × D))
  | set (ks : List D)
  deriving Inhabited

inductive Rs (α : Type) where
  | ok (a : α)
  | exc (c : Nat) (fs : List (List Nat × D))

abbrev Stt := List Ob
abbrev Env := List (Option D)
abbrev R (α : Type) := Stt → Option (Rs α × Stt)
def ret {α : Type} (a : α) : R α := fun st => some (.ok a, st)
def fail {α : Type} : R α := fun _ => none
def bnd {α β : Type} (x : R α) (f : α → R β) : R β := fun st => match x st with
  | some (.ok a, st') => f a st'
  | some (.exc c fs, st') => some (.exc c fs, st')
  | none => none
def new (o : Ob) : R D := fun st => some (.ok (.loc st.length), st ++ [o])

structure Ctx where
  call : Nat → List D → R D
  meth : Nat → List Nat → Option Nat
  flds : Nat → List Nat → Bool
  fuel : Nat
abbrev SE := Ctx → Env → R D

/-- the largest length of a list, a text -/
abbrev lim : Nat := 16777216

/-! ### == of data -/
def b2i (b : Bool) : Int := if b then 1 else 0
mutual
def D.eqv : D → D → Bool
  | .non, .non => true
  | .bl a, .bl b => a == b
  | .bl a, .int j => b2i a == j
  | .int i, .bl b => i == b2i b
  | .int i, .int j => i == j
  | .str s, .str t => s == t
  | .tup l, .tup m => D.eqvL l m
  | .tup l, .xtup m => D.eqvL l m
  | .xtup l, .tup m => D.eqvL l m
  | .xtup l, .xtup m => D.eqvL l m
  | .frz l, .frz m => D.eqvL l m
  | _, _ => false
def D.eqvL : List D → List D → Bool
  | [], [] => true
  | x :: xs, y :: ys => D.eqv x y && D.eqvL xs ys
  | _, _ => false
end
mutual
/-- no mutable object within, nested so deep at most -/
def D.ok : Nat → D → Bool
  | _, .non => true
  | _, .bl _ => true
  | _, .int _ => true
  | _, .str s => s.all (· < 1114112)
  | 0, .tup _ => false
  | n + 1, .tup l => l.length < lim && D.okL n l
  | 0, .xtup _ => false
  | n + 1, .xtup l => l.length < lim && D.okL n l
  | _, .loc _ => false
  | 0, .frz _ => false
  | n + 1, .frz l => l.length < lim && D.okL n l
def D.okL : Nat → List D → Bool
  | _, [] => true
  | n, x :: xs => D.ok n x && D.okL n xs
end
abbrev deep : Nat := 40
/-- a list as it stands, as a value -/
def dat (x : D) (st : Stt) : Option D := match x with
  | .loc a => match st[a]? with
    | some (.lst l) => some (.frz l)
    | _ => none
  | x => some x
def eqD (x y : D) : R Bool := fun st => match dat x st with
  | some a => match dat y st with
    | some b => if D.ok deep a && D.ok deep b then some (.ok (D.eqv a b), st) else none
    | none => none
  | none => none
/-- the items of a list or tuple -/
def seqOf (x : D) : R (List D) := fun st => match x with
  | .tup l => some (.ok l, st)
  | .xtup l => some (.ok l, st)
  | .frz l => some (.ok l, st)
  | .loc a => match st[a]? with
    | some (.lst l) => some (.ok l, st)
    | _ => none
  | _ => none
def isInT (x s : D) : R Bool := fun st => match s with
  | .tup l => if D.ok deep x && D.okL deep l then some (.ok (l.any fun y => D.eqv y x), st) else none
  | .xtup l => if D.ok deep x && D.okL deep l then some (.ok (l.any fun y => D.eqv y x), st) else none
  | .frz l => if D.ok deep x && D.okL deep l then some (.ok (l.any fun y => D.eqv y x), st) else none
  | .loc a => match st[a]? with
    | some (.lst l) => if D.ok deep x && D.okL deep l then some (.ok (l.any fun y => D.eqv y x), st) else none
    | some (.dic kvs) => if D.ok deep x && D.okL deep (kvs.map (·.1)) then some (.ok (kvs.any fun p => D.eqv p.1 x), st) else none
    | _ => none
  | .str t => match x with
    | .str [c] => some (.ok (t.contains c), st)
    | _ => none
  | _ => none

/-! ### operators -/
def big : Int := 18446744073709551616
def opAdd (x y : D) : R D := fun st => match x, y with
  | .int i, .int j => some (.ok (.int (i + j)), st)
  | .str s, .str t => if s.length + t.length < lim then some (.ok (.str (s ++ t)), st) else none
  | .tup l, .tup m => if l.length + m.length < lim then some (.ok (.tup (l ++ m)), st) else none
  | .loc a, .loc b => match st[a]?, st[b]? with
    | some (.lst l), some (.lst m) => if l.length + m.length < lim then new (.lst (l ++ m)) st else none
    | _, _ => none
  | _, _ => none
def opSub (x y : D) : R D := fun st => match x, y with
  | .int i, .int j => some (.ok (.int (i - j)), st)
  | _, _ => none
def opMul (x y : D) : R D := fun st => match x, y with
  | .int i, .int j => if (-big < i ∧ i < big) ∨ (-big < j ∧ j < big) then some (.ok (.int (i * j)), st) else none
  | .tup l, .int j => if j < lim ∧ -lim < j ∧ l.length * j.toNat < 16000000 then some (.ok (.tup (List.replicate j.toNat l).flatten), st) else none
  | .loc a, .int j => match st[a]? with
    | some (.lst l) => if j < lim ∧ -lim < j ∧ l.length * j.toNat < lim then new (.lst (List.replicate j.toNat l).flatten) st else none
    | _ => none
  | _, _ => none
def opMod (x y : D) : R D := fun st => match x, y with
  | .int i, .int j => if 0 < j then some (.ok (.int (i % j)), st) else none
  | _, _ => none
def opDiv (x y : D) : R D := fun st => match x, y with
  | .int i, .int j => if 0 < j ∧ j < 1073741824 then some (.ok (.int (i / j)), st) else none
  | _, _ => none
def opPow (x y : D) : R D := fun st => match x, y with
  | .int i, .int j => if 0 ≤ j ∧ j ≤ 100 ∧ -big < i ∧ i < big then some (.ok (.int (i ^ j.toNat)), st) else none
  | _, _ => none
def opEq (x y : D) : R D := bnd (eqD x y) fun b => ret (.bl b)
def opNe (x y : D) : R D := bnd (eqD x y) fun b => ret (.bl (!b))
def opLt (x y : D) : R D := fun st => match x, y with
  | .int i, .int j => some (.ok (.bl (decide (i < j))), st)
  | _, _ => none
def opLe (x y : D) : R D := fun st => match x, y with
  | .int i, .int j => some (.ok (.bl (decide (i ≤ j))), st)
  | _, _ => none
def opGt (x y : D) : R D := fun st => match x, y with
  | .int i, .int j => some (.ok (.bl (decide (j < i))), st)
  | _, _ => none
def opGe (x y : D) : R D := fun st => match x, y with
  | .int i, .int j => some (.ok (.bl (decide (j ≤ i))), st)
  | _, _ => none
def opIn (x y : D) : R D := bnd (isInT x y) fun b => ret (.bl b)
def opNotIn (x y : D) : R D := bnd (isInT x y) fun b => ret (.bl (!b))
def isNone : D → Bool
  | .non => true
  | _ => false
def isTrue? : D → Option Bool
  | .bl b => some b
  | _ => none

/-! ### expressions -/
def eC (d : D) : SE := fun _ _ => ret d
def eVar (i : Nat) : SE := fun _ env st => match env[i]? with
  | some (some d) => some (.ok d, st)
  | _ => none
def eBin (f : D → D → R D) (a b : SE) : SE := fun c env => bnd (a c env) fun x => bnd (b c env) fun y => f x y
def eUn (f : D → R D) (a : SE) : SE := fun c env => bnd (a c env) f
def opNeg (x : D) : R D := fun st => match x with
  | .int i => some (.ok (.int (-i)), st)
  | _ => none
def opIsN (x : D) : R D := ret (.bl (isNone x))
def opNotN (x : D) : R D := ret (.bl (!isNone x))
abbrev SL := Ctx → Env → R (List D)
def lNil : SL := fun _ _ => ret []
def lCons (a : SE) (l : SL) : SL := fun c env => bnd (a c env) fun x => bnd (l c env) fun xs => ret (x :: xs)
def eTup (l : SL) : SE := fun c env => bnd (l c env) fun xs => if xs.length < lim then ret (.tup xs) else fail
def eLst (l : SL) : SE := fun c env => bnd (l c env) fun xs => if xs.length < lim then new (.lst xs) else fail
/-- a list that nobody changes: a value -/
def eLstF (l : SL) : SE := fun c env => bnd (l c env) fun xs => if xs.length < lim then ret (.frz xs) else fail
/-- a test -/
abbrev ST := Ctx → Env → R Bool
def cB (a : SE) : ST := fun c env => bnd (a c env) fun x => match x with
  | .bl b => ret b
  | _ => fail
def cNot (a : ST) : ST := fun c env => bnd (a c env) fun b => ret (!b)
def cAnd (a b : ST) : ST := fun c env => bnd (a c env) fun x => if x then b c env else ret false
def cOr (a b : ST) : ST := fun c env => bnd (a c env) fun x => if x then ret true else b c env
/-- and, or of bools as values; the last may be any value -/
def eAnd (a b : SE) : SE := fun c env => bnd (a c env) fun x => match x with
  | .bl true => b c env
  | .bl false => ret (.bl false)
  | _ => fail
def eOr (a b : SE) : SE := fun c env => bnd (a c env) fun x => match x with
  | .bl true => ret (.bl true)
  | .bl false => b c env
  | _ => fail
def eNot (a : SE) : SE := fun c env => bnd (a c env) fun x => match x with
  | .bl b => ret (.bl (!b))
  | _ => fail
def eNotT (t : ST) : SE := fun c env => bnd (t c env) fun b => ret (.bl (!b))
def eIf (t : ST) (a b : SE) : SE := fun c env => bnd (t c env) fun x => if x then a c env else b c env
/-- a op b op' c -/
def eChain (f g : D → D → R D) (a b d : SE) : SE := fun c env => bnd (a c env) fun x => bnd (b c env) fun y => bnd (f x y) fun r => match r with
  | .bl true => bnd (d c env) fun z => g y z
  | .bl false => ret (.bl false)
  | _ => fail

/-! ### subscripts -/
/-- the place of index i in n -/
def ixN (n : Nat) (i : Int) : Option Nat := if 0 ≤ i then (if i < n then some i.toNat else none) else if -(n : Int) ≤ i then some (i + n).toNat else none
def opIx (x y : D) : R D := fun st => match y with
  | .int i => match x with
    | .tup l => match (ixN l.length i).bind fun k => l[k]? with
      | some d => some (.ok d, st)
      | none => none
    | .xtup l => match (ixN l.length i).bind fun k => l[k]? with
      | some d => some (.ok d, st)
      | none => none
    | .str s => match (ixN s.length i).bind fun k => s[k]? with
      | some d => if s.length < lim then some (.ok (.str [d]), st) else none
      | none => none
    | .loc a => match st[a]? with
      | some (.lst l) => match (ixN l.length i).bind fun k => l[k]? with
        | some d => some (.ok d, st)
        | none => none
      | _ => none
    | .frz l => match (ixN l.length i).bind fun k => l[k]? with
      | some d => some (.ok d, st)
      | none => none
    | _ => none
  | _ => none
/-- a slice's bound -/
def clampI (n : Nat) (i : Int) : Nat := if i < 0 then (i + n).toNat else min i.toNat n
def cut {α : Type} (l : List α) (lo hi : Option Int) : List α :=
  let a := (lo.map (clampI l.length)).getD 0
  let b := (hi.map (clampI l.length)).getD l.length
  (l.take b).drop a
def everyOther {α : Type} : List α → List α
  | [] => []
  | [x] => [x]
  | x :: _ :: r => x :: everyOther r
abbrev SO := Ctx → Env → R (Option Int)
def oNone : SO := fun _ _ => ret none
def oSome (a : SE) : SO := fun c env => bnd (a c env) fun x => match x with
  | .int i => if -lim < i ∧ i < lim then ret (some i) else fail
  | _ => fail
def opSlc (x : D) (lo hi : Option Int) : R D := fun st => match x with
  | .tup l => some (.ok (.tup (cut l lo hi)), st)
  | .str s => if s.length < lim then some (.ok (.str (cut s lo hi)), st) else none
  | .loc a => match st[a]? with
    | some (.lst l) => some (.ok (.frz (cut l lo hi)), st)
    | _ => none
  | .frz l => some (.ok (.frz (cut l lo hi)), st)
  | _ => none
def eSlc (a : SE) (lo hi : SO) : SE := fun c env => bnd (a c env) fun x => bnd (lo c env) fun l => bnd (hi c env) fun h => opSlc x l h
/-- t[a:b:2] of a tuple, a and b written -/
def eSlc2 (a : SE) (lo hi : Option Int) : SE := fun c env => bnd (a c env) fun x => match x with
  | .tup l => ret (.tup (everyOther (cut l lo hi)))
  | _ => fail

/-! ### objects -/
def getD (fs : List (List Nat × D)) (f : List Nat) : Option D := (fs.find? fun p => p.1 == f).map (·.2)
def putD (fs : List (List Nat × D)) (f : List Nat) (d : D) : List (List Nat × D) := match fs with
  | [] => [(f, d)]
  | p :: r => if p.1 = f then (p.1, d) :: r else p :: putD r f d
def opFld (f : List Nat) (x : D) : R D := fun st => match x with
  | .loc a => match st[a]? with
    | some (.ins _ fs) => match getD fs f with
      | some d => some (.ok d, st)
      | none => none
    | _ => none
  | _ => none
def eFld (a : SE) (f : List Nat) : SE := fun c env => bnd (a c env) (opFld f)
/-- a call of a def by its number -/
def eCall (f : Nat) (l : SL) : SE := fun c env => bnd (l c env) fun xs => c.call f xs
/-- o.m(..): the class's own method -/
def opRes (c : Ctx) (m : List Nat) (x : D) : R Nat := fun st => match x with
  | .loc n => match st[n]? with
    | some (.ins k fs) => match c.meth k m, getD fs m with
      | some f, none => some (.ok f, st)
      | _, _ => none
    | _ => none
  | _ => none
def eMeth (a : SE) (m : List Nat) (l : SL) : SE := fun c env => bnd (a c env) fun x => bnd (opRes c m x) fun f => bnd (l c env) fun xs => c.call f (x :: xs)
def mkEnd (o r : D) : R D := match r with
  | .non => ret o
  | _ => fail
/-- C(..): a new instance, then its __init__ -/
def eMake (k f : Nat) (l : SL) : SE := fun c env => bnd (l c env) fun xs => bnd (new (.ins k [])) fun o => bnd (c.call f (o :: xs)) (mkEnd o)

/-! ### built-in functions -/
def bLen (x : D) : R D := fun st => match x with
  | .tup l => some (.ok (.int l.length), st)
  | .xtup l => some (.ok (.int l.length), st)
  | .str s => if s.length < lim then some (.ok (.int s.length), st) else none
  | .loc a => match st[a]? with
    | some (.lst l) => some (.ok (.int l.length), st)
    | some (.dic l) => some (.ok (.int l.length), st)
    | _ => none
  | .frz l => some (.ok (.int l.length), st)
  | _ => none
def bInt (x : D) : R D := fun st => match x with
  | .int i => some (.ok (.int i), st)
  | .bl b => some (.ok (.int (b2i b)), st)
  | _ => none
def bAbs (x : D) : R D := fun st => match x with
  | .int i => some (.ok (.int (if i < 0 then -i else i)), st)
  | _ => none
def bTuple (x : D) : R D := bnd (seqOf x) fun l => ret (.tup l)
/-- tuple(x) of a list, a tuple whose methods are called -/
def bTupleX (x : D) : R D := fun st => match x with
  | .loc a => match st[a]? with
    | some (.lst l) => some (.ok (.xtup l), st)
    | _ => none
  | .frz l => some (.ok (.xtup l), st)
  | _ => none
def bListF (x : D) : R D := bnd (seqOf x) fun l => if l.length < lim then ret (.frz l) else fail
def bList (x : D) : R D := bnd (seqOf x) fun l => if l.length < lim then new (.lst l) else fail
def bMax2 (x y : D) : R D := fun st => match x, y with
  | .int i, .int j => some (.ok (.int (if j > i then j else i)), st)
  | _, _ => none
def bMin2 (x y : D) : R D := fun st => match x, y with
  | .int i, .int j => some (.ok (.int (if j < i then j else i)), st)
  | _, _ => none
def ints? : List D → Option (List Int)
  | [] => some []
  | .int i :: r => (ints? r).map (i :: ·)
  | _ => none
def bools? : List D → Option (List Bool)
  | [] => some []
  | .bl i :: r => (bools? r).map (i :: ·)
  | _ => none
def leastI : Int → List Int → Int
  | m, [] => m
  | m, x :: r => leastI (if x < m then x else m) r
def greatI : Int → List Int → Int
  | m, [] => m
  | m, x :: r => greatI (if m < x then x else m) r
def bMin (x : D) : R D := bnd (seqOf x) fun l => match ints? l with
  | some (i :: r) => ret (.int (leastI i r))
  | _ => fail
def bMax (x : D) : R D := bnd (seqOf x) fun l => match ints? l with
  | some (i :: r) => ret (.int (greatI i r))
  | _ => fail
def lstOf (x : D) : R (List D) := fun st => match x with
  | .loc a => match st[a]? with
    | some (.lst l) => some (.ok l, st)
    | _ => none
  | .frz l => some (.ok l, st)
  | _ => none
def bSum (x : D) : R D := bnd (lstOf x) fun l => match ints? l with
  | some r => ret (.int r.sum)
  | _ => fail
def bAll (x : D) : R D := bnd (lstOf x) fun l => match bools? l with
  | some r => ret (.bl (r.all id))
  | _ => fail
def bAny (x : D) : R D := bnd (lstOf x) fun l => match bools? l with
  | some r => ret (.bl (r.any id))
  | _ => fail
def insI (x : Int) : List Int → List Int
  | [] => [x]
  | y :: r => if x ≤ y then x :: y :: r else y :: insI x r
def sortI : List Int → List Int
  | [] => []
  | x :: r => insI x (sortI r)
/-- sorted of ints -/
def bSorted (x : D) : R D := bnd (seqOf x) fun l => match ints? l with
  | some r => if r.length < lim then new (.lst ((sortI r).map D.int)) else fail
  | none => fail
def bSortedF (x : D) : R D := bnd (seqOf x) fun l => match ints? l with
  | some r => if r.length < lim then ret (.frz ((sortI r).map D.int)) else fail
  | none => fail
/-- set of ints; sorted of it -/
def bSet (x : D) : R D := bnd (seqOf x) fun l => match ints? l with
  | some r => if r.length < 64 then new (.set (r.map D.int)) else fail
  | none => fail
def rangeL (lo hi : Int) : List D := (List.range (hi - lo).toNat).map fun (k : Nat) => D.int (lo + k)

/-! ### methods of built-in types -/
def mIndex (x y : D) : R D := fun st => match x with
  | .xtup l => if D.ok deep y && D.okL deep l then (match l.findIdx? fun z => D.eqv z y with
    | some k => some (.ok (.int k), st)
    | none => none) else none
  | .loc a => match st[a]? with
    | some (.lst l) => if D.ok deep y && D.okL deep l then (match l.findIdx? fun z => D.eqv z y with
      | some k => some (.ok (.int k), st)
      | none => none) else none
    | _ => none
  | _ => none
def mCount (x y : D) : R D := fun st => match x with
  | .loc a => match st[a]? with
    | some (.lst l) => match ints? l, y with
      | some r, .int i => some (.ok (.int (r.count i)), st)
      | _, _ => none
    | _ => none
  | _ => none
def mAppend (x y : D) : R D := fun st => match x with
  | .loc a => match st[a]? with
    | some (.lst l) => if l.length < lim - 1 then some (.ok .non, st.set a (.lst (l ++ [y]))) else none
    | _ => none
  | _ => none
/-- the items of a list -/
def lstD (x : D) (st : Stt) : Option (List D) := match x with
  | .loc b => match st[b]? with
    | some (.lst m) => some m
    | _ => none
  | .frz m => some m
  | _ => none
def mExtend (x y : D) : R D := fun st => match x with
  | .loc a => match st[a]? with
    | some (.lst l) => match lstD y st with
      | some m => if l.length + m.length < lim then some (.ok .non, st.set a (.lst (l ++ m))) else none
      | none => none
    | _ => none
  | _ => none
def mPop (x : D) : R D := fun st => match x with
  | .loc a => match st[a]? with
    | some (.lst l) => match l.getLast? with
      | some d => some (.ok d, st.set a (.lst l.dropLast))
      | none => none
    | _ => none
  | _ => none

/-! ### what a for walks -/
/-- items that are fixed; the items of a list as they stand at each turn -/
inductive Src where
  | items (l : List D)
  | live (n : Nat)
  | liveE (n : Nat)
abbrev SI := Ctx → Env → R Src
def iSeq (a : SE) : SI := fun c env => bnd (a c env) fun x => fun st => match x with
  | .tup l => some (.ok (.items l), st)
  | .xtup l => some (.ok (.items l), st)
  | .loc n => match st[n]? with
    | some (.lst _) => some (.ok (.live n), st)
    | _ => none
  | .frz l => some (.ok (.items l), st)
  | _ => none
def iRange1 (a : SE) : SI := fun c env => bnd (a c env) fun x => match x with
  | .int n => if -lim < n ∧ n < lim then ret (.items (rangeL 0 n)) else fail
  | _ => fail
def iRange2 (a b : SE) : SI := fun c env => bnd (a c env) fun x => bnd (b c env) fun y => match x, y with
  | .int m, .int n => if -lim < m ∧ m < lim ∧ -lim < n ∧ n < lim then ret (.items (rangeL m n)) else fail
  | _, _ => fail
/-- range(0, n, 2) -/
def iRange3 (a : SE) : SI := fun c env => bnd (a c env) fun x => match x with
  | .int n => if -lim < n ∧ n < lim then ret (.items (everyOther (rangeL 0 n))) else fail
  | _ => fail
def enumD : Nat → List D → List D
  | _, [] => []
  | k, x :: r => .tup [.int k, x] :: enumD (k + 1) r
def iEnum (a : SE) : SI := fun c env => bnd (a c env) fun x => fun st => match x with
  | .tup l => if l.length < lim then some (.ok (.items (enumD 0 l)), st) else none
  | .frz l => if l.length < lim then some (.ok (.items (enumD 0 l)), st) else none
  | .loc n => match st[n]? with
    | some (.lst _) => some (.ok (.liveE n), st)
    | _ => none
  | _ => none
def zipD : List D → List D → List D
  | x :: r, y :: s => .tup [x, y] :: zipD r s
  | _, _ => []
/-- zip(.., strict=True) of two tuples of one length -/
def iZip (a b : SE) : SI := fun c env => bnd (a c env) fun x => bnd (b c env) fun y => match x, y with
  | .tup l, .tup m => if l.length = m.length then ret (.items (zipD l m)) else fail
  | _, _ => fail

/-- list(range(..)), tuple(range(..)) -/
def eListOf (it : SI) : SE := fun c env => bnd (it c env) fun s => match s with
  | .items l => if l.length < lim then new (.lst l) else fail
  | _ => fail
def eListOfF (it : SI) : SE := fun c env => bnd (it c env) fun s => match s with
  | .items l => if l.length < lim then ret (.frz l) else fail
  | _ => fail
def eTupleOf (it : SI) : SE := fun c env => bnd (it c env) fun s => match s with
  | .items l => if l.length < lim then ret (.tup l) else fail
  | _ => fail
/-- {'a': 1, ..}.get(x, y) -/
def lookI (kvs : List (List Nat × Int)) (s : List Nat) : Option Int := (kvs.find? fun p => p.1 == s).map (·.2)
def eDGet (kvs : List (List Nat × Int)) (a b : SE) : SE := fun c env => bnd (a c env) fun x => bnd (b c env) fun y => match x with
  | .str s => ret (match lookI kvs s with
    | some i => .int i
    | none => y)
  | _ => fail
/-- {'a': 1, ..}[x] -/
def eDIx (kvs : List (List Nat × Int)) (a : SE) : SE := fun c env => bnd (a c env) fun x => match x with
  | .str s => match lookI kvs s with
    | some i => ret (.int i)
    | none => fail
  | _ => fail
/-- a method of a built-in type: what the receiver must be is asked ahead of the arguments -/
def isLst (x : D) : R Unit := fun st => match x with
  | .loc a => match st[a]? with
    | some (.lst _) => some (.ok (), st)
    | _ => none
  | _ => none
def isIxd (x : D) : R Unit := fun st => match x with
  | .loc a => match st[a]? with
    | some (.lst _) => some (.ok (), st)
    | _ => none
  | .xtup _ => some (.ok (), st)
  | _ => none
def eMt0 (k : D → R Unit) (f : D → R D) (a : SE) : SE := fun c env => bnd (a c env) fun x => bnd (k x) fun _ => f x
def eMt1 (k : D → R Unit) (f : D → D → R D) (a b : SE) : SE := fun c env => bnd (a c env) fun x => bnd (k x) fun _ => bnd (b c env) fun y => f x y

/-! ### statements -/
inductive Fl where
  | nx
  | rt (d : D)
  | bk
  | ct
  | ex (c : Nat) (fs : List (List Nat × D))
abbrev SS := Ctx → Env → Stt → Option (Fl × Env × Stt)
/-- an expression, then .. -/
def sBnd {α : Type} (x : R α) (env : Env) (f : α → Stt → Option (Fl × Env × Stt)) : Stt → Option (Fl × Env × Stt) := fun st => match x st with
  | some (.ok a, st') => f a st'
  | some (.exc c fs, st') => some (.ex c fs, env, st')
  | none => none
def sPass : SS := fun _ env st => some (.nx, env, st)
def sSeq (a b : SS) : SS := fun c env st => match a c env st with
  | some (.nx, env', st') => b c env' st'
  | r => r
def sExpr (e : SE) : SS := fun c env => sBnd (e c env) env fun _ st => some (.nx, env, st)
def sRet (e : SE) : SS := fun c env => sBnd (e c env) env fun d st => some (.rt d, env, st)
def sRetN : SS := fun _ env st => some (.rt .non, env, st)
def sIf (t : ST) (a b : SS) : SS := fun c env => sBnd (t c env) env fun x st => if x then a c env st else b c env st
def sBrk : SS := fun _ env st => some (.bk, env, st)
def sCont : SS := fun _ env st => some (.ct, env, st)

/-! ### targets -/
/-- a target: names by place, tuples of targets; a[i]; o.f -/
abbrev SG := Ctx → D → Env → Stt → Option (Env × Stt)
def gVar (i : Nat) : SG := fun _ d env st => if i < env.length then some (env.set i (some d), st) else none
abbrev SGs := Ctx → List D → Env → Stt → Option (Env × Stt)
def gNil : SGs := fun _ l env st => match l with
  | [] => some (env, st)
  | _ => none
def gCons (g : SG) (r : SGs) : SGs := fun c l env st => match l with
  | x :: xs => match g c x env st with
    | some (env', st') => r c xs env' st'
    | none => none
  | [] => none
def gTup (n : Nat) (g : SGs) : SG := fun c d env st => match d with
  | .tup l => if l.length = n then g c l env st else none
  | _ => none
/-- an expression in a target; nothing is raised in it -/
def gBnd {α : Type} (x : R α) (f : α → Stt → Option (Env × Stt)) : Stt → Option (Env × Stt) := fun st => match x st with
  | some (.ok a, st') => f a st'
  | _ => none
def setIx (n : Nat) (k : Int) (d : D) (st : Stt) : Option Stt := match st[n]? with
  | some (.lst l) => match ixN l.length k with
    | some j => some (st.set n (.lst (l.set j d)))
    | none => none
  | _ => none
def putIx (env : Env) (x y d : D) (st : Stt) : Option (Env × Stt) := match x, y with
  | .loc n, .int k => match setIx n k d st with
    | some st' => some (env, st')
    | none => none
  | _, _ => none
def gSub (a i : SE) : SG := fun c d env => gBnd (a c env) fun x => gBnd (i c env) fun y st => putIx env x y d st
def sAsg (g : SG) (e : SE) : SS := fun c env => sBnd (e c env) env fun d st => match g c d env st with
  | some (env', st') => some (.nx, env', st')
  | none => none
def sSet (i : Nat) (e : SE) : SS := fun c env => sBnd (e c env) env fun d st => if i < env.length then some (.nx, env.set i (some d), st) else none
/-- x, y = a, b: two names, no tuple -/
def sPar (i j : Nat) (l : SL) : SS := fun c env => sBnd (l c env) env fun ds st => match ds with
  | [x, y] => if i < env.length ∧ j < env.length then some (.nx, (env.set i (some x)).set j (some y), st) else none
  | _ => none
/-- o.f = e -/
def setFld (c : Ctx) (n : Nat) (f : List Nat) (d : D) (st : Stt) : Option Stt := match st[n]? with
  | some (.ins k fs) => if fs.length < 999 ∧ c.flds k f = true then some (st.set n (.ins k (putD fs f d))) else none
  | _ => none
def endFld (c : Ctx) (env : Env) (f : List Nat) (x d : D) (st : Stt) : Option (Fl × Env × Stt) := match x with
  | .loc n => match setFld c n f d st with
    | some st' => some (.nx, env, st')
    | none => none
  | _ => none
def sFld (o : SE) (f : List Nat) (e : SE) : SS := fun c env => sBnd (e c env) env fun d => sBnd (o c env) env fun x st => endFld c env f x d st
/-- x op= e -/
def sAug (i : Nat) (f : D → D → R D) (e : SE) : SS := fun c env st => match env[i]? with
  | some (some x) => sBnd (e c env) env (fun y => sBnd (f x y) env fun d st => some (.nx, env.set i (some d), st)) st
  | _ => none
/-- o.f op= e -/
def opFldK (f : List Nat) (x : D) : R (Nat × D) := fun st => match x with
  | .loc a => match st[a]? with
    | some (.ins k fs) => match getD fs f with
      | some d => some (.ok (k, d), st)
      | none => none
    | _ => none
  | _ => none
def isCls (k : Nat) (x : D) (st : Stt) : Bool := match x with
  | .loc a => match st[a]? with
    | some (.ins k' _) => k' == k
    | _ => false
  | _ => false
def endFldK (c : Ctx) (env : Env) (f : List Nat) (k : Nat) (x d : D) (st : Stt) : Option (Fl × Env × Stt) := if isCls k x st = true then endFld c env f x d st else none
def sFldAug (o : SE) (f : List Nat) (g : D → D → R D) (e : SE) : SS := fun c env => sBnd (o c env) env fun x => sBnd (opFldK f x) env fun v => sBnd (e c env) env fun y => sBnd (g v.2 y) env fun z st => endFldK c env f v.1 x z st
/-- a[i] op= e -/
def endIx (env : Env) (x y d : D) (st : Stt) : Option (Fl × Env × Stt) := match x, y with
  | .loc n, .int k => match setIx n k d st with
    | some st' => some (.nx, env, st')
    | none => none
  | _, _ => none
def opIxL (x y : D) : R D := match x with
  | .loc _ => opIx x y
  | _ => fail
def sSubAug (a i : SE) (g : D → D → R D) (e : SE) : SS := fun c env => sBnd (a c env) env fun x => sBnd (i c env) env fun y => sBnd (opIxL x y) env fun v => sBnd (e c env) env fun z => sBnd (g v z) env fun u st => endIx env x y u st
/-- the operators of op= -/
def opIAdd (x y : D) : R D := fun st => match x, y with
  | .int i, .int j => some (.ok (.int (i + j)), st)
  | .str s, .str t => if s.length + t.length < lim then some (.ok (.str (s ++ t)), st) else none
  | .tup l, .tup m => if l.length + m.length < lim then some (.ok (.tup (l ++ m)), st) else none
  | _, _ => none

/-! ### loops -/
/-- one more turn? the item -/
def srcAt (s : Src) (i : Nat) (st : Stt) : Option (Option D) := match s with
  | .items l => some l[i]?
  | .live n => match st[n]? with
    | some (.lst l) => some l[i]?
    | _ => none
  | .liveE n => match st[n]? with
    | some (.lst l) => some (l[i]?.map fun x => .tup [.int i, x])
    | _ => none
def forL (s : Src) (turn : D → Env → Stt → Option (Fl × Env × Stt)) : Nat → Nat → Env → Stt → Option (Fl × Env × Stt)
  | 0, _, _, _ => none
  | m + 1, i, env, st => match srcAt s i st with
    | none => none
    | some none => some (.nx, env, st)
    | some (some d) => match turn d env st with
      | some (.nx, env', st') => forL s turn m (i + 1) env' st'
      | some (.ct, env', st') => forL s turn m (i + 1) env' st'
      | some (.bk, env', st') => some (.nx, env', st')
      | r => r
def turnOf (g : SG) (b : SS) (c : Ctx) : D → Env → Stt → Option (Fl × Env × Stt) := fun d env st => match g c d env st with
  | some (env', st') => b c env' st'
  | none => none
def sFor (g : SG) (it : SI) (b : SS) : SS := fun c env => sBnd (it c env) env fun s st => forL s (turnOf g b c) c.fuel 0 env st
def whileL (t : Env → R Bool) (turn : Env → Stt → Option (Fl × Env × Stt)) : Nat → Env → Stt → Option (Fl × Env × Stt)
  | 0, _, _ => none
  | m + 1, env, st => match t env st with
    | none => none
    | some (.exc k fs, st') => some (.ex k fs, env, st')
    | some (.ok false, st') => some (.nx, env, st')
    | some (.ok true, st') => match turn env st' with
      | some (.nx, env', st'') => whileL t turn m env' st''
      | some (.ct, env', st'') => whileL t turn m env' st''
      | some (.bk, env', st'') => some (.nx, env', st'')
      | r => r
def sWhile (t : ST) (b : SS) : SS := fun c env st => whileL (t c) (b c) c.fuel env st
/-- a comprehension's own names are forgotten ahead of it -/
def wipeE (env : Env) : List Nat → Env
  | [] => env
  | v :: vs => (wipeE env vs).set v none
/-- the items of a comprehension, from the i-th turn; nothing is raised in it -/
def compL (s : Src) (turn : D → R (Option D)) : Nat → Nat → List D → R (List D)
  | 0, _, _ => fail
  | m + 1, i, acc => fun st => match srcAt s i st with
    | none => none
    | some none => some (.ok acc, st)
    | some (some d) => match turn d st with
      | some (.ok (some x), st') => if acc.length < lim - 1 then compL s turn m (i + 1) (acc ++ [x]) st' else none
      | some (.ok none, st') => compL s turn m (i + 1) acc st'
      | _ => none
def compT (g : SG) (t : ST) (e : SE) (c : Ctx) (env : Env) (d : D) : R (Option D) := fun st => match g c d env st with
  | some (env', st') => (bnd (t c env') fun b => if b then bnd (e c env') fun x => ret (some x) else ret none) st'
  | _ => none
def cYes : ST := fun _ _ => ret true
def eComp (own : List Nat) (g : SG) (it : SI) (t : ST) (e : SE) : SE := fun c env => bnd (it c env) fun s => bnd (compL s (compT g t e c (wipeE env own)) c.fuel 0 []) fun l => new (.lst l)
def eCompF (own : List Nat) (g : SG) (it : SI) (t : ST) (e : SE) : SE := fun c env => bnd (it c env) fun s => bnd (compL s (compT g t e c (wipeE env own)) c.fuel 0 []) fun l => ret (.frz l)

/-! ### defs -/
structure Fn where
  pars : Nat
  slots : Nat
  body : SS
def Fn.run (f : Fn) (c : Ctx) (args : List D) : R D := fun st => if args.length = f.pars then match f.body c (args.map some ++ List.replicate (f.slots - f.pars) none) st with
  | some (.rt d, _, st') => some (.ok d, st')
  | some (.nx, _, st') => some (.ok .non, st')
  | some (.ex k fs, _, st') => some (.exc k fs, st')
  | _ => none
  else none
/-! ### calls that touch no store -/
mutual
/-- no mutable object within -/
def D.lf : D → Bool
  | .tup l => D.lfL l
  | .xtup l => D.lfL l
  | .frz l => D.lfL l
  | .loc _ => false
  | _ => true
def D.lfL : List D → Bool
  | [] => true
  | x :: xs => D.lf x && D.lfL xs
end
/-- a call whose arguments hold no mutable object, nor does what comes of it: it does as in an empty store -/
def optC (g : List D → R D) : List D → R D := fun ds st => if D.lfL ds = true then match g ds [] with
  | some (.ok d, st0) => match d with
    | .loc n => match st0[n]? with
      | some (.lst l) => if D.lfL l = true then some (.ok (.frz l), st) else none
      | _ => none
    | d => if D.lf d = true then some (.ok d, st) else none
  | some (.exc k fs, _) => if D.lfL (fs.map (·.2)) = true then some (.exc k fs, st) else none
  | none => none
  else g ds st
structure Prog where
  fns : List Fn
  meths : List (Nat × List Nat × Nat)
  flds : List (Nat × List Nat)
  pures : List Nat
def Prog.meth (p : Prog) (k : Nat) (m : List Nat) : Option Nat := (p.meths.find? fun q => q.1 == k && q.2.1 == m).map (·.2.2)
def Prog.fld (p : Prog) (k : Nat) (f : List Nat) : Bool := p.flds.any fun q => q.1 == k && q.2 == f
/-- so many calls within one another -/
def Prog.call (p : Prog) (fuel : Nat) : Nat → Nat → List D → R D
  | 0, _ => fun _ => fail
  | n + 1, f => match p.fns[f]? with
    | some fn => if p.pures.contains f = true then optC (fn.run ⟨p.call fuel n, p.meth, p.fld, fuel⟩) else fn.run ⟨p.call fuel n, p.meth, p.fld, fuel⟩
    | none => fun _ => fail
end MI

set_option Elab.async false
set_option linter.all false
set_option maxRecDepth 100000
set_option maxHeartbeats 4000000
/-! MSR1: rules of our own at the library's level: tuple * int for any int, in and index of a tuple of data. -/
namespace MS
open PySem PySem.Spec PyProof.Rows L2

theorem tuple_mulSame (l : Addr) (items : Array Value) (n : Nat) (dd : Option Addr) (sl : Array (Option Value)) (x : Int) (u : Tok) (c0 : (decide (x < -(2 ^ 63)) || decide (x ≥ 2 ^ 63)) = false) (c1 : (items.isEmpty || x == 1) = true) :
    Meets (Builtin.«tuple.__mul__» ⟨[.ref l, .int x u], []⟩) (fun _ R s => s.heap.get? l = some { cls := .type "tuple", dict := dd, data := .seq items n, slots := sl } ∧
      R (.ok (.ret (Value.ref l))) s) :=
  .of_wp fun prog w A R s h => by
    obtain ⟨hp, g, d, tk, os⟩ := s
    obtain ⟨hl, h⟩ := h
    have f1 := AutoSeq1.idx_int
    wp_walk using wpAny_loadPart' hl
    repeat (first
      | (refine wpAny_ite_false (decide_eq_false (by rw [c0]; exact Bool.false_ne_true)) ?_; wp_walk using wpAny_loadPart' hl)
      | (refine wpAny_ite_true (decide_eq_true (by rw [c1])) ?_; wp_walk using wpAny_loadPart' hl))
    exact ⟨_, rfl, h⟩
theorem tuple_mulNil (l : Addr) (items : Array Value) (n : Nat) (dd : Option Addr) (sl : Array (Option Value)) (x : Int) (u : Tok) (c0 : (decide (x < -(2 ^ 63)) || decide (x ≥ 2 ^ 63)) = false) (c1 : (items.isEmpty || x == 1) = false) (c2 : (decide (x ≤ 0) || items.isEmpty) = true) :
    Meets (Builtin.«tuple.__mul__» ⟨[.ref l, .int x u], []⟩) (fun _ R s => s.heap.get? l = some { cls := .type "tuple", dict := dd, data := .seq items n, slots := sl } ∧
      R (.ok (.ret (Value.ref s.heap.objs.size))) { s with heap := s.heap.push { cls := Value.type "tuple", data := Data.seq #[] }, toks := s.toks }) :=
  .of_wp fun prog w A R s h => by
    obtain ⟨hp, g, d, tk, os⟩ := s
    obtain ⟨hl, h⟩ := h
    have f1 := AutoSeq1.idx_int
    wp_walk using wpAny_loadPart' hl
    repeat (first
      | (refine wpAny_ite_false (decide_eq_false (by rw [c0]; exact Bool.false_ne_true)) ?_; wp_walk using wpAny_loadPart' hl)
      | (refine wpAny_ite_false (decide_eq_false (by rw [c1]; exact Bool.false_ne_true)) ?_; wp_walk using wpAny_loadPart' hl)
      | (refine wpAny_ite_true (decide_eq_true (by rw [c2])) ?_; wp_walk using wpAny_loadPart' hl))
    exact ⟨_, rfl, h⟩

/-- t * k -/
def rRepA (K : PySem.W.Frag) : R2 := fun x y H Q => ∃ l k xs, x = .ref l ∧ y = .int k ∧ SqT K H l xs ∧ -(2 ^ 62) < k ∧ k < 2 ^ 62 ∧ xs.length * k.toNat ≤ 16000000 ∧ ((xs = [] ∨ k = 1) → Q (.ref l) H) ∧
  ∀ p, H p = none → Q (.ref p) (upd H p (.tup (List.replicate k.toNat xs).flatten))
section
variable {X : Cx}
theorem op_repA : OpR X (binaryOp .Mult) (rRepA X.K) := by
  intro pins s σ H x y v u Q I rx ry h
  obtain ⟨l, k, xs, rfl, rfl, hT, h1, h2, hz, q0, q⟩ := h
  cases rx
  obtain ⟨t, rfl⟩ := ry
  obtain ⟨its, r, ⟨⟨cls, dd, data, sl⟩, ho, hc, n, hd⟩, hs⟩ := I.tuple hT
  simp only at hc hd
  subst hc hd
  have hle : its.length = xs.length := r.length.symm
  have c0 : (decide (k < -(2 ^ 63)) || decide (k ≥ 2 ^ 63)) = false := by
    rw [decide_eq_false (by omega), decide_eq_false (by omega)] <;> rfl
  have go : ∀ (Q' : Value → Shared → Prop), wpAny (model X.prog X.w) X.A (call (.builtin "tuple.__mul__") [.ref l, .int k t]) Q' X.xe s → wpAny (model X.prog X.w) X.A (binaryOp .Mult (.ref l) (.int k t)) Q' X.xe s := fun Q' hq =>
    wpAny_binaryOp_repeat_ref (T := "tuple") (U := "int") (by decide) ⟨_, ho, rfl⟩ (fun s' => typeIs_int s' k t) noFill_tuple_mul F.fills_int_mul F.slot_int_rmul repeat_tuple F.slot_int_index.lookup
      (call_meets F.slot_int_rmul (typeIs_int s k t) F.entry_int_rmul (F.args_int_rmul_2 _ _) (int_rmul_tuple k t l its.toArray n dd sl) ⟨ho, rfl, ⟨_, ho, rfl⟩, hq⟩)
  refine go _ ?_
  by_cases c1 : (its.toArray.isEmpty || k == 1) = true
  · refine call_meets F.slot_tuple_mul ⟨_, ho, rfl⟩ F.entry_tuple_mul (F.args_tuple_mul_2 _ _) (tuple_mulSame l its.toArray n dd sl k t c0 c1) ⟨ho, ?_⟩
    refine ⟨.ref l, H, I, rfl, q0 ?_⟩
    rcases Bool.or_eq_true_iff.mp c1 with e | e
    · left
      have : its = [] := by simpa using e
      rw [this] at hle
      exact List.eq_nil_of_length_eq_zero hle.symm
    · right; exact eq_of_beq e
  · have c1' : (its.toArray.isEmpty || k == 1) = false := by simpa using c1
    have nb : ∀ b o, s.heap.get? b = some o → (s.heap.push { cls := Value.type "tuple", data := Data.seq #[] }).get? b = some o := fun b o e => Heap.get?_push_of_some _ e
    by_cases c2 : (decide (k ≤ 0) || its.toArray.isEmpty) = true
    · refine call_meets F.slot_tuple_mul ⟨_, ho, rfl⟩ F.entry_tuple_mul (F.args_tuple_mul_2 _ _) (tuple_mulNil l its.toArray n dd sl k t c0 c1' c2) ⟨ho, ?_⟩
      have he : (List.replicate k.toNat xs).flatten = [] := by
        rcases Bool.or_eq_true_iff.mp c2 with e | e
        · have : k.toNat = 0 := by have := of_decide_eq_true e; omega
          rw [this]; rfl
        · exfalso; rw [e] at c1'; simp at c1'
      have q' := q _ (I.hok.fresh (Nat.le_refl _))
      rw [he] at q'
      refine ⟨.ref s.heap.objs.size, _, I.laid (t' := s.toks) (o := .tup []) (fun b ob q => Heap.get?_push_of_some _ q) (Nat.le_refl _) ?_, rfl, q'⟩
      exact ⟨Nat.zero_le _, [], .nil, IsTup.new _ _⟩
    · have c2' : (decide (k ≤ 0) || its.toArray.isEmpty) = false := by simpa using c2
      have hk0 : 0 < k := by
        have := (Bool.or_eq_false_iff.mp c2').1
        have := of_decide_eq_false this
        omega
      have hm : ((its.toArray.size : Nat) : Int) * k ≤ 16000000 := by
        rw [List.size_toArray, hle]
        have e : ((k.toNat : Nat) : Int) = k := by omega
        have a1 : ((xs.length * k.toNat : Nat) : Int) ≤ 16000000 := Int.ofNat_le.mpr hz
        rw [Int.natCast_mul, e] at a1
        exact a1
      have flen : (List.replicate k.toNat its).flatten.length ≤ sizeLine := by
        rw [PyProof.Rows.lm_len_rep_flat, hle, sizeLine_eq, Nat.mul_comm]
        omega
      have c4 : Builtin.Tuple.tupleTooMany (((its.toArray.size : Nat) : Int) * k) = false := by
        unfold Builtin.Tuple.tupleTooMany
        rw [sizeLine_eq]
        exact decide_eq_false (by omega)
      refine call_meets F.slot_tuple_mul ⟨_, ho, rfl⟩ F.entry_tuple_mul (F.args_tuple_mul_2 _ _) (tuple_mulW l its.toArray n dd sl k t c0 c1' c2' (by omega) c4 (by rw [size_rep, List.size_toArray]; exact flen)) ⟨ho, ?_⟩
      rw [size_rep]
      refine ⟨.ref s.heap.objs.size, _, I.laid (t' := s.toks) (o := .tup (List.replicate k.toNat xs).flatten) (fun b ob q => Heap.get?_push_of_some _ q) (Nat.le_refl _) ?_, rfl, q _ (I.hok.fresh (Nat.le_refl _))⟩
      exact ⟨by rw [PyProof.Rows.lm_len_rep_flat, sizeLine_eq, Nat.mul_comm]; omega, _, r.rep k.toNat, IsTup.new _ _⟩

/-! ### x in t, t.index(x): a tuple of data -/
theorem op_inDT (hu : X.A.units + 65 < cLine) : OpR X (compareOp .In) (fun x y H Q => ∃ d ds, Dp X.K H x d ∧ Dp X.K H y (.tuple ds) ∧ SeqAt.shaped d = true ∧ SeqAt.shaped (.tuple ds) = true ∧ Q (.bl (ds.any fun z => PyData.eqv z d)) H) := by
  intro pins s σ H x y v u Q I rx ry h
  obtain ⟨d, ds, hd, he, sd, se, q⟩ := h
  obtain ⟨as, r1⟩ := Dp.reads I d x v hd rx
  obtain ⟨bs, r2⟩ := Dp.reads I (.tuple ds) y u he ry
  exact SeqAt.in_tuple_reads r2 r1 (SeqAt.canLay_of_shaped se) (SeqAt.canLay_of_shaped sd) (room_in_shaped sd hu) ⟨.bl _, H, I, rfl, q⟩
theorem op_notInDT (hu : X.A.units + 65 < cLine) : OpR X (compareOp .NotIn) (fun x y H Q => ∃ d ds, Dp X.K H x d ∧ Dp X.K H y (.tuple ds) ∧ SeqAt.shaped d = true ∧ SeqAt.shaped (.tuple ds) = true ∧ Q (.bl (!ds.any fun z => PyData.eqv z d)) H) := by
  intro pins s σ H x y v u Q I rx ry h
  obtain ⟨d, ds, hd, he, sd, se, q⟩ := h
  obtain ⟨as, r1⟩ := Dp.reads I d x v hd rx
  obtain ⟨bs, r2⟩ := Dp.reads I (.tuple ds) y u he ry
  exact SeqAt.notIn_tuple_reads r2 r1 (SeqAt.canLay_of_shaped se) (SeqAt.canLay_of_shaped sd) (room_in_shaped sd hu) ⟨.bl _, H, I, rfl, q⟩
theorem mt_tindexD (hu : X.A.units + 65 < cLine) : MtR X "tuple.index" (fun x xs H Q => ∃ (a : Addr) (y : V) (d : PyData) (ds : List PyData) (j : Nat), x = V.ref a ∧ xs = [y] ∧ Dp X.K H (V.ref a) (.tuple ds) ∧ Dp X.K H y d ∧
    SeqAt.shaped (.tuple ds) = true ∧ SeqAt.shaped d = true ∧ ds.findIdx? (fun z => PyData.eqv z d) = some j ∧ Q (.int (j : Nat)) H) := by
  intro pins s σ H x xs v us Q I rx rxs h
  obtain ⟨a, y, d, ds, j, rfl, rfl, hl, hy, sl, sd, hj, q⟩ := h
  cases rx
  cases rxs with
  | cons ry rt =>
    rename_i uy ut
    cases rt
    obtain ⟨bs, r1⟩ := Dp.reads I d y uy hy ry
    obtain ⟨as, r2⟩ := Dp.reads I (.tuple ds) _ _ hl rfl
    have hxs : PyData.canLayAll0 ds = true := SeqAt.canLay_of_shaped sl
    have hroom : X.A.units + 1 + min (PyData.depthAll ds) d.depth < cLine := room_in_shaped sd hu
    cases r2 with
    | @tuple a1 o1 its n ds1 as1 h1 h2 h3 h4 =>
      have hmap : its.toList.map (SeqAt.readOf s.heap) = ds := SeqAt.readsAll_map ds its.toList _ hxs h4
      have eqs := SeqAt.items_eqAt (vs := its) h4 r1 hxs (SeqAt.canLay_of_shaped sd) hroom
      have hj2 : (ds.map fun z => PyData.eqv z d).idxOf true = j ∧ true ∈ ds.map fun z => PyData.eqv z d := by
        obtain ⟨hjl, hjt, hjn⟩ := List.findIdx?_eq_some_iff_getElem.mp hj
        have hm : true ∈ ds.map fun z => PyData.eqv z d := List.mem_map.mpr ⟨ds[j], List.getElem_mem hjl, hjt⟩
        refine ⟨?_, hm⟩
        have e : (ds.map fun z => PyData.eqv z d).idxOf true = ds.findIdx fun z => PyData.eqv z d := by
          unfold List.idxOf
          rw [List.findIdx_map]
          congr 1
          funext z
          show ((PyData.eqv z d) == true) = PyData.eqv z d
          simp
        rw [e]
        exact (List.findIdx?_eq_some_iff_findIdx_eq.mp hj).2
      refine SeqAt.call_tuple_index (vs := its.toList) (ks := ds.map fun z => PyData.eqv z d) (k := true) ⟨o1, h1, h2, n, by simpa using h3⟩ ⟨by rw [← hmap]; simp, fun i hi1 hi2 => ?_⟩ hj2.2 ?_
      · have e1 := eqs its.toList[i] (by simp)
        have e2 : (ds.map fun z => PyData.eqv z d)[i] = PyData.eqv (SeqAt.readOf s.heap its.toList[i]) d := by
          simp only [List.getElem_map, ← hmap]
        rw [e2]
        simpa using e1
      · rw [hj2.1]
        exact ⟨.int (j : Nat), H, I.tok _, ⟨_, rfl⟩, q⟩
end
end MS

set_option Elab.async false
set_option linter.all false
set_option maxRecDepth 100000
set_option maxHeartbeats 4000000
/-! MS1: MI's data over the abstract heap. -/
namespace MS
open PySem PySem.Spec PyProof.Rows L2 MI

abbrev sD (s : List Nat) : Str := ⟨s.toArray⟩
theorem sD_inj {s t : List Nat} (h : sD s = sD t) : s = t := by
  have h1 : s.toArray = t.toArray := congrArg Str.cps h
  simpa using h1
theorem sD_eq {s t : List Nat} : sD s = sD t ↔ s = t := ⟨sD_inj, fun h => by rw [h]⟩

/-- a list that is read alone -/
def FrL (K : PySem.W.Frag) (H : Hp) (a : Addr) (vs : List V) : Prop :=
  (∃ o, H a = some (.frz o (.lst vs))) ∨
    ∃ (o : Obj) (its : Array Value) (n : Nat), K.lookup a = some o ∧ o.cls = .type "list" ∧ o.dict = none ∧ o.data = .seq its n ∧ its.size ≤ sizeLine ∧ Vals vs its.toList
theorem FrL.seq {K : PySem.W.Frag} {H : Hp} {a : Addr} {vs : List V} (h : FrL K H a vs) : SqL K H a vs := by
  rcases h with ⟨o, h⟩ | h
  · exact .inl (.inr ⟨o, h⟩)
  · exact .inr h

/-- a tuple whose object is known to have no dict -/
def XT (H : Hp) (a : Addr) (vs : List V) : Prop := ∃ o : Obj, H a = some (.frz o (.tup vs)) ∧ o.cls = .type "tuple" ∧ o.dict = none
theorem XT.seq {K : PySem.W.Frag} {H : Hp} {a : Addr} {vs : List V} (h : XT H a vs) : SqT K H a vs := by
  obtain ⟨o, h, _⟩ := h
  exact .inl (.inr ⟨o, h⟩)

mutual
inductive Rv (K : PySem.W.Frag) (H : Hp) (ρ : List Addr) : V → D → Prop
  | non : Rv K H ρ .non .non
  | bl (b : Bool) : Rv K H ρ (.bl b) (.bl b)
  | int (i : Int) : Rv K H ρ (.int i) (.int i)
  | str (s : List Nat) : Rv K H ρ (.str (sD s)) (.str s)
  | tup {a : Addr} {vs : List V} {ds : List D} : SqT K H a vs → RvL K H ρ vs ds → Rv K H ρ (.ref a) (.tup ds)
  | frz {a : Addr} {vs : List V} {ds : List D} : FrL K H a vs → RvL K H ρ vs ds → Rv K H ρ (.ref a) (.frz ds)
  | xtup {a : Addr} {vs : List V} {ds : List D} : XT H a vs → RvL K H ρ vs ds → Rv K H ρ (.ref a) (.xtup ds)
  | loc {a : Addr} {n : Nat} : ρ[n]? = some a → Rv K H ρ (.ref a) (.loc n)
inductive RvL (K : PySem.W.Frag) (H : Hp) (ρ : List Addr) : List V → List D → Prop
  | nil : RvL K H ρ [] []
  | cons {v : V} {vs : List V} {d : D} {ds : List D} : Rv K H ρ v d → RvL K H ρ vs ds → RvL K H ρ (v :: vs) (d :: ds)
end
inductive RvF (K : PySem.W.Frag) (H : Hp) (ρ : List Addr) : List (Str × V) → List (List Nat × D) → Prop
  | nil : RvF K H ρ [] []
  | cons {f : List Nat} {v : V} {vs : List (Str × V)} {d : D} {ds : List (List Nat × D)} : Rv K H ρ v d → RvF K H ρ vs ds → RvF K H ρ ((sD f, v) :: vs) ((f, d) :: ds)
inductive RvE (K : PySem.W.Frag) (H : Hp) (ρ : List Addr) : L2.St → MI.Env → Prop
  | nil : RvE K H ρ [] []
  | hole {σ : L2.St} {env : MI.Env} {o : Option V} : RvE K H ρ σ env → RvE K H ρ (o :: σ) (none :: env)
  | val {v : V} {σ : L2.St} {d : D} {env : MI.Env} : Rv K H ρ v d → RvE K H ρ σ env → RvE K H ρ (some v :: σ) (some d :: env)

/-- what stands at a mutable object's address -/
inductive Ro (K : PySem.W.Frag) (cl : Nat → Addr) (H : Hp) (ρ : List Addr) : Addr → Ob → Prop
  | lst {a : Addr} {vs : List V} {ds : List D} : H a = some (.lst vs) → RvL K H ρ vs ds → Ro K cl H ρ a (.lst ds)
  | ins {a dx : Addr} {c : Nat} {vfs : List (Str × V)} {fs : List (List Nat × D)} : H a = some (.ins (cl c) dx vfs) → RvF K H ρ vfs fs → Cls K (cl c) → (∀ p ∈ fs, NoAttr K (cl c) (sD p.1)) → Ro K cl H ρ a (.ins c fs)

structure At (K : PySem.W.Frag) (cl : Nat → Addr) (ρ : List Addr) (H : Hp) (st : Stt) : Prop where
  len : ρ.length = st.length
  nd : ρ.Nodup
  obj : ∀ (n : Nat) a o, ρ[n]? = some a → st[n]? = some o → Ro K cl H ρ a o
/-- behind some steps: more objects, all that is not ours kept -/
structure Grow (ρ : List Addr) (H : Hp) (ρ' : List Addr) (H' : Hp) : Prop where
  ext : ∃ e, ρ' = ρ ++ e
  new : ∀ a ∈ ρ', a ∈ ρ ∨ H a = none
  frame : ∀ a o, H a = some o → a ∉ ρ → H' a = some o

section
variable {K : PySem.W.Frag} {cl : Nat → Addr} {ρ ρ' ρ1 ρ2 : List Addr} {H H' H1 H2 : Hp} {st st' : Stt} {a p : Addr}
theorem Grow.refl : Grow ρ H ρ H := ⟨⟨[], by simp⟩, fun _ h => .inl h, fun _ _ h _ => h⟩
theorem Grow.trans (g : Grow ρ H ρ1 H1) (h : Grow ρ1 H1 ρ2 H2) : Grow ρ H ρ2 H2 := by
  obtain ⟨e, he⟩ := g.ext
  obtain ⟨f, hf⟩ := h.ext
  have nin : ∀ a o, H a = some o → a ∉ ρ → a ∉ ρ1 := fun a o ha hn hm => by
    rcases g.new a hm with q | q
    · exact hn q
    · rw [q] at ha; cases ha
  refine ⟨⟨e ++ f, by rw [hf, he, List.append_assoc]⟩, fun a ha => ?_, fun a o ha hn => h.frame a o (g.frame a o ha hn) (nin a o ha hn)⟩
  rcases h.new a ha with q | q
  · exact g.new a q
  · by_cases hr : a ∈ ρ
    · exact .inl hr
    · cases e : H a with
      | none => exact .inr rfl
      | some o =>
        have := g.frame a o e hr
        rw [q] at this; cases this
theorem At.mem (A : At K cl ρ H st) (h : a ∈ ρ) : ∃ (n : Nat) (o : Ob), ρ[n]? = some a ∧ st[n]? = some o ∧ Ro K cl H ρ a o := by
  obtain ⟨n, hn, e⟩ := List.getElem_of_mem h
  have e1 : ρ[n]? = some a := by rw [List.getElem?_eq_getElem hn, e]
  have hn' : n < st.length := by rw [← A.len]; exact hn
  have e2 : st[n]? = some st[n] := List.getElem?_eq_getElem hn'
  exact ⟨n, _, e1, e2, A.obj n a _ e1 e2⟩
theorem Ro.mut {o : Ob} (h : Ro K cl H ρ a o) : (∃ vs, H a = some (.lst vs)) ∨ ∃ c dx vfs, H a = some (.ins (cl c) dx vfs) := by
  cases h with
  | lst h _ => exact .inl ⟨_, h⟩
  | ins h _ _ _ => exact .inr ⟨_, _, _, h⟩
theorem At.notTup (A : At K cl ρ H st) (h : a ∈ ρ) {vs : List V} : H a ≠ some (.tup vs) := fun e => by
  obtain ⟨_, _, _, _, r⟩ := A.mem h
  rcases r.mut with ⟨_, q⟩ | ⟨_, _, _, q⟩ <;> (rw [q] at e; cases e)
theorem At.notFrz (A : At K cl ρ H st) (h : a ∈ ρ) {ob : Obj} {u : HO} : H a ≠ some (.frz ob u) := fun e => by
  obtain ⟨_, _, _, _, r⟩ := A.mem h
  rcases r.mut with ⟨_, q⟩ | ⟨_, _, _, q⟩ <;> (rw [q] at e; cases e)
theorem At.there (A : At K cl ρ H st) (h : a ∈ ρ) : H a ≠ none := fun e => by
  obtain ⟨_, _, _, _, r⟩ := A.mem h
  rcases r.mut with ⟨_, q⟩ | ⟨_, _, _, q⟩ <;> (rw [q] at e; cases e)
/-- tuples and what is locked are kept -/
structure Keep (K : PySem.W.Frag) (H H' : Hp) : Prop where
  t : ∀ b vs, SqT K H b vs → SqT K H' b vs
  f : ∀ b vs, FrL K H b vs → FrL K H' b vs
  x : ∀ b vs, XT H b vs → XT H' b vs
theorem At.keep (A : At K cl ρ H st) (g : Grow ρ H ρ' H') : Keep K H H' where
  t := fun b vs h => by
    rcases h with (h | ⟨o, h⟩) | h
    · exact .inl (.inl (g.frame _ _ h fun m => A.notTup m h))
    · exact .inl (.inr ⟨o, g.frame _ _ h fun m => A.notFrz m h⟩)
    · exact .inr h
  f := fun b vs h => by
    rcases h with ⟨o, h⟩ | h
    · exact .inl ⟨o, g.frame _ _ h fun m => A.notFrz m h⟩
    · exact .inr h
  x := fun b vs ⟨o, h, q⟩ => ⟨o, g.frame _ _ h fun m => A.notFrz m h, q⟩
theorem getElem?_app {α : Type} {l e : List α} {n : Nat} {x : α} (h : l[n]? = some x) : (l ++ e)[n]? = some x := by
  obtain ⟨hl, he⟩ := List.getElem?_eq_some_iff.mp h
  rw [List.getElem?_append_left hl]; exact h
mutual
theorem Rv.keep (k : Keep K H H') (e : List Addr) : ∀ {v : V} {d : D}, Rv K H ρ v d → Rv K H' (ρ ++ e) v d
  | _, _, .non => .non
  | _, _, .bl b => .bl b
  | _, _, .int i => .int i
  | _, _, .str s => .str s
  | _, _, .tup h r => .tup (k.t _ _ h) (RvL.keep k e r)
  | _, _, .frz h r => .frz (k.f _ _ h) (RvL.keep k e r)
  | _, _, .xtup h r => .xtup (k.x _ _ h) (RvL.keep k e r)
  | _, _, .loc h => .loc (getElem?_app h)
theorem RvL.keep (k : Keep K H H') (e : List Addr) : ∀ {vs : List V} {ds : List D}, RvL K H ρ vs ds → RvL K H' (ρ ++ e) vs ds
  | _, _, .nil => .nil
  | _, _, .cons h r => .cons (Rv.keep k e h) (RvL.keep k e r)
end
theorem RvF.keep (k : Keep K H H') (e : List Addr) : ∀ {vs : List (Str × V)} {ds : List (List Nat × D)}, RvF K H ρ vs ds → RvF K H' (ρ ++ e) vs ds
  | _, _, .nil => .nil
  | _, _, .cons h r => .cons (h.keep k e) (RvF.keep k e r)
theorem RvE.keep (k : Keep K H H') (e : List Addr) : ∀ {σ : L2.St} {env : MI.Env}, RvE K H ρ σ env → RvE K H' (ρ ++ e) σ env
  | _, _, .nil => .nil
  | _, _, .hole r => .hole (RvE.keep k e r)
  | _, _, .val h r => .val (h.keep k e) (RvE.keep k e r)
theorem Rv.grow {v : V} {d : D} (A : At K cl ρ H st) (g : Grow ρ H ρ' H') (h : Rv K H ρ v d) : Rv K H' ρ' v d := by
  obtain ⟨e, rfl⟩ := g.ext; exact h.keep (A.keep g) e
theorem RvL.grow {v : List V} {d : List D} (A : At K cl ρ H st) (g : Grow ρ H ρ' H') (h : RvL K H ρ v d) : RvL K H' ρ' v d := by
  obtain ⟨e, rfl⟩ := g.ext; exact h.keep (A.keep g) e
theorem RvF.grow {v : List (Str × V)} {d : List (List Nat × D)} (A : At K cl ρ H st) (g : Grow ρ H ρ' H') (h : RvF K H ρ v d) : RvF K H' ρ' v d := by
  obtain ⟨e, rfl⟩ := g.ext; exact h.keep (A.keep g) e
theorem RvE.grow {v : L2.St} {d : MI.Env} (A : At K cl ρ H st) (g : Grow ρ H ρ' H') (h : RvE K H ρ v d) : RvE K H' ρ' v d := by
  obtain ⟨e, rfl⟩ := g.ext; exact h.keep (A.keep g) e

/-! ### lists that go together -/
theorem RvL.length : ∀ {vs : List V} {ds : List D}, RvL K H ρ vs ds → vs.length = ds.length
  | _, _, .nil => rfl
  | _, _, .cons _ r => by simp [RvL.length r]
theorem RvL.get : ∀ {vs : List V} {ds : List D} {i : Nat} {d : D}, RvL K H ρ vs ds → ds[i]? = some d → ∃ v, vs[i]? = some v ∧ Rv K H ρ v d
  | _, _, _, _, .nil, h => by simp at h
  | _, _, 0, _, .cons h _, q => by simp at q; subst q; exact ⟨_, rfl, h⟩
  | _, _, i + 1, _, .cons _ r, q => by
    obtain ⟨v, h1, h2⟩ := RvL.get (i := i) r (by simpa using q)
    exact ⟨v, by simpa using h1, h2⟩
theorem RvL.append : ∀ {vs ws : List V} {ds es : List D}, RvL K H ρ vs ds → RvL K H ρ ws es → RvL K H ρ (vs ++ ws) (ds ++ es)
  | _, _, _, _, .nil, s => s
  | _, _, _, _, .cons h r, s => .cons h (RvL.append r s)
theorem RvL.take (n : Nat) : ∀ {vs : List V} {ds : List D}, RvL K H ρ vs ds → RvL K H ρ (vs.take n) (ds.take n) := by
  induction n with
  | zero => intro vs ds _; simp; exact .nil
  | succ n ih =>
    intro vs ds h
    cases h with
    | nil => simp; exact .nil
    | cons h r => simp; exact .cons h (ih r)
theorem RvL.drop (n : Nat) : ∀ {vs : List V} {ds : List D}, RvL K H ρ vs ds → RvL K H ρ (vs.drop n) (ds.drop n) := by
  induction n with
  | zero => intro vs ds h; simpa using h
  | succ n ih =>
    intro vs ds h
    cases h with
    | nil => simp; exact .nil
    | cons h r => simp; exact ih r
theorem RvL.set {v : V} {d : D} (h : Rv K H ρ v d) : ∀ (i : Nat) {vs : List V} {ds : List D}, RvL K H ρ vs ds → RvL K H ρ (vs.set i v) (ds.set i d)
  | _, _, _, .nil => .nil
  | 0, _, _, .cons _ r => .cons h r
  | i + 1, _, _, .cons q r => .cons q (RvL.set h i r)
theorem RvE.length : ∀ {σ : L2.St} {env : MI.Env}, RvE K H ρ σ env → σ.length = env.length
  | _, _, .nil => rfl
  | _, _, .hole r => by simp [RvE.length r]
  | _, _, .val _ r => by simp [RvE.length r]
theorem RvE.get : ∀ {σ : L2.St} {env : MI.Env} {i : Nat} {d : D}, RvE K H ρ σ env → env[i]? = some (some d) → ∃ v, σ[i]? = some (some v) ∧ Rv K H ρ v d
  | _, _, _, _, .nil, h => by simp at h
  | _, _, 0, _, .hole _, q => by simp at q
  | _, _, 0, _, .val h _, q => by simp at q; subst q; exact ⟨_, rfl, h⟩
  | _, _, i + 1, _, .hole r, q => by
    obtain ⟨v, h1, h2⟩ := RvE.get (i := i) r (by simpa using q)
    exact ⟨v, by simpa using h1, h2⟩
  | _, _, i + 1, _, .val _ r, q => by
    obtain ⟨v, h1, h2⟩ := RvE.get (i := i) r (by simpa using q)
    exact ⟨v, by simpa using h1, h2⟩
theorem RvE.set {v : V} {d : D} (h : Rv K H ρ v d) : ∀ (i : Nat) {σ : L2.St} {env : MI.Env}, RvE K H ρ σ env → RvE K H ρ (σ.set i (some v)) (env.set i (some d))
  | _, _, _, .nil => .nil
  | 0, _, _, .hole r => .val h r
  | 0, _, _, .val _ r => .val h r
  | i + 1, _, _, .hole r => .hole (RvE.set h i r)
  | i + 1, _, _, .val q r => .val q (RvE.set h i r)
theorem RvE.unset : ∀ (i : Nat) {σ : L2.St} {env : MI.Env}, RvE K H ρ σ env → RvE K H ρ (σ.set i none) (env.set i none)
  | _, _, _, .nil => .nil
  | 0, _, _, .hole r => .hole r
  | 0, _, _, .val _ r => .hole r
  | i + 1, _, _, .hole r => .hole (RvE.unset i r)
  | i + 1, _, _, .val q r => .val q (RvE.unset i r)
theorem RvE.wipe : ∀ (own : List Nat) {σ : L2.St} {env : MI.Env}, RvE K H ρ σ env → RvE K H ρ (L2.wipe σ own) (wipeE env own)
  | [], _, _, h => h
  | v :: vs, _, _, h => RvE.unset v (RvE.wipe vs h)
theorem RvF.look {f : List Nat} {vs : List (Str × V)} {ds : List (List Nat × D)} (h : RvF K H ρ vs ds) : (MI.getD ds f = none ∧ vs.lookup (sD f) = none) ∨ ∃ d v, MI.getD ds f = some d ∧ vs.lookup (sD f) = some v ∧ Rv K H ρ v d := by
  induction h with
  | nil => exact .inl ⟨rfl, rfl⟩
  | @cons g v vs d ds h r ih =>
    by_cases e : g = f
    · subst e
      exact .inr ⟨d, v, by simp [MI.getD], by simp [List.lookup], h⟩
    · have ne : ¬ sD f = sD g := fun q => e (sD_inj q).symm
      have e1 : MI.getD ((g, d) :: ds) f = MI.getD ds f := by unfold MI.getD; rw [List.find?_cons_of_neg (by simpa using e)]
      have e2 : List.lookup (sD f) ((sD g, v) :: vs) = List.lookup (sD f) vs := by
        have q : (sD f == sD g) = false := beq_eq_false_iff_ne.mpr ne
        show (match (sD f == sD g) with | true => some v | false => List.lookup (sD f) vs) = List.lookup (sD f) vs
        rw [q]
      rw [e1, e2]; exact ih
theorem RvF.put {f : List Nat} {v : V} {d : D} (h : Rv K H ρ v d) : ∀ {vs : List (Str × V)} {ds : List (List Nat × D)}, RvF K H ρ vs ds → RvF K H ρ (L2.putF (sD f) v vs) (putD ds f d)
  | _, _, .nil => .cons h .nil
  | _, _, .cons (f := g) (v := w) (d := e) q r => by
    unfold L2.putF putD
    by_cases e : g = f
    · subst e; simp; exact .cons h r
    · have ne : ¬ sD g = sD f := fun q => e (sD_inj q)
      simp only [e, ne, if_false]; exact .cons q (RvF.put h r)
theorem RvF.length : ∀ {vs : List (Str × V)} {ds : List (List Nat × D)}, RvF K H ρ vs ds → vs.length = ds.length
  | _, _, .nil => rfl
  | _, _, .cons _ r => by simp [RvF.length r]
theorem Ro.keep (k : Keep K H H') (e : List Addr) {o : Ob} (h : Ro K cl H ρ a o) (q : H' a = H a) : Ro K cl H' (ρ ++ e) a o := by
  cases h with
  | lst h r => exact .lst (q.trans h) (r.keep k e)
  | ins h r c n => exact .ins (q.trans h) (r.keep k e) c n

/-! ### steps -/
/-- a new object that is no object of ours (a tuple, an iterator) -/
theorem At.side (A : At K cl ρ H st) {o : HO} (n : H p = none) : At K cl ρ (upd H p o) st ∧ Grow ρ H ρ (upd H p o) := by
  have g : Grow ρ H ρ (upd H p o) := ⟨⟨[], by simp⟩, fun _ h => .inl h, fun a u h _ => by rw [upd_ne (ne_of_none h n)]; exact h⟩
  refine ⟨⟨A.len, A.nd, fun i a u h1 h2 => ?_⟩, g⟩
  have hne : a ≠ p := fun e => A.there (List.mem_of_getElem? h1) (by rw [e]; exact n)
  have := (A.obj i a u h1 h2).keep (A.keep g) [] (upd_ne hne)
  simpa using this
/-- a new object of ours -/
theorem At.push (A : At K cl ρ H st) {o : HO} {ob : Ob} (n : H p = none) (r : Ro K cl (upd H p o) (ρ ++ [p]) p ob) : At K cl (ρ ++ [p]) (upd H p o) (st ++ [ob]) ∧ Grow ρ H (ρ ++ [p]) (upd H p o) := by
  have np : p ∉ ρ := fun h => A.there h n
  have g : Grow ρ H (ρ ++ [p]) (upd H p o) := ⟨⟨[p], rfl⟩, fun a h => by
    rcases List.mem_append.mp h with h | h
    · exact .inl h
    · have : a = p := by simpa using h
      subst this; exact .inr n, fun a u h _ => by rw [upd_ne (ne_of_none h n)]; exact h⟩
  refine ⟨⟨by simp [A.len], ?_, fun i a u h1 h2 => ?_⟩, g⟩
  · rw [List.nodup_append]
    refine ⟨A.nd, by simp, fun a ha b hb => ?_⟩
    have : b = p := by simpa using hb
    subst this; exact fun e => np (e ▸ ha)
  · by_cases hi : i < ρ.length
    · rw [List.getElem?_append_left hi] at h1
      rw [List.getElem?_append_left (by rw [← A.len]; exact hi)] at h2
      have hne : a ≠ p := fun e => A.there (List.mem_of_getElem? h1) (by rw [e]; exact n)
      exact (A.obj i a u h1 h2).keep (A.keep g) [p] (upd_ne hne)
    · have hi' : i = ρ.length := by
        have := (List.getElem?_eq_some_iff.mp h1).1
        simp at this; omega
      subst hi'
      simp at h1
      rw [A.len] at h2; simp at h2
      subst h1 h2; exact r
/-- an object of ours is changed -/
theorem At.put (A : At K cl ρ H st) {n : Nat} {o : HO} {ob : Ob} (h : ρ[n]? = some a) (r : Keep K H (upd H a o) → Ro K cl (upd H a o) ρ a ob) : At K cl ρ (upd H a o) (st.set n ob) ∧ Grow ρ H ρ (upd H a o) := by
  have ha : a ∈ ρ := List.mem_of_getElem? h
  have g : Grow ρ H ρ (upd H a o) := ⟨⟨[], by simp⟩, fun _ h => .inl h, fun b u q hn => by rw [upd_ne fun e => hn (by rw [e]; exact ha)]; exact q⟩
  refine ⟨⟨by simp [A.len], A.nd, fun i b u h1 h2 => ?_⟩, g⟩
  by_cases hi : i = n
  · subst hi
    rw [h] at h1; cases h1
    have hl : i < st.length := by rw [← A.len]; exact (List.getElem?_eq_some_iff.mp h).1
    rw [List.getElem?_set_self hl] at h2; cases h2
    exact r (A.keep g)
  · rw [List.getElem?_set_ne (Ne.symm hi)] at h2
    have hne : b ≠ a := fun e => by
      subst e
      obtain ⟨l1, e1⟩ := List.getElem?_eq_some_iff.mp h
      obtain ⟨l2, e2⟩ := List.getElem?_eq_some_iff.mp h1
      exact hi ((List.getElem_inj A.nd).mp (e2.trans e1.symm))
    have := (A.obj i b u h1 h2).keep (A.keep g) [] (upd_ne hne)
    simpa using this
theorem At.get (A : At K cl ρ H st) {n : Nat} {o : Ob} (h : ρ[n]? = some a) (q : st[n]? = some o) : Ro K cl H ρ a o := A.obj n a o h q
end
end MS

set_option Elab.async false
set_option linter.all false
set_option maxRecDepth 100000
set_option maxHeartbeats 4000000
/-! MSR2: t[a:b:2] of a tuple. -/
namespace MS
open PySem PySem.Spec PyProof.Rows L2

theorem everyOther_range {α : Type} : ∀ l : List α, MI.everyOther l = (List.range ((l.length + 1) / 2)).filterMap fun (m : Nat) => l[2 * m]?
  | [] => by simp [MI.everyOther]
  | [x] => by simp [MI.everyOther, List.range_succ_eq_map]
  | x :: y :: r => by
    have ih := everyOther_range r
    have e : ((x :: y :: r).length + 1) / 2 = (r.length + 1) / 2 + 1 := by simp only [List.length_cons]; omega
    rw [e, List.range_succ_eq_map, List.filterMap_cons, List.filterMap_map]
    show x :: MI.everyOther r = x :: _
    rw [ih]
    congr 1
theorem adjust2 (lo hi : Option Int) (n : Nat) : Builtin.Slice.sliceAdjust lo hi 2 (n : Int) = (((HT.sIx n 0 lo : Nat) : Int), ((HT.sIx n n hi : Nat) : Int)) := by
  have h1 : ¬ ((2 : Int) < 0) := by omega
  unfold Builtin.Slice.sliceAdjust
  simp only [h1, if_false]
  refine Prod.ext ?_ ?_
  · cases lo with
    | none => rfl
    | some v => exact HT.clip_eq v n 0
  · cases hi with
    | none => rfl
    | some v => exact HT.clip_eq v n n
theorem places2 (i j : Nat) : Builtin.Slice.slicePlaces (i : Int) (j : Int) 2 = (j - i + 1) / 2 := by
  unfold Builtin.Slice.slicePlaces
  have h1 : (2 : Int) > 0 := by omega
  simp only [h1, if_true]
  split <;> omega
section
variable {prog : Program} {w : World} {A : Around} {E : Value → Shared → Prop} {s : Shared}
theorem sliceApplied2 {sl : Addr} {vl vu vt : Value} {lo hi : Option Int} {n : Nat} {Q : Int × Int × Nat → Shared → Prop} (hs : s.heap.IsSliceOf sl vl vu vt) (pl : IsPart vl lo) (pu : IsPart vu hi) (pt : IsPart vt (some 2))
    (h : Q (((HT.sIx n 0 lo : Nat) : Int), 2, (HT.sIx n n hi - HT.sIx n 0 lo + 1) / 2) s) : wpAny (model prog w) A (Builtin.Slice.sliceApplied (.ref sl) (pure (n : Int))) Q E s := by
  obtain ⟨os, hos, hcs, hds⟩ := id hs
  unfold Builtin.Slice.sliceApplied Builtin.Slice.sliceFields
  refine wpAny_bind (wpAny_bind (wpAny_field hos hds (x := vl) rfl (wpAny_bind (wpAny_field hos hds (x := vu) rfl (wpAny_bind (wpAny_field hos hds (x := vt) rfl (wpAny_pure ?_)))))))
  refine wpAny_bind (HT.slicePart_ pt ?_)
  show wpAny _ _ (if ((2 : Int) == 0) = true then _ else _) _ _ s
  rw [if_neg (by decide)]
  refine wpAny_bind (HT.slicePart_ pl (wpAny_bind (HT.slicePart_ pu (wpAny_bind (wpAny_pure ?_)))))
  show wpAny _ _ (match Builtin.Slice.sliceAdjust lo hi 2 (n : Int) with | (lo, hi) => pure (lo, (2 : Int), Builtin.Slice.slicePlaces lo hi 2)) _ _ s
  rw [adjust2 lo hi n]
  show wpAny _ _ (pure (((HT.sIx n 0 lo : Nat) : Int), (2 : Int), Builtin.Slice.slicePlaces ((HT.sIx n 0 lo : Nat) : Int) ((HT.sIx n n hi : Nat) : Int) 2)) _ _ s
  rw [places2]
  exact wpAny_pure h
theorem pick2 (xs : Array Value) (i j : Nat) (hj : j ≤ xs.size) : ((List.range ((j - i + 1) / 2)).filterMap fun (m : Nat) => xs[((i : Int) + (m : Int) * 2).toNat]?).toArray = (MI.everyOther ((xs.toList.drop i).take (j - i))).toArray := by
  congr 1
  rw [everyOther_range]
  have hl : ((xs.toList.drop i).take (j - i)).length = j - i := by rw [List.length_take, List.length_drop, Array.length_toList]; omega
  rw [hl]
  have gen : ∀ (l : List Nat), (∀ m ∈ l, m < (j - i + 1) / 2) → l.filterMap (fun (m : Nat) => xs[((i : Int) + (m : Int) * 2).toNat]?) = l.filterMap fun (m : Nat) => ((xs.toList.drop i).take (j - i))[2 * m]? := by
    intro l
    induction l with
    | nil => intro _; rfl
    | cons m r ih =>
      intro h
      have e : xs[((i : Int) + (m : Int) * 2).toNat]? = ((xs.toList.drop i).take (j - i))[2 * m]? := by
        have hm := h m List.mem_cons_self
        have q : ((i : Int) + (m : Int) * 2).toNat = i + 2 * m := by omega
        rw [q, List.getElem?_take_of_lt (by omega), List.getElem?_drop, Array.getElem?_toList]
      rw [List.filterMap_cons, List.filterMap_cons, e, ih fun m' h' => h m' (List.mem_cons_of_mem _ h')]
  exact gen _ fun m hm => List.mem_range.mp hm
theorem everyOther_length {α : Type} : ∀ l : List α, (MI.everyOther l).length ≤ l.length
  | [] => Nat.le_refl _
  | [_] => Nat.le_refl _
  | _ :: _ :: r => by
    have := everyOther_length r
    show (MI.everyOther r).length + 1 ≤ r.length + 1 + 1
    omega
theorem getItem_tuple2 {t sl : Addr} {items : Array Value} {vl vu vt : Value} {lo hi : Option Int} {Q : Value → Shared → Prop} (ht : IsTup s.heap t items) (hs : s.heap.IsSliceOf sl vl vu vt) (pl : IsPart vl lo) (pu : IsPart vu hi) (pt : IsPart vt (some 2))
    (h : Q (.ref s.heap.objs.size) { s with heap := s.heap.push { cls := .type "tuple", data := .seq (MI.everyOther ((items.toList.drop (HT.sIx items.size 0 lo)).take (HT.sIx items.size items.size hi - HT.sIx items.size 0 lo))).toArray } })
    (hsz : items.size ≤ sizeLine) : wpAny (model prog w) A (getItem (.ref t) (.ref sl)) Q E s := by
  have hj : HT.sIx items.size items.size hi ≤ items.size := HT.sIx_le _ _ (Nat.le_refl _) hi
  have htake : sizeOk (.seq (MI.everyOther ((items.toList.drop (HT.sIx items.size 0 lo)).take (HT.sIx items.size items.size hi - HT.sIx items.size 0 lo))).toArray) := by
    show (MI.everyOther ((items.toList.drop (HT.sIx items.size 0 lo)).take (HT.sIx items.size items.size hi - HT.sIx items.size 0 lo))).toArray.size ≤ sizeLine
    rw [List.size_toArray]
    refine Nat.le_trans (everyOther_length _) ?_
    rw [List.length_take, List.length_drop, Array.length_toList]
    omega
  obtain ⟨os, hos, hcs, hds⟩ := id hs
  have hTs : s.TypeIs (.ref sl) "slice" := ⟨os, hos, hcs⟩
  unfold getItem
  try with_reducible refine wpAny_holding ?_
  first | refine wpAny_bind (wpAny_pure ?_) | skip
  refine wpAny_bind (wpAny_sequenceKey ht.typeIs (by decide) ?_)
  refine wpAny_bind (wpAny_callSpecial?_slot (name := Str.ofString "__getitem__") ht.typeIs PyProof.Rows.slot_tuple_getitem
    (wpAny_call_entry PyProof.Rows.slot_tuple_getitem ht.typeIs entry_tuple_getitem ?_ (args_tuple_getitem _ _)))
  show wpAny _ _ (Builtin.Tuple.tupleItemsOf (.ref t) >>= _) _ _ s
  refine wpAny_bind (tupleItemsOf_ ht ?_)
  refine wpAny_bind (wpAny_typeOf hTs ?_)
  rw [if_pos (by decide)]
  refine wpAny_bind (sliceApplied2 hs pl pu pt ?_)
  have hno : ¬ ((((HT.sIx items.size 0 lo : Nat) : Int) == 0 && (2 : Int) == 1 && ((HT.sIx items.size items.size hi - HT.sIx items.size 0 lo + 1) / 2) == items.size) = true) := by
    intro q
    rw [Bool.and_eq_true, Bool.and_eq_true] at q
    have q1 : ((2 : Int) == 1) = true := q.1.2
    exact absurd q1 (by decide)
  show wpAny _ _ (if (((HT.sIx items.size 0 lo : Nat) : Int) == 0 && (2 : Int) == 1 && ((HT.sIx items.size items.size hi - HT.sIx items.size 0 lo + 1) / 2) == items.size) = true then _ else _) _ _ s
  rw [if_neg hno, pick2 _ _ _ hj]
  first
    | exact wpAny_bind (m := Builtin.Tuple.tupleExact _) (wpAny_newObj_type (wpAny_pure ⟨_, rfl, wpAny_pure h⟩) htake)
    | exact wpAny_bind (m := Builtin.Tuple.tupleExact _) (wpAny_newObj_type (wpAny_bind (wpAny_pure (wpAny_pure ⟨_, rfl, wpAny_pure h⟩))) htake)
    | exact wpAny_bind (wpAny_bind (m := Builtin.Tuple.tupleExact _) (wpAny_newObj_type (wpAny_pure (wpAny_pure ⟨_, rfl, wpAny_pure h⟩)) htake))
    | exact wpAny_bind (wpAny_bind (m := Builtin.Tuple.tupleExact _) (wpAny_newObj_type (wpAny_pure ⟨_, rfl, wpAny_pure h⟩) htake))
end
theorem Vals.everyOther : ∀ {xs : List V} {us : List Value}, Vals xs us → Vals (MI.everyOther xs) (MI.everyOther us)
  | _, _, .nil => .nil
  | _, _, .cons r .nil => .cons r .nil
  | _, _, .cons r (.cons _ t) => .cons r (Vals.everyOther t)
section
variable {X : Cx} {e : Expr} {te : TE} {lo hi : Option Expr} {tl th : TO} {p2 p3 pos : Pos}
def rSl2 (K : PySem.W.Frag) : V → Option Int → Option Int → Hp → VK → Prop := fun x lo hi H Q => ∃ a xs, x = .ref a ∧ SqT K H a xs ∧ ∀ p, H p = none → Q (.ref p) (upd H p (.tup (MI.everyOther (cutV xs lo hi))))
theorem pe_slice2 {j : Nat} (he : PE X e te) (hl : PO X lo tl) (hu : PO X hi th) : PE X (.Subscript e (.Slice lo hi (some (.Constant (.int 2) j p3)) p2) pos) (tSl (rSl2 X.K) te tl th) := by
  refine ⟨fun pins s σ H Q I h => ?_⟩
  refine Subscript_ (thn (he.run pins s σ H _ I h) fun v s1 ⟨x, H1, I1, r1, q1⟩ => ?_)
  refine wpAny_Slice (thn (hl.run pins s1 σ H1 _ I1 q1) fun vl s2 ⟨l, H2, I2, pl, q2⟩ => thn (hu.run pins s2 σ H2 _ I2 q2) fun vu s3 ⟨u, H3, I3, pu, q3⟩ => ?_)
  rw [evalPart_some]
  refine wpAny_Constant_int ?_
  have I4 : Inv X pins σ H3 { s3 with heap := s3.heap.push { cls := .type "slice", data := .fields #[vl, vu, .int 2 s3.toks] }, toks := s3.toks + 1 } := I3.kept (t' := s3.toks + 1) fun b ob q => Heap.get?_push_of_some _ q
  obtain ⟨a, xs, rfl, hx, q⟩ := q3
  cases r1
  obtain ⟨its, r, ht, hz⟩ := I4.tuple hx
  show wpAny (model X.prog X.w) X.A (subscriptTail e (.Slice lo hi (some (.Constant (.int 2) j p3)) p2) (.ref a) (.ref s3.heap.objs.size)) (EP X pins σ Q) X.xe { s3 with heap := s3.heap.push { cls := .type "slice", data := .fields #[vl, vu, .int 2 s3.toks] }, toks := s3.toks + 1 }
  have hsz : its.toArray.size = xs.length := by rw [List.size_toArray]; exact r.length.symm
  refine tail_any (ops := [.ref a, .ref s3.heap.objs.size]) ht.typeIs PyProof.Rows.slot_tuple_getitem.lookup (getItem_tuple2 (vt := .int 2 s3.toks) ht (Heap.IsSliceOf.new ..) pl pu (.int 2 _) ?_ (by rw [hsz]; exact hz)) (by with_unfolding_all rfl)
  have e1 : Vals (MI.everyOther (cutV xs l u)) (MI.everyOther ((its.drop (HT.sIx its.toArray.size 0 l)).take (HT.sIx its.toArray.size its.toArray.size u - HT.sIx its.toArray.size 0 l))) := by
    rw [hsz]
    unfold cutV
    exact Vals.everyOther ((r.drop _).take _)
  refine ⟨.ref _, _, I4.laid (t' := s3.toks + 1) (o := .tup (MI.everyOther (cutV xs l u))) (fun b ob q => Heap.get?_push_of_some _ q) (Nat.le_refl _) ?_, rfl, q _ (I4.hok.fresh (Nat.le_refl _))⟩
  exact ⟨Nat.le_trans (everyOther_length _) (Nat.le_trans (cutV_length xs l u) hz), _, e1, IsTup.new _ _⟩
end
end MS

set_option Elab.async false
set_option linter.all false
set_option maxRecDepth 100000
set_option maxHeartbeats 4000000
/-! MSR3: sorted, max, min of a tuple of ints; tuple(list) whose object is known. -/
namespace MS
open PySem PySem.Spec PyProof.Rows L2
section
variable {prog : Program} {w : World} {A : Around} {E : Value → Shared → Prop} {s : Shared}
theorem collect_tuple {l : Addr} {vs : List Value} {Q : List Value → Shared → Prop} (hl : IsTup s.heap l vs.toArray)
    (h : Q vs { s with heap := (s.heap.push (seqObj "list" #[] 0)).update s.heap.objs.size (Obj.mapSeq (· ++ vs.toArray)) }) (hsz : vs.length ≤ sizeLine) :
    wpAny (model prog w) A (collect (.ref l)) Q E s := by
  obtain ⟨o, ho, hc, n, hd⟩ := id hl
  unfold collect
  refine wpAny_bind (wpAny_runValue (codeAny_builtin entry_proto_collect' ?_))
  show wpAny _ _ (do again (.builtin "list.__iadd__" ⟨[← newList [], .ref l], []⟩)) _ _ s
  refine wpAny_bind (wpAny_newList (wpAny_pure ⟨Code.quiet_builtin _ (by decide +kernel), codeAny_builtin entry_list_iadd' ?_⟩))
  show wpAny _ _ (Builtin.List.listExtendWith (.ref s.heap.objs.size) (.ref l) (.ref s.heap.objs.size)) _ _ { s with heap := s.heap.push (seqObj "list" #[] 0) }
  unfold Builtin.List.listExtendWith
  have ho' : (s.heap.push (seqObj "list" #[] 0)).get? l = some o := Heap.get?_push_of_some _ ho
  refine wpAny_bind (wpAny_typeOf (T := "tuple") ⟨o, ho', hc⟩ ?_)
  have ht : (Value.type "tuple" == Value.type "tuple") = true := by rfl
  rw [if_pos (by rw [ht]; simp)]
  refine wpAny_bind (listItems_at ho' hd ?_)
  refine wpAny_bind (listItems_at (xs := #[]) (n := 0) (Heap.get?_push_size _ rfl) rfl ?_)
  rw [if_neg (by simp)]
  refine wpAny_bind (listUpdate_at (xs := #[]) (n := 0) (Heap.get?_push_size _ rfl) rfl ?_ (Nat.zero_le _) (by show (#[] ++ vs.toArray).size ≤ sizeLine + 1; simp only [Array.size_append, List.size_toArray, List.length_nil]; omega))
  refine wpAny_pure ?_
  show wpAny (model prog w) A (do
      let o ← load s.heap.objs.size
      match o.data with
      | .seq xs _ => pure xs.toList
      | _ => unsupported "internal:collect") Q E { s with heap := (s.heap.push (seqObj "list" #[] 0)).update s.heap.objs.size (Obj.mapSeq (· ++ vs.toArray)) }
  refine wpAny_bind (wpAny_load (get?_update_seq (Heap.get?_push_size _ rfl) _) ?_)
  show wpAny _ _ (pure ((#[] : Array Value) ++ vs.toArray).toList) Q E _
  rw [show ((#[] : Array Value) ++ vs.toArray).toList = vs by simp]
  exact wpAny_pure h
theorem sorted_ordT {l : Addr} {vs : List Value} {ltv : Value → Value → Bool} {Q : Value → Shared → Prop} (O : SrtO.Swo ltv) (hl : IsTup s.heap l vs.toArray) (hz : vs.length ≤ sizeLine)
    (hS : 2 ≤ vs.length → ∀ (h₁ : Heap) (a : Addr), h₁.get? a = some (seqObj "list" vs.toArray 0) → (∀ b o, s.heap.get? b = some o → b ≠ a ∧ h₁.get? b = some o) → SrtO.SortableO prog w A.in1.in1 { s with heap := h₁ } a vs ltv)
    (h : ∀ out : List Value, SrtO.Srtd ltv out → SrtO.Stb ltv out vs → Q (.ref (s.heap.objs.size + 1)) { s with heap := sortedAll s.heap vs out.toArray }) :
    wpAny (model prog w) A (call (.builtin "sorted") [.ref l]) Q E s := by
  refine Calls.call_function_entry kind_sorted plain_sorted entry_sorted (args_sorted1 _) ?_
  unfold Builtin.«sorted»
  refine wpAny_bind (m := checkCount "sorted" 1 1 _) (wpAny_pure ?_)
  refine wpAny_bind (collect_tuple hl ?_ hz)
  refine wpAny_bind (wpAny_newList ?_ hz)
  have hsz : ((s.heap.push (seqObj "list" #[] 0)).update s.heap.objs.size (Obj.mapSeq (· ++ vs.toArray))).objs.size = s.heap.objs.size + 1 := by
    rw [Heap.size_update, size_push']
  have hoL : (((s.heap.push (seqObj "list" #[] 0)).update s.heap.objs.size (Obj.mapSeq (· ++ vs.toArray))).push (seqObj "list" vs.toArray 0)).get? (s.heap.objs.size + 1) = some (seqObj "list" vs.toArray 0) := by
    rw [← hsz]; exact Heap.get?_push_size _ rfl
  have keep : ∀ b o, s.heap.get? b = some o → b ≠ s.heap.objs.size + 1 ∧ (((s.heap.push (seqObj "list" #[] 0)).update s.heap.objs.size (Obj.mapSeq (· ++ vs.toArray))).push (seqObj "list" vs.toArray 0)).get? b = some o := fun b o q => by
    have hlt : b < s.heap.objs.size := Heap.lt_size q
    refine ⟨Nat.ne_of_lt (Nat.lt_succ_of_lt hlt), Heap.get?_push_of_some _ ?_⟩
    rw [Heap.get?_update_ne _ _ _ _ (Nat.ne_of_lt hlt)]
    exact Heap.get?_push_of_some _ q
  show wpAny _ _ _ _ _ { s with heap := ((s.heap.push (seqObj "list" #[] 0)).update s.heap.objs.size (Obj.mapSeq (· ++ vs.toArray))).push (seqObj "list" vs.toArray 0) }
  rw [hsz]
  refine wpAny_bind (wpAny_holding (wpAny_call_entry slot_list_sort ⟨_, hoL, rfl⟩ entry_list_sort (SrtO.list_sort_ord O hoL hz (fun h2 => hS h2 _ _ hoL keep) fun out hs hb => ⟨_, rfl, ?_⟩) (args_list_sort _)))
  exact wpAny_pure ⟨_, rfl, h out hs hb⟩
theorem iter_intTuple {l : Addr} {xs : Array (Int × Tok)} {Q : Value → Shared → Prop} (hl : s.heap.IsTuple l (intItems xs))
    (h : ∀ s₂ : Shared, s₂ = { s with heap := s.heap.push { cls := .type "tuple_iterator", data := .fields #[.ref l, .int 0 0] } } →
      (s₂.heap.IsTupleIter s.heap.objs.size l 0 ∧ s₂.heap.IsTuple l (intItems xs)) → (∀ b ∈ [s.heap.objs.size, l], b < s₂.heap.objs.size) → l ≠ s.heap.objs.size → Q (.ref s.heap.objs.size) s₂) :
    wpAny (model prog w) A (pyIter (.ref l)) Q E s := by
  have hlt : l < s.heap.objs.size := by obtain ⟨_, e, _⟩ := hl; exact Heap.lt_size e
  have hl2 : (s.heap.push { cls := .type "tuple_iterator", data := .fields #[.ref l, .int 0 0] }).IsTuple l (intItems xs) := by
    obtain ⟨o, e, r⟩ := hl
    exact ⟨o, Heap.get?_push_of_some _ e, r⟩
  refine wpAny_pyIter_tuple hl (h _ rfl ⟨⟨_, Heap.get?_push_size _ rfl, rfl, rfl⟩, hl2⟩ (fun b hb => ?_) (Nat.ne_of_lt hlt))
  show b < (s.heap.push _).objs.size
  rw [Heap.size_push]
  rcases List.mem_cons.mp hb with rfl | hb
  · exact Nat.lt_succ_self _
  · rcases List.mem_cons.mp hb with rfl | hb
    · exact Nat.lt_succ_of_lt hlt
    · cases hb
theorem old_keptT {l : Addr} {h' : Heap} (hk : ∀ b o, b ∉ [s.heap.objs.size] → (s.heap.push { cls := .type "tuple_iterator", data := .fields #[.ref l, .int 0 0] }).get? b = some o → h'.get? b = some o) :
    ∀ b o, s.heap.get? b = some o → h'.get? b = some o := fun b o e => by
  refine hk b o (fun hm => ?_) (Heap.get?_push_of_some _ e)
  rcases List.mem_cons.mp hm with e1 | hm
  · exact absurd (e1 ▸ Heap.lt_size e) (Nat.lt_irrefl _)
  · cases hm
theorem max_intTuple {l : Addr} {xs : Array (Int × Tok)} {Q : Value → Shared → Prop} (hh : A.handled = none) (hl : s.heap.IsTuple l (intItems xs)) (hne : 0 < xs.size)
    (h : ∀ v h' tk, (intItems xs)[argBest (fun i j => decide (numAt xs i > numAt xs j)) (xs.size - 1)]? = some v → (∀ b o, s.heap.get? b = some o → h'.get? b = some o) → Q v { s with heap := h', toks := tk }) :
    wpAny (model prog w) A (call (.builtin "max") [.ref l]) Q E s := by
  refine call_max_walk (iter_intTuple hl fun s₂ e st hfp hlI => ?_)
  subst e
  refine ⟨_, _, _, _, _, _, _, rfl, Walks.tuple (A := A.in1) hh _ l hlI (intItems xs), st, hfp, by simpa [intItems] using hne, CmpOf.ints_gt (numAt xs) (fun _ _ => intItems_at), fun v h' tk hP hk => ?_⟩
  exact h v h' tk (by simpa [intItems] using hP) (old_keptT hk)
theorem min_intTuple {l : Addr} {xs : Array (Int × Tok)} {Q : Value → Shared → Prop} (hh : A.handled = none) (hl : s.heap.IsTuple l (intItems xs)) (hne : 0 < xs.size)
    (h : ∀ v h' tk, (intItems xs)[argBest (fun i j => decide (numAt xs i < numAt xs j)) (xs.size - 1)]? = some v → (∀ b o, s.heap.get? b = some o → h'.get? b = some o) → Q v { s with heap := h', toks := tk }) :
    wpAny (model prog w) A (call (.builtin "min") [.ref l]) Q E s := by
  refine call_min_walk (iter_intTuple hl fun s₂ e st hfp hlI => ?_)
  subst e
  refine ⟨_, _, _, _, _, _, _, rfl, Walks.tuple (A := A.in1) hh _ l hlI (intItems xs), st, hfp, by simpa [intItems] using hne, CmpOf.ints_lt (numAt xs) (fun _ _ => intItems_at), fun v h' tk hP hk => ?_⟩
  exact h v h' tk (by simpa [intItems] using hP) (old_keptT hk)
theorem max_rawT {l : Addr} {its : List Value} {ns : List Int} {Q : Value → Shared → Prop} (hh : A.handled = none) (hl : s.heap.IsTuple l its.toArray) (hi : IntsAre its ns) (hne : 0 < ns.length)
    (h : ∀ h' tk M t', (∀ b o, s.heap.get? b = some o → h'.get? b = some o) → M ∈ ns → (∀ a, a ∈ ns → a ≤ M) → Q (.int M t') { s with heap := h', toks := tk }) : wpAny (model prog w) A (call (.builtin "max") [.ref l]) Q E s := by
  obtain ⟨xs, e⟩ := hi.allInts.items
  have hn : numsOf (intItems xs).toList = ns := by rw [← e]; exact hi.numsOf
  rw [nums_intItems] at hn
  subst hn
  rw [e] at hl
  have hsz : 0 < xs.size := by simpa using hne
  refine max_intTuple hh hl hsz fun v h' tk hv hk => ?_
  obtain ⟨t, rfl⟩ := intItems_at hv
  obtain ⟨h1, h2⟩ := argBest_gt (numAt xs) (xs.size - 1)
  refine h h' tk _ t hk ?_ fun a ha => ?_
  · rw [numAt_eq]; exact PySem.getD_mem (by rw [List.length_map, Array.length_toList]; omega)
  · obtain ⟨j, hj, rfl⟩ := mem_getD ha
    rw [List.length_map, Array.length_toList] at hj
    rw [← numAt_eq]; exact h2 j (by omega)
theorem min_rawT {l : Addr} {its : List Value} {ns : List Int} {Q : Value → Shared → Prop} (hh : A.handled = none) (hl : s.heap.IsTuple l its.toArray) (hi : IntsAre its ns) (hne : 0 < ns.length)
    (h : ∀ h' tk M t', (∀ b o, s.heap.get? b = some o → h'.get? b = some o) → M ∈ ns → (∀ a, a ∈ ns → M ≤ a) → Q (.int M t') { s with heap := h', toks := tk }) : wpAny (model prog w) A (call (.builtin "min") [.ref l]) Q E s := by
  obtain ⟨xs, e⟩ := hi.allInts.items
  have hn : numsOf (intItems xs).toList = ns := by rw [← e]; exact hi.numsOf
  rw [nums_intItems] at hn
  subst hn
  rw [e] at hl
  have hsz : 0 < xs.size := by simpa using hne
  refine min_intTuple hh hl hsz fun v h' tk hv hk => ?_
  obtain ⟨t, rfl⟩ := intItems_at hv
  obtain ⟨h1, h2⟩ := argBest_lt (numAt xs) (xs.size - 1)
  refine h h' tk _ t hk ?_ fun a ha => ?_
  · rw [numAt_eq]; exact PySem.getD_mem (by rw [List.length_map, Array.length_toList]; omega)
  · obtain ⟨j, hj, rfl⟩ := mem_getD ha
    rw [List.length_map, Array.length_toList] at hj
    rw [← numAt_eq]; exact h2 j (by omega)
end
section
variable {X : Cx}
theorem cr_sortedIT : CallR X (.builtin "sorted") (fun vs H Q => ∃ (a : Addr) (ns : List Int), vs = [V.ref a] ∧ SqT X.K H a (ns.map V.int) ∧ ∀ (ns' : List Int) (p : Addr), ns'.Perm ns → ns'.Pairwise (· ≤ ·) → H p = none → Q (.ref p) (upd H p (.lst (ns'.map V.int)))) := by
  intro pins s σ H vs us Q I r h
  obtain ⟨a, ns, rfl, hs, q⟩ := h
  obtain ⟨its, rv, hl, hz⟩ := I.tuple hs
  rw [Vals.ref1 r]
  have hi := rv.ints
  refine sorted_ordT SrtO.swo_int hl (by rw [← rv.length]; exact hz) (fun h2 h₁ a' _ _ => SrtO.ints_sortable hi h2) fun out h1 h2 => ?_
  obtain ⟨k1, k2, k3⟩ := SrtO.ints_out hi h1 h2
  obtain ⟨ep, he'⟩ := PyProof.Rows.sortedAll_at s.heap its out.toArray
  have hlen : ((out.map SrtO.iv).map V.int).length ≤ sizeLine := by
    rw [List.length_map, k2.length_eq]
    rw [List.length_map] at hz
    exact hz
  exact ⟨.ref _, upd H (s.heap.objs.size + 1) (.lst ((out.map SrtO.iv).map V.int)), I.laid (t' := s.toks) (fun _ _ => PyProof.Rows.sortedAll_old) (Nat.le_succ _) ⟨hlen, out, ep, vals_of_ints k1, he'⟩, rfl, q _ _ k2 k3 (I.hok.fresh (Nat.le_succ _))⟩
theorem cr_maxT (hc : X.calm = true) : CallR X (.builtin "max") (fun vs H Q => ∃ (a : Addr) (ns : List Int), vs = [V.ref a] ∧ SqT X.K H a (ns.map V.int) ∧ 0 < ns.length ∧ ∀ m, m ∈ ns → (∀ y, y ∈ ns → y ≤ m) → Q (.int m) H) := by
  intro pins s σ H vs us Q I r h
  obtain ⟨a, ns, rfl, hs, hne, q⟩ := h
  obtain ⟨its, rv, hl, _⟩ := I.tuple hs
  rw [Vals.ref1 r]
  exact max_rawT (I.ok.hd hc) hl rv.ints hne fun h' tk m t' hk h1 h2 => ⟨.int _, H, I.kept hk, ⟨_, rfl⟩, q m h1 h2⟩
theorem cr_minT (hc : X.calm = true) : CallR X (.builtin "min") (fun vs H Q => ∃ (a : Addr) (ns : List Int), vs = [V.ref a] ∧ SqT X.K H a (ns.map V.int) ∧ 0 < ns.length ∧ ∀ m, m ∈ ns → (∀ y, y ∈ ns → m ≤ y) → Q (.int m) H) := by
  intro pins s σ H vs us Q I r h
  obtain ⟨a, ns, rfl, hs, hne, q⟩ := h
  obtain ⟨its, rv, hl, _⟩ := I.tuple hs
  rw [Vals.ref1 r]
  exact min_rawT (I.ok.hd hc) hl rv.ints hne fun h' tk m t' hk h1 h2 => ⟨.int _, H, I.kept hk, ⟨_, rfl⟩, q m h1 h2⟩
/-- tuple(list): the new object is known -/
theorem call_tupleX : CallR X (.type "tuple") (fun xs H Q => ∃ p ys, xs = [.ref p] ∧ SqL X.K H p ys ∧ ∀ l o, H l = none → o.cls = .type "tuple" → o.dict = none → Q (.ref l) (upd H l (.frz o (.tup ys)))) := by
  intro pins s σ H xs us Q I r h
  obtain ⟨p, ys, rfl, hq, q⟩ := h
  obtain ⟨u, rfl, rx⟩ := vals1 r
  cases rx
  obtain ⟨its, r', pl, hz⟩ := I.list hq
  have hlen := r'.length
  refine call_tuple_list pl.isList (fun h' kp => ?_) (by simp only [List.size_toArray] <;> omega)
  have I1 : Inv X pins σ H { s with heap := h' } := I.kept (t' := s.toks) kp
  have hobj : (h'.push { cls := .type "tuple", data := .seq its.toArray }).get? h'.objs.size = some { cls := .type "tuple", data := .seq its.toArray } := Heap.get?_push_size _ rfl
  have I2 : Inv X pins σ (upd H h'.objs.size (.frz { cls := .type "tuple", data := .seq its.toArray } (.tup ys))) { s with heap := h'.push { cls := .type "tuple", data := .seq its.toArray } } :=
    I1.laid (t' := s.toks) (fun b o e => Heap.get?_push_of_some _ e) (Nat.le_refl _) (show ObjOk X.prog X.w _ _ _ (.frz _ (.tup ys)) from ⟨hobj, hz, its, r', IsTup.new _ _⟩)
  exact ⟨.ref h'.objs.size, _, I2, rfl, q _ _ (I1.hok.fresh (Nat.le_refl _)) rfl rfl⟩
end
end MS

set_option Elab.async false
set_option linter.all false
set_option maxRecDepth 100000
set_option maxHeartbeats 4000000
/-! MS2: expressions. -/
namespace MS
open PySem PySem.Spec PyProof.Rows L2 MI

/-- what is wanted where an exception (its class's number, its fields) leaves -/
abbrev EX := Nat → List (List Nat × D) → L2.St → List Addr → Hp → Stt → Prop
section
variable (K : PySem.W.Frag) (cl : Nat → Addr) (E : EX)
/-- m, run from st, ends, and what comes of it is enough for Q -/
def Rest {α β : Type} (rel : Hp → List Addr → β → α → Prop) (σ : L2.St) (Q : β → Hp → Prop) (m : MI.R α) (ρ : List Addr) (H : Hp) (st : Stt) : Prop :=
  (∃ d st', m st = some (.ok d, st') ∧ ∀ ρ' H' v, Grow ρ H ρ' H' → At K cl ρ' H' st' → rel H' ρ' v d → Q v H') ∨
  (∃ c fs st', m st = some (.exc c fs, st') ∧ ∀ ρ' H', Grow ρ H ρ' H' → At K cl ρ' H' st' → E c fs σ ρ' H' st')
def TM {α β : Type} (rel : Hp → List Addr → β → α → Prop) (g : MI.Env → MI.R α) : L2.St → Hp → (β → Hp → Prop) → Prop := fun σ H Q =>
  ∃ ρ env st, At K cl ρ H st ∧ RvE K H ρ σ env ∧ Rest K cl E rel σ Q (g env) ρ H st
end
section
variable {K : PySem.W.Frag} {cl : Nat → Addr} {E : EX} {α β γ δ : Type} {rel : Hp → List Addr → β → α → Prop} {rel' : Hp → List Addr → δ → γ → Prop} {σ : L2.St} {H H1 : Hp} {ρ ρ1 : List Addr} {st : Stt} {env : MI.Env}
theorem Rest.imp {Q Q' : β → Hp → Prop} {m : MI.R α} (h : Rest K cl E rel σ Q m ρ H st) (i : ∀ v H, Q v H → Q' v H) : Rest K cl E rel σ Q' m ρ H st := by
  rcases h with ⟨d, st', e, h⟩ | h
  · exact .inl ⟨d, st', e, fun ρ' H' v g A r => i _ _ (h ρ' H' v g A r)⟩
  · exact .inr h
theorem Rest.base {Q : β → Hp → Prop} {m : MI.R α} (h : Rest K cl E rel σ Q m ρ H st) (g : Grow ρ H ρ1 H1) : Rest K cl E rel σ Q m ρ1 H1 st := by
  rcases h with ⟨d, st', e, h⟩ | ⟨c, fs, st', e, h⟩
  · exact .inl ⟨d, st', e, fun ρ' H' v g' A r => h ρ' H' v (g.trans g') A r⟩
  · exact .inr ⟨c, fs, st', e, fun ρ' H' g' A => h ρ' H' (g.trans g') A⟩
theorem TM.imp {Q Q' : β → Hp → Prop} {g : MI.Env → MI.R α} (h : TM K cl E rel g σ H Q) (i : ∀ v H, Q v H → Q' v H) : TM K cl E rel g σ H Q' := by
  obtain ⟨ρ, env, st, A, e, h⟩ := h
  exact ⟨ρ, env, st, A, e, h.imp i⟩
/-- one step, then the rest -/
theorem Rest.step {Q : δ → Hp → Prop} {g : MI.Env → MI.R α} {f : α → MI.R γ} (rel : Hp → List Addr → β → α → Prop) (A : At K cl ρ H st) (e : RvE K H ρ σ env) (h : Rest K cl E rel' σ Q (bnd (g env) f) ρ H st) :
    TM K cl E rel g σ H (fun v1 H1 => ∃ ρ1 st1 d1, Grow ρ H ρ1 H1 ∧ At K cl ρ1 H1 st1 ∧ rel H1 ρ1 v1 d1 ∧ Rest K cl E rel' σ Q (f d1) ρ1 H1 st1) := by
  refine ⟨ρ, env, st, A, e, ?_⟩
  have run : ∀ r, bnd (g env) f st = some r → (∃ d st1, g env st = some (.ok d, st1) ∧ f d st1 = some r) ∨ ∃ c fs st1, g env st = some (.exc c fs, st1) ∧ r = (.exc c fs, st1) := fun r hr => by
    unfold bnd at hr
    cases q : g env st with
    | none => rw [q] at hr; cases hr
    | some p =>
      obtain ⟨rs, st1⟩ := p
      rw [q] at hr
      cases rs with
      | ok d => exact .inl ⟨d, st1, rfl, hr⟩
      | exc c fs => exact .inr ⟨c, fs, st1, rfl, (Option.some.inj hr).symm⟩
  rcases h with ⟨d, st', hr, h⟩ | ⟨c, fs, st', hr, h⟩
  · rcases run _ hr with ⟨d1, st1, q1, q2⟩ | ⟨c, fs, st1, q1, q2⟩
    · exact .inl ⟨d1, st1, q1, fun ρ1 H1 v1 g1 A1 r1 => ⟨ρ1, st1, d1, g1, A1, r1, .inl ⟨d, st', q2, fun ρ' H' v g' A' r => h ρ' H' v (g1.trans g') A' r⟩⟩⟩
    · cases q2
  · rcases run _ hr with ⟨d1, st1, q1, q2⟩ | ⟨c, fs, st1, q1, q2⟩
    · exact .inl ⟨d1, st1, q1, fun ρ1 H1 v1 g1 A1 r1 => ⟨ρ1, st1, d1, g1, A1, r1, .inr ⟨c, fs, st', q2, fun ρ' H' g' A' => h ρ' H' (g1.trans g') A'⟩⟩⟩
    · cases q2
      exact .inr ⟨_, _, _, q1, h⟩
/-- done: a value -/
theorem Rest.ok {Q : β → Hp → Prop} {m : MI.R α} {d : α} {st' : Stt} {v : β} (h : Rest K cl E rel σ Q m ρ H st) (q : m st = some (.ok d, st')) (g : Grow ρ H ρ1 H1) (A : At K cl ρ1 H1 st') (r : rel H1 ρ1 v d) : Q v H1 := by
  rcases h with ⟨d', st2, e, h⟩ | ⟨c, fs, st2, e, h⟩
  · rw [q] at e
    cases e
    exact h _ _ _ g A r
  · rw [q] at e; cases e
theorem Rest.none {Q : β → Hp → Prop} {m : MI.R α} {P : Prop} (h : Rest K cl E rel σ Q m ρ H st) (q : m st = Option.none) : P := by
  rcases h with ⟨d', st2, e, h⟩ | ⟨c, fs, st2, e, h⟩ <;> (rw [q] at e; cases e)
theorem Rest.eq {Q : β → Hp → Prop} {m m' : MI.R α} (h : Rest K cl E rel σ Q m ρ H st) (q : m st = m' st) : Rest K cl E rel σ Q m' ρ H st := by
  rcases h with ⟨d', st2, e, h⟩ | ⟨c, fs, st2, e, h⟩
  · exact .inl ⟨d', st2, q.symm.trans e, h⟩
  · exact .inr ⟨c, fs, st2, q.symm.trans e, h⟩
end

theorem peI {X : Cx} {e : Expr} {t t' : TE} (h : PE X e t) (i : ∀ σ H Q, t' σ H Q → t σ H Q) : PE X e t' := ⟨fun pins s σ H Q I q => h.run pins s σ H Q I (i σ H Q q)⟩
theorem ptI {X : Cx} {e : Expr} {t t' : TT} (h : PT X e t) (i : ∀ σ H Q, t' σ H Q → t σ H Q) : PT X e t' := ⟨fun pins s σ H Q I q => h.run pins s σ H Q I (i σ H Q q)⟩
theorem pwI {X : Cx} {e : Expr} {t t' : TT} (h : PW X e t) (i : ∀ σ H Q, t' σ H Q → t σ H Q) : PW X e t' := ⟨fun w pins s σ H Q I q => h.run w pins s σ H Q I (i σ H Q q)⟩
theorem paI {X : Cx} {e : List Expr} {t t' : TA} (h : PA X e t) (i : ∀ σ H Q, t' σ H Q → t σ H Q) : PA X e t' := ⟨fun p pins s σ H Q I q => h.run p pins s σ H Q I (i σ H Q q)⟩

/-- the relations of a value, a test, a list, an optional int -/
abbrev rV (K : PySem.W.Frag) : Hp → List Addr → V → D → Prop := fun H ρ => Rv K H ρ
abbrev rB : Hp → List Addr → Bool → Bool → Prop := fun _ _ a b => a = b
abbrev rL (K : PySem.W.Frag) : Hp → List Addr → List V → List D → Prop := fun H ρ => RvL K H ρ
abbrev rO : Hp → List Addr → Option Int → Option Int → Prop := fun _ _ a b => a = b

section
variable (X : Cx) (cl : Nat → Addr) (E : EX) (c : MI.Ctx)
abbrev ME (e : Expr) (g : SE) : Prop := PE X e (TM X.K cl E (rV X.K) (g c))
abbrev MT (e : Expr) (g : MI.ST) : Prop := PT X e (TM X.K cl E rB (g c))
abbrev MW (e : Expr) (g : MI.ST) : Prop := PW X e (TM X.K cl E rB (g c))
abbrev MA (es : List Expr) (g : SL) : Prop := PA X es (TM X.K cl E (rL X.K) (g c))
end
/-- a two-place operation -/
def OpS (K : PySem.W.Frag) (cl : Nat → Addr) (E : EX) (f : D → D → MI.R D) (r : R2) : Prop := ∀ {σ : L2.St} {Q : VK} {ρ : List Addr} {H : Hp} {st : Stt} {v1 v2 : V} {d1 d2 : D}, At K cl ρ H st → Rv K H ρ v1 d1 → Rv K H ρ v2 d2 →
  Rest K cl E (rV K) σ Q (f d1 d2) ρ H st → r v1 v2 H Q
def UnS (K : PySem.W.Frag) (cl : Nat → Addr) (E : EX) (f : D → MI.R D) (r : V → Hp → VK → Prop) : Prop := ∀ {σ : L2.St} {Q : VK} {ρ : List Addr} {H : Hp} {st : Stt} {v1 : V} {d1 : D}, At K cl ρ H st → Rv K H ρ v1 d1 →
  Rest K cl E (rV K) σ Q (f d1) ρ H st → r v1 H Q

section
variable {X : Cx} {cl : Nat → Addr} {E : EX} {c : MI.Ctx} {a b e : Expr} {ga gb : SE} {pos : Pos}
theorem tm_op {f : D → D → MI.R D} {r : R2} (hs : OpS X.K cl E f r) {σ : L2.St} {H : Hp} {Q : VK} (h : TM X.K cl E (rV X.K) (eBin f ga gb c) σ H Q) :
    tOp r (TM X.K cl E (rV X.K) (ga c)) (TM X.K cl E (rV X.K) (gb c)) σ H Q := by
  obtain ⟨ρ, env, st, A, e, h⟩ := h
  refine (Rest.step (g := ga c) (rV X.K) A e h).imp fun v1 H1 ⟨ρ1, st1, d1, g1, A1, r1, h1⟩ => ?_
  refine (Rest.step (g := gb c) (rV X.K) A1 (e.grow A g1) h1).imp fun v2 H2 ⟨ρ2, st2, d2, g2, A2, r2, h2⟩ => ?_
  exact hs A2 (r1.grow A1 g2) r2 h2
theorem me_bin {op : Operator} {f : D → D → MI.R D} {r : R2} (ho : OpR X (binaryOp op) r) (hs : OpS X.K cl E f r) (ha : ME X cl E c a ga) (hb : ME X cl E c b gb) : ME X cl E c (.BinOp a op b pos) (eBin f ga gb) :=
  peI (pe_op ho ha hb) fun _ _ _ h => tm_op hs h
theorem me_cmp {op : CmpOp} {f : D → D → MI.R D} {r : R2} (ho : OpR X (compareOp op) r) (hs : OpS X.K cl E f r) (ha : ME X cl E c a ga) (hb : ME X cl E c b gb) (hm : behindInMarks op b = false) : ME X cl E c (.Compare a [op] [b] pos) (eBin f ga gb) :=
  peI (pe_cmpR ho ha hb hm) fun _ _ _ h => tm_op hs h
theorem tm_un {f : D → MI.R D} {r : V → Hp → VK → Prop} (hs : UnS X.K cl E f r) {σ : L2.St} {H : Hp} {Q : VK} (h : TM X.K cl E (rV X.K) (eUn f ga c) σ H Q) :
    TM X.K cl E (rV X.K) (ga c) σ H fun x H1 => r x H1 Q := by
  obtain ⟨ρ, env, st, A, e, h⟩ := h
  refine (Rest.step (g := ga c) (rV X.K) A e h).imp fun v1 H1 ⟨ρ1, st1, d1, g1, A1, r1, h1⟩ => ?_
  exact hs A1 r1 h1
theorem me_un {op : UnaryOp} {f : D → MI.R D} {r : V → Hp → VK → Prop} (ho : UnR X (unaryOp op) r) (hs : UnS X.K cl E f r) (ha : ME X cl E c a ga) : ME X cl E c (.UnaryOp op a pos) (eUn f ga) :=
  peI (pe_un ho ha) fun _ _ _ h => tm_un hs h

/-! ### names, constants -/
theorem me_var (i : Nat) {x : Str} (hN : X.N[i]? = some x := by rfl) (hv : Vis X.env.scope x := by first | exact Or.inl rfl | exact Or.inr (Or.inl rfl) | exact Or.inr (Or.inr rfl)) (hd : (x == ("__debug__" : Str)) = false := by decide)
    (hcd : (x == ("__classdict__" : Str)) = false := by decide) : ME X cl E c (.Name x pos) (eVar i) :=
  peI (pe_var hN hv hd hcd) fun σ H Q h => by
    obtain ⟨ρ, env, st, A, e, h⟩ := h
    cases q : env[i]? with
    | none => exact h.none (by simp [eVar, q])
    | some o =>
      cases o with
      | none => exact h.none (by simp [eVar, q])
      | some d =>
        obtain ⟨v, hv, r⟩ := e.get q
        exact ⟨v, hv, h.ok (st' := st) (d := d) (by simp [eVar, q]) .refl A r⟩
theorem tm_c {d : D} {v : V} {σ : L2.St} {H : Hp} {Q : VK} (hr : ∀ H ρ, Rv X.K H ρ v d) (h : TM X.K cl E (rV X.K) (eC d c) σ H Q) : Q v H := by
  obtain ⟨ρ, env, st, A, e, h⟩ := h
  exact h.ok (st' := st) (d := d) rfl .refl A (hr _ _)
theorem me_int {i : Int} {j : Nat} : ME X cl E c (.Constant (.int i) j pos) (eC (.int i)) := peI pe_int fun _ _ _ h => tm_c (fun _ _ => .int i) h
theorem me_bl {b : Bool} {j : Nat} : ME X cl E c (.Constant (.bool b) j pos) (eC (.bl b)) := peI pe_bl fun _ _ _ h => tm_c (fun _ _ => .bl b) h
theorem me_non {j : Nat} : ME X cl E c (.Constant .none j pos) (eC .non) := peI pe_non fun _ _ _ h => tm_c (fun _ _ => .non) h
theorem me_str {x : Str} {j : Nat} (s : List Nat) (hx : x = sD s := by decide +kernel) : ME X cl E c (.Constant (.str x) j pos) (eC (.str s)) := by
  subst hx
  exact peI pe_str fun _ _ _ h => tm_c (fun _ _ => .str s) h
/-- a constant of the module -/
theorem me_glob {x : Str} {d : D} {v : V} {u : Value} (hg : Gl X x) (hm : X.mg x = some u) (r : RelV v u) (hr : ∀ H ρ, Rv X.K H ρ v d) (hd : (x == ("__debug__" : Str)) = false := by decide) : ME X cl E c (.Name x pos) (eC d) :=
  peI (pe_glob hg hm r hd) fun _ _ _ h => tm_c hr h

/-! ### argument lists, displays -/
theorem ma_nil : MA X cl E c [] lNil := paI pa_nil fun σ H Q h => by
  obtain ⟨ρ, env, st, A, e, h⟩ := h
  exact h.ok (st' := st) (d := []) rfl .refl A .nil
theorem ma_cons {es : List Expr} {gl : SL} (ha : ME X cl E c e ga) (hr : MA X cl E c es gl) (hs : starEach (e :: es) X.env = (false, eval e X.env) :: starEach es X.env := by rfl) : MA X cl E c (e :: es) (lCons ga gl) :=
  paI (pa_cons ha hr hs) fun σ H Q h => by
    obtain ⟨ρ, env, st, A, e, h⟩ := h
    refine (Rest.step (g := ga c) (rV X.K) A e h).imp fun v1 H1 ⟨ρ1, st1, d1, g1, A1, r1, h1⟩ => ?_
    refine (Rest.step (g := gl c) (rL X.K) A1 (e.grow A g1) h1).imp fun v2 H2 ⟨ρ2, st2, d2, g2, A2, r2, h2⟩ => ?_
    exact h2.ok (st' := st2) (d := d1 :: d2) rfl .refl A2 (.cons (r1.grow A1 g2) r2)
theorem lim_size {n : Nat} (h : n < lim) : n ≤ sizeLine := by rw [sizeLine_eq]; exact Nat.le_of_lt h
/-- a new tuple of known items -/
theorem rest_tup {K : PySem.W.Frag} {σ : L2.St} {Q : VK} {m : MI.R D} {ρ : List Addr} {H : Hp} {st : Stt} {vs : List V} {ds : List D} (A : At K cl ρ H st) (r : RvL K H ρ vs ds) (h : Rest K cl E (rV K) σ Q m ρ H st)
    (e : m st = some (.ok (.tup ds), st)) (p : Addr) (n : H p = none) : Q (.ref p) (upd H p (.tup vs)) := by
  obtain ⟨A', g⟩ := A.side (o := .tup vs) n
  exact h.ok e g A' (.tup (SqT.of upd_same) (r.grow A g))
theorem rest_lst {K : PySem.W.Frag} {σ : L2.St} {Q : VK} {m : MI.R D} {ρ : List Addr} {H : Hp} {st : Stt} {vs : List V} {ds : List D} (A : At K cl ρ H st) (r : RvL K H ρ vs ds) (h : Rest K cl E (rV K) σ Q m ρ H st)
    (e : m st = some (.ok (.loc st.length), st ++ [.lst ds])) (p : Addr) (n : H p = none) : Q (.ref p) (upd H p (.lst vs)) := by
  obtain ⟨_, g0⟩ := A.side (o := .lst vs) n
  have k : Keep K H (upd H p (.lst vs)) := A.keep g0
  obtain ⟨A', g⟩ := A.push (o := .lst vs) (ob := .lst ds) n (.lst upd_same (r.keep k [p]))
  exact h.ok e g A' (.loc (by rw [← A.len]; simp))
theorem me_tup {es : List Expr} {gl : SL} {x1} (h : MA X cl E c es gl) : ME X cl E c (.Tuple es x1 pos) (eTup gl) :=
  peI (pe_tup h) fun σ H Q h => by
    obtain ⟨ρ, env, st, A, e, h⟩ := h
    refine (Rest.step (g := gl c) (rL X.K) A e h).imp fun vs H1 ⟨ρ1, st1, ds, g1, A1, r1, h1⟩ => ?_
    by_cases hl : ds.length < lim
    · rw [if_pos hl] at h1
      exact ⟨by rw [r1.length]; exact lim_size hl, rest_tup A1 r1 h1 rfl⟩
    · rw [if_neg hl] at h1; exact h1.none rfl
theorem me_lst {es : List Expr} {gl : SL} (h : MA X cl E c es gl) : ME X cl E c (.List es pos) (eLst gl) :=
  peI (pe_lst h) fun σ H Q h => by
    obtain ⟨ρ, env, st, A, e, h⟩ := h
    refine (Rest.step (g := gl c) (rL X.K) A e h).imp fun vs H1 ⟨ρ1, st1, ds, g1, A1, r1, h1⟩ => ?_
    by_cases hl : ds.length < lim
    · rw [if_pos hl] at h1
      exact ⟨by rw [r1.length]; exact lim_size hl, rest_lst A1 r1 h1 rfl⟩
    · rw [if_neg hl] at h1; exact h1.none rfl

/-! ### lists that nobody changes -/
/-- Q, or Q once the new list is locked -/
def fz (Q : VK) : VK := fun v H1 => Q v H1 ∨ ∃ a vs, v = .ref a ∧ H1 a = some (.lst vs) ∧ ∀ od, Q v (upd H1 a (.frz od (.lst vs)))
theorem ep_fz {pins : List (Addr × Obj)} {σ : L2.St} {Q : VK} {u : Value} {s : Shared} (h : EP X pins σ (fz Q) u s) : EP X pins σ Q u s := by
  obtain ⟨v, H1, I, r, q | ⟨a, vs, rfl, hl, q⟩⟩ := h
  · exact ⟨v, H1, I, r, q⟩
  · obtain ⟨od, I'⟩ := I.lock hl trivial
    exact ⟨_, _, I', r, q od⟩
theorem pe_fz {t : TE} (h : PE X e t) : PE X e (fun σ H Q => t σ H (fz Q)) := ⟨fun pins s σ H Q I q => thn (h.run pins s σ H _ I q) fun u s1 z => ep_fz z⟩
def CallR.fz {f : Value} {r : List V → Hp → VK → Prop} (h : CallR X f r) : CallR X f (fun xs H Q => r xs H (MS.fz Q)) := fun pins s σ H xs us Q I rs q => thn (h pins s σ H xs us _ I rs q) fun u s1 z => ep_fz z
theorem rest_frz {K : PySem.W.Frag} {σ : L2.St} {Q : VK} {m : MI.R D} {ρ : List Addr} {H : Hp} {st : Stt} {vs : List V} {ds : List D} (A : At K cl ρ H st) (r : RvL K H ρ vs ds) (h : Rest K cl E (rV K) σ Q m ρ H st)
    (e : m st = some (.ok (.frz ds), st)) (p : Addr) (n : H p = none) : fz Q (.ref p) (upd H p (.lst vs)) := by
  refine .inr ⟨p, vs, rfl, upd_same, fun od => ?_⟩
  rw [L2.upd_upd]
  obtain ⟨A', g⟩ := A.side (o := .frz od (.lst vs)) n
  exact h.ok e g A' (.frz (.inl ⟨od, upd_same⟩) (r.grow A g))
theorem me_lstF {es : List Expr} {gl : SL} (h : MA X cl E c es gl) : ME X cl E c (.List es pos) (eLstF gl) :=
  peI (pe_fz (pe_lst h)) fun σ H Q h => by
    obtain ⟨ρ, env, st, A, e, h⟩ := h
    refine (Rest.step (g := gl c) (rL X.K) A e h).imp fun vs H1 ⟨ρ1, st1, ds, g1, A1, r1, h1⟩ => ?_
    by_cases hl : ds.length < lim
    · rw [if_pos hl] at h1
      exact ⟨by rw [r1.length]; exact lim_size hl, rest_frz A1 r1 h1 rfl⟩
    · rw [if_neg hl] at h1; exact h1.none rfl

/-! ### tests -/
theorem tm_b {σ : L2.St} {H : Hp} {Q : Bool → Hp → Prop} {t : TE} (ht : t = TM X.K cl E (rV X.K) (ga c)) (h : TM X.K cl E rB (cB ga c) σ H Q) : t σ H fun x H1 => ∃ k, x = .bl k ∧ Q k H1 := by
  subst ht
  obtain ⟨ρ, env, st, A, e, h⟩ := h
  refine (Rest.step (g := ga c) (rV X.K) A e h).imp fun v1 H1 ⟨ρ1, st1, d1, g1, A1, r1, h1⟩ => ?_
  cases r1 with
  | bl k => exact ⟨k, rfl, h1.ok (st' := st1) (d := k) rfl .refl A1 rfl⟩
  | _ => exact h1.none rfl
theorem mt_cmp {op : CmpOp} {f : D → D → MI.R D} {r : R2} (ho : OpR X (compareOp op) r) (hs : OpS X.K cl E f r) (ha : ME X cl E c a ga) (hb : ME X cl E c b gb) (hm : behindInMarks op b = false) : MT X cl E c (.Compare a [op] [b] pos) (cB (eBin f ga gb)) :=
  ptI (pt_cmpR ho ha hb hm) fun σ H Q h => tm_op hs (Q := fun x H' => ∃ k, x = .bl k ∧ Q k H') (tm_b (ga := eBin f ga gb) rfl h)
theorem mt_val (h : ME X cl E c e ga) (he : ∀ whole, isTrue e X.env whole = (do let v ← whole; standAt e.pos; holding [v] (truthy v)) := by intro _; rfl) : MT X cl E c e (cB ga) :=
  ptI (pt_val h he) fun σ H Q h => tm_b rfl h
theorem mt_not {t : MI.ST} (h : MT X cl E c e t) : MT X cl E c (.UnaryOp .Not e pos) (cNot t) :=
  ptI (pt_not h) fun σ H Q h => by
    obtain ⟨ρ, env, st, A, e, h⟩ := h
    refine (Rest.step (g := t c) rB A e h).imp fun v1 H1 ⟨ρ1, st1, d1, g1, A1, r1, h1⟩ => ?_
    have r1' : v1 = d1 := r1
    subst r1'
    exact h1.ok (st' := st1) (d := !v1) rfl .refl A1 rfl
variable {rest : List Expr} {ta tb : MI.ST}
theorem mw_and1 (h : MT X cl E c a ta) : MW X cl E c (.BoolOp .And [a] pos) ta := pw_and1 h
theorem mw_or1 (h : MT X cl E c a ta) : MW X cl E c (.BoolOp .Or [a] pos) ta := pw_or1 h
theorem mw_and (ha : MT X cl E c a ta) (hb : MW X cl E c (.BoolOp .And (b :: rest) pos) tb) : MW X cl E c (.BoolOp .And (a :: b :: rest) pos) (cAnd ta tb) :=
  pwI (pw_and ha hb) fun σ H Q h => by
    obtain ⟨ρ, env, st, A, e, h⟩ := h
    refine (Rest.step (g := ta c) rB A e h).imp fun v1 H1 ⟨ρ1, st1, d1, g1, A1, r1, h1⟩ => ?_
    have r1' : v1 = d1 := r1
    subst r1'
    cases v1 with
    | true => exact iteT ⟨ρ1, env, st1, A1, e.grow A g1, h1⟩
    | false => exact iteF (h1.ok (st' := st1) (d := false) rfl .refl A1 rfl)
theorem mw_or (ha : MT X cl E c a ta) (hb : MW X cl E c (.BoolOp .Or (b :: rest) pos) tb) : MW X cl E c (.BoolOp .Or (a :: b :: rest) pos) (cOr ta tb) :=
  pwI (pw_or ha hb) fun σ H Q h => by
    obtain ⟨ρ, env, st, A, e, h⟩ := h
    refine (Rest.step (g := ta c) rB A e h).imp fun v1 H1 ⟨ρ1, st1, d1, g1, A1, r1, h1⟩ => ?_
    have r1' : v1 = d1 := r1
    subst r1'
    cases v1 with
    | true => exact iteT (h1.ok (st' := st1) (d := true) rfl .refl A1 rfl)
    | false => exact iteF ⟨ρ1, env, st1, A1, e.grow A g1, h1⟩
theorem mt_bool (h : MW X cl E c e ta) : MT X cl E c e ta := PW.pt h
theorem me_if {t : MI.ST} (ht : MT X cl E c e t) (ha : ME X cl E c a ga) (hb : ME X cl E c b gb) : ME X cl E c (.IfExp e a b pos) (eIf t ga gb) :=
  peI (pe_ifExp ht ha hb) fun σ H Q h => by
    obtain ⟨ρ, env, st, A, e, h⟩ := h
    refine (Rest.step (g := t c) rB A e h).imp fun v1 H1 ⟨ρ1, st1, d1, g1, A1, r1, h1⟩ => ?_
    have r1' : v1 = d1 := r1
    subst r1'
    cases v1 with
    | true => exact iteT ⟨ρ1, env, st1, A1, e.grow A g1, h1⟩
    | false => exact iteF ⟨ρ1, env, st1, A1, e.grow A g1, h1⟩
end
end MS

set_option Elab.async false
set_option linter.all false
set_option maxRecDepth 100000
set_option maxHeartbeats 4000000
/-! MS3: operators. -/
namespace MS
open PySem PySem.Spec PyProof.Rows L2 MI

/-! ### data as the library has it -/
mutual
def toPy : D → PyData
  | .non => .none
  | .bl b => .bool b
  | .int i => .int i
  | .str s => .str (sD s)
  | .tup l => .tuple (toPys l)
  | .loc _ => .none
  | .frz l => .list (toPys l)
  | .xtup l => .tuple (toPys l)
def toPys : List D → List PyData
  | [] => []
  | x :: xs => toPy x :: toPys xs
end
theorem toPys_map : ∀ l : List D, toPys l = l.map toPy
  | [] => rfl
  | x :: xs => by simp [toPys, toPys_map xs]
section
variable {K : PySem.W.Frag} {cl : Nat → Addr} {E : EX} {σ : L2.St} {ρ : List Addr} {H : Hp} {st : Stt}
mutual
theorem dp_of : ∀ (n : Nat) (d : D) (v : V), D.ok n d = true → Rv K H ρ v d → Dp K H v (toPy d)
  | _, .non, _, _, r => by cases r; exact .non
  | _, .bl b, _, _, r => by cases r; exact .bl b
  | _, .int i, _, _, r => by cases r; exact .int i
  | _, .str s, _, _, r => by cases r; exact .str _
  | 0, .tup _, _, h, _ => by simp [D.ok] at h
  | n + 1, .tup l, _, h, r => by
    cases r with
    | tup hs rl =>
      have h' : D.okL n l = true := by
        have h2 : (decide (l.length < lim) && D.okL n l) = true := by rw [D.ok] at h; exact h
        exact (Bool.and_eq_true_iff.mp h2).2
      exact .tup hs (dpL_of n l _ h' rl)
  | 0, .xtup _, _, h, _ => by simp [D.ok] at h
  | n + 1, .xtup l, _, h, r => by
    cases r with
    | xtup hs rl =>
      have h' : D.okL n l = true := by
        have h2 : (decide (l.length < lim) && D.okL n l) = true := by rw [D.ok] at h; exact h
        exact (Bool.and_eq_true_iff.mp h2).2
      exact .tup hs.seq (dpL_of n l _ h' rl)
  | _, .loc _, _, h, _ => by simp [D.ok] at h
  | 0, .frz _, _, h, _ => by simp [D.ok] at h
  | n + 1, .frz l, _, h, r => by
    cases r with
    | frz hs rl =>
      have h' : D.okL n l = true := by
        have h2 : (decide (l.length < lim) && D.okL n l) = true := by rw [D.ok] at h; exact h
        exact (Bool.and_eq_true_iff.mp h2).2
      exact .lst hs.seq (dpL_of n l _ h' rl)
theorem dpL_of : ∀ (n : Nat) (l : List D) (vs : List V), D.okL n l = true → RvL K H ρ vs l → DpAll K H vs (toPys l)
  | _, [], _, _, r => by cases r; exact .nil
  | n, x :: xs, _, h, r => by
    cases r with
    | cons r1 r2 =>
      have h2 : D.ok n x = true ∧ D.okL n xs = true := by rw [D.okL] at h; exact Bool.and_eq_true_iff.mp h
      exact .cons (dp_of n x _ h2.1 r1) (dpL_of n xs _ h2.2 r2)
end
end
mutual
theorem lay_of : ∀ (n : Nat) (d : D), D.ok n d = true → (toPy d).canLay0 = true ∧ (toPy d).depth ≤ n
  | _, .non, _ => by simp [toPy, PyData.canLay0, PyData.depth]
  | _, .bl b, _ => by simp [toPy, PyData.canLay0, PyData.depth]
  | _, .int i, _ => by simp [toPy, PyData.canLay0, PyData.depth]
  | _, .str s, h => by
    have h' : s.all (· < 1114112) = true := by simpa [D.ok] using h
    refine ⟨?_, by simp [toPy, PyData.depth]⟩
    simp only [toPy, PyData.canLay0, PyData.strOk]
    simpa using h'
  | 0, .tup _, h => by simp [D.ok] at h
  | n + 1, .tup l, h => by
    have h' : D.okL n l = true := by
      have h2 : (decide (l.length < lim) && D.okL n l) = true := by rw [D.ok] at h; exact h
      exact (Bool.and_eq_true_iff.mp h2).2
    obtain ⟨a, b⟩ := layL_of n l h'
    exact ⟨by simpa [toPy, PyData.canLay0] using a, by simp only [toPy, PyData.depth]; omega⟩
  | 0, .xtup _, h => by simp [D.ok] at h
  | n + 1, .xtup l, h => by
    have h' : D.okL n l = true := by
      have h2 : (decide (l.length < lim) && D.okL n l) = true := by rw [D.ok] at h; exact h
      exact (Bool.and_eq_true_iff.mp h2).2
    obtain ⟨a, b⟩ := layL_of n l h'
    exact ⟨by simpa [toPy, PyData.canLay0] using a, by simp only [toPy, PyData.depth]; omega⟩
  | _, .loc _, h => by simp [D.ok] at h
  | 0, .frz _, h => by simp [D.ok] at h
  | n + 1, .frz l, h => by
    have h' : D.okL n l = true := by
      have h2 : (decide (l.length < lim) && D.okL n l) = true := by rw [D.ok] at h; exact h
      exact (Bool.and_eq_true_iff.mp h2).2
    obtain ⟨a, b⟩ := layL_of n l h'
    exact ⟨by simpa [toPy, PyData.canLay0] using a, by simp only [toPy, PyData.depth]; omega⟩
theorem layL_of : ∀ (n : Nat) (l : List D), D.okL n l = true → PyData.canLayAll0 (toPys l) = true ∧ PyData.depthAll (toPys l) ≤ n
  | _, [], _ => by simp [toPys, PyData.canLayAll0, PyData.depthAll]
  | n, x :: xs, h => by
    have h2 : D.ok n x = true ∧ D.okL n xs = true := by rw [D.okL] at h; exact Bool.and_eq_true_iff.mp h
    obtain ⟨a, b⟩ := lay_of n x h2.1
    obtain ⟨a', b'⟩ := layL_of n xs h2.2
    exact ⟨by simp [toPys, PyData.canLayAll0, a, a'], by simp only [toPys, PyData.depthAll]; omega⟩
end
theorem shaped_of {n : Nat} {d : D} (h : D.ok n d = true) (hn : n ≤ 60) : SeqAt.shaped (toPy d) = true := by
  obtain ⟨a, b⟩ := lay_of n d h
  exact Bool.and_eq_true_iff.mpr ⟨a, decide_eq_true (by omega)⟩
theorem shapedT_of {n : Nat} {l : List D} (h : D.okL n l = true) (hn : n ≤ 60) : SeqAt.shaped (.tuple (toPys l)) = true := by
  obtain ⟨a, b⟩ := layL_of n l h
  exact Bool.and_eq_true_iff.mpr ⟨by simpa [PyData.canLay0] using a, decide_eq_true (by simp only [PyData.depth]; omega)⟩
theorem shapedL_of {n : Nat} {l : List D} (h : D.okL n l = true) (hn : n ≤ 60) : SeqAt.shaped (.list (toPys l)) = true := by
  obtain ⟨a, b⟩ := layL_of n l h
  exact Bool.and_eq_true_iff.mpr ⟨by simpa [PyData.canLay0] using a, decide_eq_true (by simp only [PyData.depth]; omega)⟩
theorem sD_beq (s t : List Nat) : (sD s == sD t) = (s == t) := by
  by_cases e : s = t
  · subst e; simp
  · rw [beq_eq_false_iff_ne.mpr (fun q => e (sD_inj q)), beq_eq_false_iff_ne.mpr e]
mutual
theorem eqv_of : ∀ (n m : Nat) (x y : D), D.ok n x = true → D.ok m y = true → PyData.eqv (toPy x) (toPy y) = D.eqv x y
  | n, m, .tup l, .tup k, hx, hy => by
    cases n with
    | zero => simp [D.ok] at hx
    | succ n =>
      cases m with
      | zero => simp [D.ok] at hy
      | succ m =>
        have h1 : (decide (l.length < lim) && D.okL n l) = true := by rw [D.ok] at hx; exact hx
        have h2 : (decide (k.length < lim) && D.okL m k) = true := by rw [D.ok] at hy; exact hy
        have := eqvL_of n m l k (Bool.and_eq_true_iff.mp h1).2 (Bool.and_eq_true_iff.mp h2).2
        simp only [toPy, PyData.eqv, D.eqv, this]
  | n, m, .tup l, .xtup k, hx, hy => by
    cases n with
    | zero => simp [D.ok] at hx
    | succ n =>
      cases m with
      | zero => simp [D.ok] at hy
      | succ m =>
        have h1 : (decide (l.length < lim) && D.okL n l) = true := by rw [D.ok] at hx; exact hx
        have h2 : (decide (k.length < lim) && D.okL m k) = true := by rw [D.ok] at hy; exact hy
        have := eqvL_of n m l k (Bool.and_eq_true_iff.mp h1).2 (Bool.and_eq_true_iff.mp h2).2
        simp only [toPy, PyData.eqv, D.eqv, this]
  | n, m, .xtup l, .tup k, hx, hy => by
    cases n with
    | zero => simp [D.ok] at hx
    | succ n =>
      cases m with
      | zero => simp [D.ok] at hy
      | succ m =>
        have h1 : (decide (l.length < lim) && D.okL n l) = true := by rw [D.ok] at hx; exact hx
        have h2 : (decide (k.length < lim) && D.okL m k) = true := by rw [D.ok] at hy; exact hy
        have := eqvL_of n m l k (Bool.and_eq_true_iff.mp h1).2 (Bool.and_eq_true_iff.mp h2).2
        simp only [toPy, PyData.eqv, D.eqv, this]
  | n, m, .xtup l, .xtup k, hx, hy => by
    cases n with
    | zero => simp [D.ok] at hx
    | succ n =>
      cases m with
      | zero => simp [D.ok] at hy
      | succ m =>
        have h1 : (decide (l.length < lim) && D.okL n l) = true := by rw [D.ok] at hx; exact hx
        have h2 : (decide (k.length < lim) && D.okL m k) = true := by rw [D.ok] at hy; exact hy
        have := eqvL_of n m l k (Bool.and_eq_true_iff.mp h1).2 (Bool.and_eq_true_iff.mp h2).2
        simp only [toPy, PyData.eqv, D.eqv, this]
  | n, m, .frz l, .frz k, hx, hy => by
    cases n with
    | zero => simp [D.ok] at hx
    | succ n =>
      cases m with
      | zero => simp [D.ok] at hy
      | succ m =>
        have h1 : (decide (l.length < lim) && D.okL n l) = true := by rw [D.ok] at hx; exact hx
        have h2 : (decide (k.length < lim) && D.okL m k) = true := by rw [D.ok] at hy; exact hy
        have := eqvL_of n m l k (Bool.and_eq_true_iff.mp h1).2 (Bool.and_eq_true_iff.mp h2).2
        simp only [toPy, PyData.eqv, D.eqv, this]
  | _, _, .str s, .str t, _, _ => by simp only [toPy, PyData.eqv, D.eqv]; exact sD_beq s t
  | _, _, .loc _, _, h, _ => by simp [D.ok] at h
  | _, _, _, .loc _, _, h => by simp [D.ok] at h
  | _, _, .frz _, .non, _, _ => rfl
  | _, _, .non, .frz _, _, _ => rfl
  | _, _, .frz _, .bl _, _, _ => rfl
  | _, _, .bl _, .frz _, _, _ => rfl
  | _, _, .frz _, .int _, _, _ => rfl
  | _, _, .int _, .frz _, _, _ => rfl
  | _, _, .frz _, .str _, _, _ => rfl
  | _, _, .str _, .frz _, _, _ => rfl
  | _, _, .frz _, .tup _, _, _ => rfl
  | _, _, .tup _, .frz _, _, _ => rfl
  | _, _, .frz _, .xtup _, _, _ => rfl
  | _, _, .xtup _, .frz _, _, _ => rfl
  | _, _, .bl a, .int j, _, _ => by simp only [toPy, PyData.eqv, D.eqv, MI.b2i]
  | _, _, .int a, .bl j, _, _ => by simp only [toPy, PyData.eqv, D.eqv, MI.b2i]
  | _, _, .non, .non, _, _ => rfl
  | _, _, .non, .bl _, _, _ => rfl
  | _, _, .non, .int _, _, _ => rfl
  | _, _, .non, .str _, _, _ => rfl
  | _, _, .non, .tup _, _, _ => rfl
  | _, _, .non, .xtup _, _, _ => rfl
  | _, _, .bl _, .non, _, _ => rfl
  | _, _, .bl _, .bl _, _, _ => rfl
  | _, _, .bl _, .str _, _, _ => rfl
  | _, _, .bl _, .tup _, _, _ => rfl
  | _, _, .bl _, .xtup _, _, _ => rfl
  | _, _, .int _, .non, _, _ => rfl
  | _, _, .int _, .int _, _, _ => rfl
  | _, _, .int _, .str _, _, _ => rfl
  | _, _, .int _, .tup _, _, _ => rfl
  | _, _, .int _, .xtup _, _, _ => rfl
  | _, _, .str _, .non, _, _ => rfl
  | _, _, .str _, .bl _, _, _ => rfl
  | _, _, .str _, .int _, _, _ => rfl
  | _, _, .str _, .tup _, _, _ => rfl
  | _, _, .str _, .xtup _, _, _ => rfl
  | _, _, .tup _, .non, _, _ => rfl
  | _, _, .tup _, .bl _, _, _ => rfl
  | _, _, .tup _, .int _, _, _ => rfl
  | _, _, .tup _, .str _, _, _ => rfl
  | _, _, .xtup _, .non, _, _ => rfl
  | _, _, .xtup _, .bl _, _, _ => rfl
  | _, _, .xtup _, .int _, _, _ => rfl
  | _, _, .xtup _, .str _, _, _ => rfl
theorem eqvL_of : ∀ (n m : Nat) (x y : List D), D.okL n x = true → D.okL m y = true → PyData.eqvAll (toPys x) (toPys y) = D.eqvL x y
  | _, _, [], [], _, _ => rfl
  | _, _, [], _ :: _, _, _ => rfl
  | _, _, _ :: _, [], _, _ => rfl
  | n, m, x :: xs, y :: ys, hx, hy => by
    have h1 : D.ok n x = true ∧ D.okL n xs = true := by rw [D.okL] at hx; exact Bool.and_eq_true_iff.mp hx
    have h2 : D.ok m y = true ∧ D.okL m ys = true := by rw [D.okL] at hy; exact Bool.and_eq_true_iff.mp hy
    simp only [toPys, PyData.eqvAll, D.eqvL, eqv_of n m x y h1.1 h2.1, eqvL_of n m xs ys h1.2 h2.2]
end
theorem okL_mem : ∀ {n : Nat} {l : List D}, D.okL n l = true → ∀ x ∈ l, D.ok n x = true
  | _, [], _, x, h => by cases h
  | n, y :: ys, h, x, hx => by
    have h2 : D.ok n y = true ∧ D.okL n ys = true := by rw [D.okL] at h; exact Bool.and_eq_true_iff.mp h
    rcases List.mem_cons.mp hx with rfl | hx
    · exact h2.1
    · exact okL_mem h2.2 x hx
theorem any_of {n : Nat} {l : List D} {x : D} (h : D.okL n l = true) (hx : D.ok n x = true) : ((toPys l).any fun z => PyData.eqv z (toPy x)) = l.any fun z => D.eqv z x := by
  rw [toPys_map, List.any_map]
  induction l with
  | nil => rfl
  | cons y ys ih =>
    have h2 : D.ok n y = true ∧ D.okL n ys = true := by rw [D.okL] at h; exact Bool.and_eq_true_iff.mp h
    simp only [List.any_cons, Function.comp, eqv_of n n y x h2.1 hx]
    rw [← ih h2.2]
theorem find_of {n : Nat} {l : List D} {x : D} (h : D.okL n l = true) (hx : D.ok n x = true) : ((toPys l).findIdx? fun z => PyData.eqv z (toPy x)) = l.findIdx? fun z => D.eqv z x := by
  rw [toPys_map, List.findIdx?_map]
  induction l with
  | nil => rfl
  | cons y ys ih =>
    have h2 : D.ok n y = true ∧ D.okL n ys = true := by rw [D.okL] at h; exact Bool.and_eq_true_iff.mp h
    have := ih h2.2
    simp only [List.findIdx?_cons, Function.comp, eqv_of n n y x h2.1 hx] at this ⊢
    rw [this]

section
variable {K : PySem.W.Frag} {cl : Nat → Addr} {E : EX}
/-! ### + -/
def rAddA (K : PySem.W.Frag) : R2 := fun x y H Q => ((rI0 fun i j => .int (i + j)) x y H Q ∨ (∃ i j, x = .str i ∧ y = .str j ∧ i.length + j.length ≤ sizeLine ∧ Q (.str (i ++ j)) H)) ∨ (rCatA K x y H Q ∨ rCat x y H Q)
theorem op_addA {X : Cx} : OpR X (binaryOp .Add) (rAddA X.K) := OpR.or (OpR.or op_add op_add_str) (OpR.or op_catA op_cat)
theorem sD_len (s : List Nat) : (sD s).length = s.length := by simp [Str.length]
theorem sD_app (s t : List Nat) : sD s ++ sD t = sD (s ++ t) := by
  show (⟨s.toArray ++ t.toArray⟩ : Str) = ⟨(s ++ t).toArray⟩
  simp
theorem RvL.nil_iff {H : Hp} {ρ : List Addr} {vs : List V} {ds : List D} (r : RvL K H ρ vs ds) : vs = [] ↔ ds = [] := by
  have e := r.length
  constructor
  · intro q; subst q; exact List.eq_nil_of_length_eq_zero e.symm
  · intro q; subst q; exact List.eq_nil_of_length_eq_zero e
theorem s_add : OpS K cl E opAdd (rAddA K) := by
  intro σ Q ρ H st v1 v2 d1 d2 A r1 r2 h
  cases r1 with
  | int i =>
    cases r2 with
    | int j => exact .inl (.inl ⟨i, j, rfl, rfl, h.ok (st' := st) rfl .refl A (.int _)⟩)
    | _ => exact h.none rfl
  | str s =>
    cases r2 with
    | str t =>
      by_cases hl : s.length + t.length < lim
      · refine .inl (.inr ⟨_, _, rfl, rfl, by rw [sD_len, sD_len]; exact lim_size hl, ?_⟩)
        rw [sD_app]
        exact h.ok (st' := st) (d := .str (s ++ t)) (by simp [opAdd, hl]) .refl A (.str _)
      · exact h.none (by simp [opAdd, hl])
    | _ => exact h.none rfl
  | @tup a vs l hs r =>
    cases r2 with
    | @tup b ws m hs' r' =>
      by_cases hl : l.length + m.length < lim
      · have e : opAdd (.tup l) (.tup m) st = some (.ok (.tup (l ++ m)), st) := by simp [opAdd, hl]
        refine .inr (.inl ⟨a, b, vs, ws, rfl, rfl, hs, hs', by rw [r.length, r'.length]; exact lim_size hl, fun z => ?_, fun _ z => ?_, fun _ _ p n => ?_⟩)
        · have zl : l = [] := r.nil_iff.mp z
          refine h.ok e .refl A ?_
          rw [zl]; exact .tup hs' r'
        · have zl : m = [] := r'.nil_iff.mp z
          refine h.ok e .refl A ?_
          rw [zl, List.append_nil]; exact .tup hs r
        · exact rest_tup A (r.append r') h e p n
      · exact h.none (by simp [opAdd, hl])
    | _ => exact h.none rfl
  | @loc a n ha =>
    cases r2 with
    | @loc b m hb =>
      cases e1 : st[n]? with
      | none => exact h.none (by simp [opAdd, e1])
      | some o =>
        cases e2 : st[m]? with
        | none => exact h.none (by simp [opAdd, e1, e2])
        | some o' =>
          have q1 := A.get ha e1
          have q2 := A.get hb e2
          cases q1 with
          | @lst vs l h1 s1 =>
            cases q2 with
            | @lst ws m' h2 s2 =>
              by_cases hl : l.length + m'.length < lim
              · refine .inr (.inr ⟨a, b, vs, ws, rfl, rfl, h1, h2, by rw [s1.length, s2.length]; exact lim_size hl, fun p n => ?_⟩)
                exact rest_lst A (s1.append s2) h (by simp [opAdd, e1, e2, hl, MI.new]) p n
              · exact h.none (by simp [opAdd, e1, e2, hl])
            | _ => exact h.none (by simp [opAdd, e1, e2])
          | _ => exact h.none (by simp [opAdd, e1])
    | _ => exact h.none rfl
  | _ => exact h.none rfl
theorem s_sub : OpS K cl E opSub (rI0 fun i j => .int (i - j)) := by
  intro σ Q ρ H st v1 v2 d1 d2 A r1 r2 h
  cases r1 with
  | int i =>
    cases r2 with
    | int j => exact ⟨i, j, rfl, rfl, h.ok (st' := st) rfl .refl A (.int _)⟩
    | _ => exact h.none rfl
  | _ => exact h.none rfl
theorem s_mod : OpS K cl E opMod (rI (fun _ j => 0 < j) fun i j => .int (i % j)) := by
  intro σ Q ρ H st v1 v2 d1 d2 A r1 r2 h
  cases r1 with
  | int i =>
    cases r2 with
    | int j =>
      by_cases hj : 0 < j
      · exact ⟨i, j, rfl, rfl, hj, h.ok (st' := st) (d := .int (i % j)) (by simp [opMod, hj]) .refl A (.int _)⟩
      · exact h.none (by simp [opMod, hj])
    | _ => exact h.none rfl
  | _ => exact h.none rfl
theorem s_div : OpS K cl E opDiv (rI CDiv fun i j => .int (i / j)) := by
  intro σ Q ρ H st v1 v2 d1 d2 A r1 r2 h
  cases r1 with
  | int i =>
    cases r2 with
    | int j =>
      by_cases hj : 0 < j ∧ j < 1073741824
      · exact ⟨i, j, rfl, rfl, hj, h.ok (st' := st) (d := .int (i / j)) (by simp [opDiv, hj]) .refl A (.int _)⟩
      · exact h.none (by simp only [opDiv, if_neg hj])
    | _ => exact h.none rfl
  | _ => exact h.none rfl
theorem s_pow : OpS K cl E opPow (rI CPow fun i j => .int (i ^ j.toNat)) := by
  intro σ Q ρ H st v1 v2 d1 d2 A r1 r2 h
  cases r1 with
  | int i =>
    cases r2 with
    | int j =>
      by_cases hj : 0 ≤ j ∧ j ≤ 100 ∧ -MI.big < i ∧ i < MI.big
      · refine ⟨i, j, rfl, rfl, ⟨hj.1, by omega, ?_⟩, h.ok (st' := st) (d := .int (i ^ j.toNat)) (by simp only [opPow, if_pos hj]) .refl A (.int _)⟩
        have := hj.2.2
        unfold MI.big at this
        omega
      · exact h.none (by simp only [opPow, if_neg hj])
    | _ => exact h.none rfl
  | _ => exact h.none rfl
/-! ### * -/
def rMulA (K : PySem.W.Frag) : R2 := fun x y H Q => (rI CMul fun i j => .int (i * j)) x y H Q ∨ (rRepA K x y H Q ∨ rRep x y H Q)
theorem op_mulA {X : Cx} : OpR X (binaryOp .Mult) (rMulA X.K) := OpR.or op_mul (OpR.or op_repA op_rep)
theorem RvL.rep {H : Hp} {ρ : List Addr} {vs : List V} {ds : List D} (r : RvL K H ρ vs ds) : ∀ n : Nat, RvL K H ρ (List.replicate n vs).flatten (List.replicate n ds).flatten
  | 0 => by simp; exact .nil
  | n + 1 => by
    rw [List.replicate_succ, List.replicate_succ, List.flatten_cons, List.flatten_cons]
    exact r.append (RvL.rep r n)
theorem s_mul : OpS K cl E opMul (rMulA K) := by
  intro σ Q ρ H st v1 v2 d1 d2 A r1 r2 h
  cases r1 with
  | int i =>
    cases r2 with
    | int j =>
      by_cases hj : (-MI.big < i ∧ i < MI.big) ∨ (-MI.big < j ∧ j < MI.big)
      · refine .inl ⟨i, j, rfl, rfl, ?_, h.ok (st' := st) (d := .int (i * j)) (by simp only [opMul, if_pos hj]) .refl A (.int _)⟩
        unfold MI.big at hj
        unfold CMul
        omega
      · exact h.none (by simp only [opMul, if_neg hj])
    | _ => exact h.none rfl
  | @tup a vs l hs r =>
    cases r2 with
    | int j =>
      by_cases hj : j < lim ∧ -lim < j ∧ l.length * j.toNat < 16000000
      · have e : opMul (.tup l) (.int j) st = some (.ok (.tup (List.replicate j.toNat l).flatten), st) := by simp only [opMul, if_pos hj]
        refine .inr (.inl ⟨a, j, vs, rfl, rfl, hs, by have hl : (lim : Nat) = 16777216 := rfl; omega, by have hl : (lim : Nat) = 16777216 := rfl; omega, by rw [r.length]; omega, fun z => ?_, fun p n => rest_tup A (r.rep _) h e p n⟩)
        refine h.ok e .refl A ?_
        have q : (List.replicate j.toNat l).flatten = l := by
          rcases z with z | z
          · have : l = [] := r.nil_iff.mp z
            rw [this]; simp
          · rw [z]; simp
        rw [q]; exact .tup hs r
      · exact h.none (by simp only [opMul, if_neg hj])
    | _ => exact h.none rfl
  | @loc a n ha =>
    cases r2 with
    | int j =>
      cases e1 : st[n]? with
      | none => exact h.none (by simp [opMul, e1])
      | some o =>
        have q1 := A.get ha e1
        cases q1 with
        | @lst vs l h1 s1 =>
          by_cases hj : j < lim ∧ -lim < j ∧ l.length * j.toNat < lim
          · refine .inr (.inr ⟨a, j, vs, rfl, rfl, h1, by have hl : (lim : Nat) = 16777216 := rfl; omega, by have hl : (lim : Nat) = 16777216 := rfl; omega, by rw [s1.length]; exact lim_size hj.2.2, fun p n => ?_⟩)
            exact rest_lst A (s1.rep _) h (by simp only [opMul, e1, if_pos hj, MI.new]) p n
          · exact h.none (by simp only [opMul, e1, if_neg hj])
        | _ => exact h.none (by simp [opMul, e1])
    | _ => exact h.none rfl
  | str s =>
    cases r2 with
    | int j => exact h.none rfl
    | _ => exact h.none rfl
  | _ => exact h.none rfl
/-! ### comparisons -/
theorem s_lt : OpS K cl E opLt (rI0 fun i j => .bl (decide (i < j))) := by
  intro σ Q ρ H st v1 v2 d1 d2 A r1 r2 h
  cases r1 with
  | int i =>
    cases r2 with
    | int j => exact ⟨i, j, rfl, rfl, h.ok (st' := st) rfl .refl A (.bl _)⟩
    | _ => exact h.none rfl
  | _ => exact h.none rfl
theorem s_le : OpS K cl E opLe (rI0 fun i j => .bl (decide (i ≤ j))) := by
  intro σ Q ρ H st v1 v2 d1 d2 A r1 r2 h
  cases r1 with
  | int i =>
    cases r2 with
    | int j => exact ⟨i, j, rfl, rfl, h.ok (st' := st) rfl .refl A (.bl _)⟩
    | _ => exact h.none rfl
  | _ => exact h.none rfl
theorem s_gt : OpS K cl E opGt (rI0 fun i j => .bl (decide (j < i))) := by
  intro σ Q ρ H st v1 v2 d1 d2 A r1 r2 h
  cases r1 with
  | int i =>
    cases r2 with
    | int j => exact ⟨i, j, rfl, rfl, h.ok (st' := st) rfl .refl A (.bl _)⟩
    | _ => exact h.none rfl
  | _ => exact h.none rfl
theorem s_ge : OpS K cl E opGe (rI0 fun i j => .bl (decide (j ≤ i))) := by
  intro σ Q ρ H st v1 v2 d1 d2 A r1 r2 h
  cases r1 with
  | int i =>
    cases r2 with
    | int j => exact ⟨i, j, rfl, rfl, h.ok (st' := st) rfl .refl A (.bl _)⟩
    | _ => exact h.none rfl
  | _ => exact h.none rfl
theorem bnd_inv {α β : Type} {x : MI.R α} {f : α → MI.R β} {st : Stt} {a : α} {st' : Stt} (h : x st = some (.ok a, st')) : bnd x f st = f a st' := by unfold bnd; rw [h]
theorem bnd_none {α β : Type} {x : MI.R α} {f : α → MI.R β} {st : Stt} (h : x st = Option.none) : bnd x f st = Option.none := by unfold bnd; rw [h]
/-- == and != : what eqD says, where it says something -/
theorem dat_ok {ρ : List Addr} {H : Hp} {st : Stt} {v : V} {d : D} (A : At K cl ρ H st) (r : Rv K H ρ v d) : dat d st = Option.none ∨ ∃ a, dat d st = some a ∧ (D.ok deep a = true → Dp K H v (toPy a)) := by
  cases r with
  | @loc a n ha =>
    cases e1 : st[n]? with
    | none => exact .inl (by simp [dat, e1])
    | some o =>
      have q1 := A.get ha e1
      cases q1 with
      | @lst vs l h1 s1 =>
        refine .inr ⟨.frz l, by simp [dat, e1], fun ho => ?_⟩
        have h2 : (decide (l.length < lim) && D.okL 39 l) = true := by rw [D.ok] at ho; exact ho
        exact .lst (SqL.of h1) (dpL_of _ _ _ (Bool.and_eq_true_iff.mp h2).2 s1)
      | _ => exact .inl (by simp [dat, e1])
  | non => exact .inr ⟨_, rfl, fun h => dp_of (ρ := ρ) _ _ _ h .non⟩
  | bl b => exact .inr ⟨_, rfl, fun h => dp_of (ρ := ρ) _ _ _ h (.bl b)⟩
  | int b => exact .inr ⟨_, rfl, fun h => dp_of (ρ := ρ) _ _ _ h (.int b)⟩
  | str b => exact .inr ⟨_, rfl, fun h => dp_of (ρ := ρ) _ _ _ h (.str b)⟩
  | tup hs r => exact .inr ⟨_, rfl, fun h => dp_of _ _ _ h (.tup hs r)⟩
  | frz hs r => exact .inr ⟨_, rfl, fun h => dp_of _ _ _ h (.frz hs r)⟩
  | xtup hs r => exact .inr ⟨_, rfl, fun h => dp_of _ _ _ h (.xtup hs r)⟩
theorem eqD_ok {ρ : List Addr} {H : Hp} {st : Stt} {v1 v2 : V} {d1 d2 : D} (A : At K cl ρ H st) (r1 : Rv K H ρ v1 d1) (r2 : Rv K H ρ v2 d2) :
    eqD d1 d2 st = Option.none ∨ ∃ b x y, eqD d1 d2 st = some (.ok b, st) ∧ Dp K H v1 x ∧ Dp K H v2 y ∧ SeqAt.shaped x = true ∧ SeqAt.shaped y = true ∧ PyData.eqv x y = b := by
  rcases dat_ok A r1 with e | ⟨a, e, da⟩
  · exact .inl (by simp [eqD, e])
  · rcases dat_ok A r2 with f | ⟨b, f, db⟩
    · exact .inl (by simp [eqD, e, f])
    · by_cases ho : (D.ok deep a && D.ok deep b) = true
      · obtain ⟨o1, o2⟩ := Bool.and_eq_true_iff.mp ho
        exact .inr ⟨D.eqv a b, toPy a, toPy b, by simp only [eqD, e, f, if_pos ho], da o1, db o2, shaped_of o1 (by decide), shaped_of o2 (by decide), eqv_of _ _ _ _ o1 o2⟩
      · exact .inl (by simp only [eqD, e, f, if_neg ho])
theorem s_eq : OpS K cl E opEq (rEqD K) := by
  intro σ Q ρ H st v1 v2 d1 d2 A r1 r2 h
  rcases eqD_ok A r1 r2 with e | ⟨b, x, y, e, dx, dy, sx, sy, q⟩
  · exact h.none (bnd_none e)
  · exact ⟨x, y, dx, dy, sx, sy, h.ok (st' := st) (d := .bl b) (by unfold opEq; rw [bnd_inv e]; rfl) .refl A (by rw [q]; exact .bl b)⟩
theorem s_ne : OpS K cl E opNe (rNeD K) := by
  intro σ Q ρ H st v1 v2 d1 d2 A r1 r2 h
  rcases eqD_ok A r1 r2 with e | ⟨b, x, y, e, dx, dy, sx, sy, q⟩
  · exact h.none (bnd_none e)
  · exact ⟨x, y, dx, dy, sx, sy, h.ok (st' := st) (d := .bl (!b)) (by unfold opNe; rw [bnd_inv e]; rfl) .refl A (by rw [q]; exact .bl (!b))⟩
end
end MS

set_option Elab.async false
set_option linter.all false
set_option maxRecDepth 100000
set_option maxHeartbeats 4000000
/-! MS4: in, is None, and, or, not as values, chains, subscripts, slices, fields, calls, methods. -/
namespace MS
open PySem PySem.Spec PyProof.Rows L2 MI

section
variable {K : PySem.W.Frag} {cl : Nat → Addr} {E : EX}
/-! ### in -/
def rInA (K : PySem.W.Frag) : R2 := fun x y H Q => ((∃ d ds, Dp K H x d ∧ Dp K H y (.tuple ds) ∧ SeqAt.shaped d = true ∧ SeqAt.shaped (.tuple ds) = true ∧ Q (.bl (ds.any fun z => PyData.eqv z d)) H) ∨ rInD K x y H Q) ∨
  (∃ (c : Nat) (z : Str), x = .str ⟨#[c]⟩ ∧ y = .str z ∧ Q (.bl (decide (c ∈ z.cps.toList))) H)
theorem op_inA {X : Cx} (hu : X.A.units + 65 < cLine) : OpR X (compareOp .In) (rInA X.K) := OpR.or (OpR.or (op_inDT hu) (op_inD hu)) op_in_sign
def rNotInA (K : PySem.W.Frag) : R2 := fun x y H Q => ((∃ d ds, Dp K H x d ∧ Dp K H y (.tuple ds) ∧ SeqAt.shaped d = true ∧ SeqAt.shaped (.tuple ds) = true ∧ Q (.bl (!ds.any fun z => PyData.eqv z d)) H) ∨ rNotInD K x y H Q) ∨
  (∃ (c : Nat) (z : Str), x = .str ⟨#[c]⟩ ∧ y = .str z ∧ Q (.bl (!decide (c ∈ z.cps.toList))) H)
theorem op_notInA {X : Cx} (hu : X.A.units + 65 < cLine) : OpR X (compareOp .NotIn) (rNotInA X.K) := OpR.or (OpR.or (op_notInDT hu) (op_notInD hu)) op_notIn_sign
/-- what isInT says, where it says something -/
theorem isIn_ok {ρ : List Addr} {H : Hp} {st : Stt} {v1 v2 : V} {d1 d2 : D} (A : At K cl ρ H st) (r1 : Rv K H ρ v1 d1) (r2 : Rv K H ρ v2 d2) :
    isInT d1 d2 st = Option.none ∨ ∃ b, isInT d1 d2 st = some (.ok b, st) ∧
      (((∃ d ds, Dp K H v1 d ∧ Dp K H v2 (.tuple ds) ∧ SeqAt.shaped d = true ∧ SeqAt.shaped (.tuple ds) = true ∧ (ds.any fun z => PyData.eqv z d) = b) ∨
        (∃ d ds, Dp K H v1 d ∧ Dp K H v2 (.list ds) ∧ SeqAt.shaped d = true ∧ SeqAt.shaped (.list ds) = true ∧ (ds.any fun z => PyData.eqv z d) = b)) ∨
      (∃ (c : Nat) (z : Str), v1 = .str ⟨#[c]⟩ ∧ v2 = .str z ∧ decide (c ∈ z.cps.toList) = b)) := by
  cases r2 with
  | @tup a vs l hs r =>
    by_cases ho : (D.ok deep d1 && D.okL deep l) = true
    · obtain ⟨o1, o2⟩ := Bool.and_eq_true_iff.mp ho
      refine .inr ⟨_, by simp only [isInT, if_pos ho], .inl (.inl ⟨toPy d1, toPys l, dp_of _ _ _ o1 r1, .tup hs (dpL_of _ _ _ o2 r), shaped_of o1 (by decide), shapedT_of o2 (by decide), any_of o2 o1⟩)⟩
    · exact .inl (by simp only [isInT, if_neg ho])
  | @xtup a vs l hs r =>
    by_cases ho : (D.ok deep d1 && D.okL deep l) = true
    · obtain ⟨o1, o2⟩ := Bool.and_eq_true_iff.mp ho
      refine .inr ⟨_, by simp only [isInT, if_pos ho], .inl (.inl ⟨toPy d1, toPys l, dp_of _ _ _ o1 r1, .tup hs.seq (dpL_of _ _ _ o2 r), shaped_of o1 (by decide), shapedT_of o2 (by decide), any_of o2 o1⟩)⟩
    · exact .inl (by simp only [isInT, if_neg ho])
  | @frz a vs l hs r =>
    by_cases ho : (D.ok deep d1 && D.okL deep l) = true
    · obtain ⟨o1, o2⟩ := Bool.and_eq_true_iff.mp ho
      refine .inr ⟨_, by simp only [isInT, if_pos ho], .inl (.inr ⟨toPy d1, toPys l, dp_of _ _ _ o1 r1, .lst hs.seq (dpL_of _ _ _ o2 r), shaped_of o1 (by decide), shapedL_of o2 (by decide), any_of o2 o1⟩)⟩
    · exact .inl (by simp only [isInT, if_neg ho])
  | @loc a n ha =>
    cases e1 : st[n]? with
    | none => exact .inl (by simp [isInT, e1])
    | some o =>
      have q1 := A.get ha e1
      cases q1 with
      | @lst vs l h1 s1 =>
        by_cases ho : (D.ok deep d1 && D.okL deep l) = true
        · obtain ⟨o1, o2⟩ := Bool.and_eq_true_iff.mp ho
          refine .inr ⟨_, by simp only [isInT, e1, if_pos ho], .inl (.inr ⟨toPy d1, toPys l, dp_of _ _ _ o1 r1, .lst (SqL.of h1) (dpL_of _ _ _ o2 s1), shaped_of o1 (by decide), shapedL_of o2 (by decide), any_of o2 o1⟩)⟩
        · exact .inl (by simp only [isInT, e1, if_neg ho])
      | _ => exact .inl (by simp [isInT, e1])
  | str t =>
    cases r1 with
    | str s =>
      cases s with
      | nil => exact .inl (by simp [isInT])
      | cons c r =>
        cases r with
        | nil => exact .inr ⟨_, by simp only [isInT]; rfl, .inr ⟨c, sD t, rfl, rfl, by simp [sD]⟩⟩
        | cons _ _ => exact .inl (by simp [isInT])
    | _ => exact .inl (by simp [isInT])
  | _ => exact .inl (by simp [isInT])
theorem s_in : OpS K cl E opIn (rInA K) := by
  intro σ Q ρ H st v1 v2 d1 d2 A r1 r2 h
  rcases isIn_ok A r1 r2 with e | ⟨b, e, q⟩
  · exact h.none (bnd_none e)
  · have fin : Q (.bl b) H := h.ok (st' := st) (d := .bl b) (by unfold opIn; rw [bnd_inv e]; rfl) .refl A (.bl b)
    rcases q with (⟨d, ds, a1, a2, a3, a4, q⟩ | ⟨d, ds, a1, a2, a3, a4, q⟩) | ⟨c, z, a1, a2, q⟩
    · exact .inl (.inl ⟨d, ds, a1, a2, a3, a4, by rw [q]; exact fin⟩)
    · exact .inl (.inr ⟨d, ds, a1, a2, a3, a4, by rw [q]; exact fin⟩)
    · exact .inr ⟨c, z, a1, a2, by rw [q]; exact fin⟩
theorem s_notIn : OpS K cl E opNotIn (rNotInA K) := by
  intro σ Q ρ H st v1 v2 d1 d2 A r1 r2 h
  rcases isIn_ok A r1 r2 with e | ⟨b, e, q⟩
  · exact h.none (bnd_none e)
  · have fin : Q (.bl (!b)) H := h.ok (st' := st) (d := .bl (!b)) (by unfold opNotIn; rw [bnd_inv e]; rfl) .refl A (.bl (!b))
    rcases q with (⟨d, ds, a1, a2, a3, a4, q⟩ | ⟨d, ds, a1, a2, a3, a4, q⟩) | ⟨c, z, a1, a2, q⟩
    · exact .inl (.inl ⟨d, ds, a1, a2, a3, a4, by rw [q]; exact fin⟩)
    · exact .inl (.inr ⟨d, ds, a1, a2, a3, a4, by rw [q]; exact fin⟩)
    · exact .inr ⟨c, z, a1, a2, by rw [q]; exact fin⟩
theorem Rv.non_iff {ρ : List Addr} {H : Hp} {v : V} {d : D} (r : Rv K H ρ v d) : decide (v = .non) = MI.isNone d := by
  cases r <;> rfl
theorem s_neg : UnS K cl E opNeg (rU fun i => .int (-i)) := by
  intro σ Q ρ H st v1 d1 A r1 h
  cases r1 with
  | int i => exact ⟨i, rfl, h.ok (st' := st) rfl .refl A (.int _)⟩
  | _ => exact h.none rfl
end

section
variable {X : Cx} {cl : Nat → Addr} {E : EX} {c : MI.Ctx} {a b d e : Expr} {ga gb gd : SE} {pos : Pos}
theorem me_isN {j : Nat} {p : Pos} (ha : ME X cl E c a ga) : ME X cl E c (.Compare a [.Is] [.Constant .none j p] pos) (eUn opIsN ga) :=
  peI (pe_cmpR op_isN ha pe_non (nomark _)) fun σ H Q h => by
    obtain ⟨ρ, env, st, A, e, h⟩ := h
    refine (Rest.step (g := ga c) (rV X.K) A e h).imp fun v1 H1 ⟨ρ1, st1, d1, g1, A1, r1, h1⟩ => ⟨rfl, ?_⟩
    rw [r1.non_iff]
    exact h1.ok (st' := st1) rfl .refl A1 (.bl _)
theorem me_notN {j : Nat} {p : Pos} (ha : ME X cl E c a ga) : ME X cl E c (.Compare a [.IsNot] [.Constant .none j p] pos) (eUn opNotN ga) :=
  peI (pe_cmpR op_notN ha pe_non (nomark _)) fun σ H Q h => by
    obtain ⟨ρ, env, st, A, e, h⟩ := h
    refine (Rest.step (g := ga c) (rV X.K) A e h).imp fun v1 H1 ⟨ρ1, st1, d1, g1, A1, r1, h1⟩ => ⟨rfl, ?_⟩
    rw [r1.non_iff]
    exact h1.ok (st' := st1) rfl .refl A1 (.bl _)
/-- the same as a test -/
theorem mt_isN {j : Nat} {p : Pos} (ha : ME X cl E c a ga) : MT X cl E c (.Compare a [.Is] [.Constant .none j p] pos) (cB (eUn opIsN ga)) :=
  ptI (pt_cmpR op_isN ha pe_non (nomark _)) fun σ H Q h => by
    obtain ⟨ρ, env, st, A, e, h⟩ := h
    have h' : Rest X.K cl E rB σ Q (bnd (ga c env) fun x => MI.ret (MI.isNone x)) ρ H st := h.eq (by
      simp only [cB, eUn, bnd, opIsN, MI.ret]
      cases q : ga c env st with
      | none => rfl
      | some p => obtain ⟨rs, s'⟩ := p; cases rs <;> rfl)
    refine (Rest.step (g := ga c) (rV X.K) A e h').imp fun v1 H1 ⟨ρ1, st1, d1, g1, A1, r1, h1⟩ => ⟨rfl, _, rfl, ?_⟩
    exact h1.ok (st' := st1) rfl .refl A1 (r1.non_iff)
theorem mt_notN {j : Nat} {p : Pos} (ha : ME X cl E c a ga) : MT X cl E c (.Compare a [.IsNot] [.Constant .none j p] pos) (cB (eUn opNotN ga)) :=
  ptI (pt_cmpR op_notN ha pe_non (nomark _)) fun σ H Q h => by
    obtain ⟨ρ, env, st, A, e, h⟩ := h
    have h' : Rest X.K cl E rB σ Q (bnd (ga c env) fun x => MI.ret (!MI.isNone x)) ρ H st := h.eq (by
      simp only [cB, eUn, bnd, opNotN, MI.ret]
      cases q : ga c env st with
      | none => rfl
      | some p => obtain ⟨rs, s'⟩ := p; cases rs <;> rfl)
    refine (Rest.step (g := ga c) (rV X.K) A e h').imp fun v1 H1 ⟨ρ1, st1, d1, g1, A1, r1, h1⟩ => ⟨rfl, _, rfl, ?_⟩
    exact h1.ok (st' := st1) rfl .refl A1 (by rw [r1.non_iff])

/-! ### and, or, not as values -/
variable {rest : List Expr}
theorem me_one {op : BoolOp} (h : ME X cl E c a ga) : ME X cl E c (.BoolOp op [a] pos) ga := pe_one h
theorem me_and (ha : ME X cl E c a ga) (hb : ME X cl E c (.BoolOp .And (b :: rest) pos) gb) : ME X cl E c (.BoolOp .And (a :: b :: rest) pos) (eAnd ga gb) :=
  peI (pe_and ha hb) fun σ H Q h => by
    obtain ⟨ρ, env, st, A, e, h⟩ := h
    refine (Rest.step (g := ga c) (rV X.K) A e h).imp fun v1 H1 ⟨ρ1, st1, d1, g1, A1, r1, h1⟩ => ?_
    cases r1 with
    | bl k =>
      refine ⟨k, rfl, ?_⟩
      cases k with
      | true => exact iteT ⟨ρ1, env, st1, A1, e.grow A g1, h1⟩
      | false => exact iteF (h1.ok (st' := st1) rfl .refl A1 (.bl _))
    | _ => exact h1.none rfl
theorem me_or (ha : ME X cl E c a ga) (hb : ME X cl E c (.BoolOp .Or (b :: rest) pos) gb) : ME X cl E c (.BoolOp .Or (a :: b :: rest) pos) (eOr ga gb) :=
  peI (pe_or ha hb) fun σ H Q h => by
    obtain ⟨ρ, env, st, A, e, h⟩ := h
    refine (Rest.step (g := ga c) (rV X.K) A e h).imp fun v1 H1 ⟨ρ1, st1, d1, g1, A1, r1, h1⟩ => ?_
    cases r1 with
    | bl k =>
      refine ⟨k, rfl, ?_⟩
      cases k with
      | true => exact iteT (h1.ok (st' := st1) rfl .refl A1 (.bl _))
      | false => exact iteF ⟨ρ1, env, st1, A1, e.grow A g1, h1⟩
    | _ => exact h1.none rfl
theorem me_not (ha : ME X cl E c a ga) : ME X cl E c (.UnaryOp .Not a pos) (eNot ga) :=
  peI (pe_not ha) fun σ H Q h => by
    obtain ⟨ρ, env, st, A, e, h⟩ := h
    refine (Rest.step (g := ga c) (rV X.K) A e h).imp fun v1 H1 ⟨ρ1, st1, d1, g1, A1, r1, h1⟩ => ?_
    cases r1 with
    | bl k => exact ⟨k, rfl, h1.ok (st' := st1) rfl .refl A1 (.bl _)⟩
    | _ => exact h1.none rfl

/-! ### a op b op' d -/
theorem tm_chain {f g : D → D → MI.R D} {r r' : R2} (hs : OpS X.K cl E f r) (hs' : OpS X.K cl E g r') {σ : L2.St} {H : Hp} {Q : VK} (h : TM X.K cl E (rV X.K) (eChain f g ga gb gd c) σ H Q) :
    tChain r r' (TM X.K cl E (rV X.K) (ga c)) (TM X.K cl E (rV X.K) (gb c)) (TM X.K cl E (rV X.K) (gd c)) σ H Q := by
  obtain ⟨ρ, env, st, A, e, h⟩ := h
  refine (Rest.step (g := ga c) (rV X.K) A e h).imp fun v1 H1 ⟨ρ1, st1, d1, g1, A1, r1, h1⟩ => ?_
  refine (Rest.step (g := gb c) (rV X.K) A1 (e.grow A g1) h1).imp fun v2 H2 ⟨ρ2, st2, d2, g2, A2, r2, h2⟩ => ?_
  have e2 := (e.grow A g1).grow A1 g2
  refine hs (σ := σ) (st := st2) A2 (r1.grow A1 g2) r2 ?_
  -- the rest behind the first comparison
  rcases h2 with ⟨d', st', q, k⟩ | ⟨cc, fs, st', q, k⟩
  · unfold bnd at q
    cases qf : f d1 d2 st2 with
    | none => rw [qf] at q; cases q
    | some p =>
      obtain ⟨rs, s3⟩ := p
      rw [qf] at q
      cases rs with
      | exc c2 fs2 => cases q
      | ok z =>
        refine .inl ⟨z, s3, qf, fun ρ3 H3 v3 g3 A3 r3 => ?_⟩
        cases r3 with
        | bl k' =>
          refine ⟨k', rfl, ?_⟩
          cases k' with
          | true =>
            refine iteT ?_
            refine (Rest.step (rel' := rV X.K) (Q := Q) (g := gd c) (rV X.K) (f := fun z => g d2 z) A3 (e2.grow A2 g3) (.inl ⟨d', st', q, fun ρ' H' v g' A' r => k ρ' H' v (g3.trans g') A' r⟩)).imp fun v4 H4 ⟨ρ4, st4, d4, g4, A4, r4, h4⟩ => ?_
            exact hs' A4 (r2.grow A2 (g3.trans g4)) r4 h4
          | false =>
            refine iteF ?_
            have q' : some ((Rs.ok (D.bl false), s3) : Rs D × Stt) = some (Rs.ok d', st') := q
            cases q'
            exact k _ _ _ g3 A3 (.bl _)
        | _ => cases q
  · unfold bnd at q
    cases qf : f d1 d2 st2 with
    | none => rw [qf] at q; cases q
    | some p =>
      obtain ⟨rs, s3⟩ := p
      rw [qf] at q
      cases rs with
      | exc c2 fs2 =>
        cases q
        exact .inr ⟨_, _, _, qf, k⟩
      | ok z =>
        refine .inl ⟨z, s3, qf, fun ρ3 H3 v3 g3 A3 r3 => ?_⟩
        cases r3 with
        | bl k' =>
          refine ⟨k', rfl, ?_⟩
          cases k' with
          | true =>
            refine iteT ?_
            refine (Rest.step (rel' := rV X.K) (Q := Q) (g := gd c) (rV X.K) (f := fun z => g d2 z) A3 (e2.grow A2 g3) (.inr ⟨cc, fs, st', q, fun ρ' H' g' A' => k ρ' H' (g3.trans g') A'⟩)).imp fun v4 H4 ⟨ρ4, st4, d4, g4, A4, r4, h4⟩ => ?_
            exact hs' A4 (r2.grow A2 (g3.trans g4)) r4 h4
          | false =>
            have q' : some ((Rs.ok (D.bl false), s3) : Rs D × Stt) = some (Rs.exc cc fs, st') := q
            cases q'
        | _ => cases q
theorem me_chain {op op' : CmpOp} {f g : D → D → MI.R D} {r r' : R2} (ho : OpR X (compareOp op) r) (ho' : OpR X (compareOp op') r') (hs : OpS X.K cl E f r) (hs' : OpS X.K cl E g r') (ha : ME X cl E c a ga) (hb : ME X cl E c b gb) (hd : ME X cl E c d gd)
    (hm : lastMarks [op, op'] [b, d] = false := by with_unfolding_all rfl) : ME X cl E c (.Compare a [op, op'] [b, d] pos) (eChain f g ga gb gd) :=
  peI (pe_chain ho ho' ha hb hd hm) fun σ H Q h => tm_chain hs hs' h
theorem mt_chain {op op' : CmpOp} {f g : D → D → MI.R D} {r r' : R2} (ho : OpR X (compareOp op) r) (ho' : OpR X (compareOp op') r') (hs : OpS X.K cl E f r) (hs' : OpS X.K cl E g r') (ha : ME X cl E c a ga) (hb : ME X cl E c b gb) (hd : ME X cl E c d gd)
    (hm : lastMarks [op, op'] [b, d] = false := by with_unfolding_all rfl) : MT X cl E c (.Compare a [op, op'] [b, d] pos) (cB (eChain f g ga gb gd)) :=
  ptI (pt_chain ho ho' ha hb hd hm) fun σ H Q h => tm_chain hs hs' (Q := fun x H' => ∃ k, x = .bl k ∧ Q k H') (tm_b (ga := eChain f g ga gb gd) rfl h)
end
end MS

set_option Elab.async false
set_option linter.all false
set_option maxRecDepth 100000
set_option maxHeartbeats 4000000
/-! MSG: a def's promise where no repr is under way (repr of a tuple asks that). -/
namespace MS
open PySem PySem.Spec PyProof.Rows L2
/-- as L2.FnOk, of such surroundings alone -/
structure FnOk (P : Program) (w : World) (K : PySem.W.Frag) (mg : Str → Option Value) (base : Heap) (C : CXT) (k : Nat) (f : Addr) (fd : FuncData) (ps : List Str) (sp : Sp) : Prop where
  len : ∀ vs H Q E, sp vs H Q E → vs.length = ps.length
  run : ∀ (A : Around) (outer : List Env) (s : Shared) (H : Hp) (args : Args) (us : List Value) (vs : List V) (Q : VK) (E : XK), A.guards = some [] → Room k A → Env0 P w K mg base A outer s H → BindsTo s fd args (ps.zip us) → Vals vs us →
    sp vs H Q E → codeAny (model P w) A (.call (.ref f) args) (CR C outer P w H s Q E) s
section
variable {P : Program} {w : World} {K : PySem.W.Frag} {mg : Str → Option Value} {base : Heap} {C : CXT} {f : Addr} {fd : FuncData} {ps : List Str} {sp sp' : Sp}
theorem FnOk.mono {j k : Nat} (F : FnOk P w K mg base C j f fd ps sp) (h : j ≤ k) : FnOk P w K mg base C k f fd ps sp := ⟨F.len, fun A outer s H args us vs Q E hg hr => F.run A outer s H args us vs Q E hg (hr.mono h)⟩
theorem FnOk.imp {k : Nat} (F : FnOk P w K mg base C k f fd ps sp) (h : ∀ vs H Q E, sp' vs H Q E → sp vs H Q E) : FnOk P w K mg base C k f fd ps sp' :=
  ⟨fun vs H Q E q => F.len vs H Q E (h _ _ _ _ q), fun A outer s H args us vs Q E hg hr e0 hb r q => F.run A outer s H args us vs Q E hg hr e0 hb r (h _ _ _ _ q)⟩
/-- the ends of a call, seen by its caller -/
theorem ends_of {X : Cx} {E : L2.St → XK} {C : CXT} {pins : List (Addr × Obj)} {σ : L2.St} {H : Hp} {s : Shared} {Q : VK} (hx : PassesAt C X σ (E σ)) (I : Inv X pins σ H s) : ∀ (r : Result) (s' : Shared), CR C X.stack X.prog X.w H s Q (E σ) r s' → match r with
    | .ok (.ret u) => EP X pins σ Q u s'
    | .ok _ => False
    | .error e => X.xe e s'
  | .error e, s', h => hx pins H s e s' I h
  | .ok (.ret u), s', h => I.after h
  | .ok .next, s', h => h
  | .ok .brk, s', h => h
  | .ok .cont, s', h => h
theorem run_fnS {X : Cx} {k : Nat} {E : L2.St → XK} {pins : List (Addr × Obj)} {σ : L2.St} {H : Hp} {s : Shared} {Q : VK} {us : List Value} {vs : List V} (hg : X.A.guards = some []) (F : FnOk X.prog X.w X.K X.mg X.base C k f fd ps sp) (hr : Room k X.A) (hb : Binds X.K fd ps []) (hx : PassesAt C X σ (E σ))
    (I : Inv X pins σ H s) (r : Vals vs us) (h : sp vs H Q (E σ)) : wpAny (model X.prog X.w) X.A (call (.ref f) us) (EP X pins σ Q) X.xe s := by
  have b := hb s us I.kIn (by rw [List.append_nil, ← r.length]; exact F.len _ _ _ _ h)
  rw [List.append_nil] at b
  refine wpAny_call (codeAny_mono (F.run X.A X.stack s H ⟨us, []⟩ us vs Q (E σ) hg hr I.env0 b r h) fun rs s' hq => ?_)
  have q := ends_of hx I rs s' hq
  cases rs with
  | error e => exact q
  | ok fl => cases fl <;> first | exact q | exact q.elim
theorem pe_callS {X : Cx} {k : Nat} {E : L2.St → XK} {x : Str} {p pos : Pos} {e : Expr} {es : List Expr} {t : TA} (hgd : X.A.guards = some []) (F : FnOk X.prog X.w X.K X.mg X.base C k f fd ps sp) (hr : Room k X.A) (hg : Gl X x) (hm : X.mg x = some (.ref f)) (hk : PySem.W.keepIn X.K (.ref f) = true) (hb : Binds X.K fd ps []) (hx : ∀ σ, PassesAt C X σ (E σ))
    (ha : PA X (e :: es) t) (hdb : (x == ("__debug__" : Str)) = false := by decide) (he : starEach (e :: es) X.env = (false, eval e X.env) :: starEach es X.env := by rfl) (hpl : (backTo pos (starEach es X.env)).any (·.1) = false := by rfl) :
    PE X (.Call (.Name x p) (e :: es) [] pos) (tCallS sp E t) := ⟨fun pins s σ H Q I h =>
  wpAny_Call_Name_kw (ld_glob I hg hm (PySem.W.callWith_K (h₀ := X.base) I.ok.mod.kin hk (thn (ha.run pos pins s σ H _ I h) fun us s1 ⟨vs, H1, I1, r, q⟩ => ⟨I1.kIn, run_fnS hgd F hr hb (hx σ) I1 r q⟩) he hpl) hdb)⟩
/-! ### a def by its body -/
variable {x qual : Str} {params : Arguments} {body : List Stmt} {scope : Scope} {N : List Str} {dvs : List V} {kws : List (Str × V)}
theorem FunD.okG {k : Nat} (F : L2.FunD K x qual params body scope dvs kws f fd) (S : FnScope N ps scope) (len : ∀ vs H Q E, sp vs H Q E → vs.length = ps.length)
    (hbody : ∀ (cdv : Value) (A : Around) (outer : List Env) (s : Shared) (H : Hp) (vs : List V) (Q : VK) (E : XK), A.guards = some [] → Room k (A.deeper (envOfC qual scope s.heap.objs.size f cdv)) → sp vs H Q E →
      ∃ t, PSs (cxOf C P w K mg base N qual scope f cdv A outer s H E) body t ∧ t { nx := fun _ H' => Q .non H', rt := Q } (start N vs) H) : FnOk P w K mg base C (k + 1) f fd ps sp := by
  obtain ⟨oc, od, dV, kV, doc, pm, an, cdv, ct, osl, rfl, lk, hcd, _, _⟩ := F.ex
  refine ⟨len, fun A outer s H args us vs Q E hgd hr e0 hb r hsp => ?_⟩
  have keep : ∀ b o, base.get? b = some o → s.heap.get? b = some o := fun b o e => (e0.bs b o e).1
  have KX : K.In s.heap := e0.mod.kin.keeps keep
  have cells : ∀ {n : Nat} {y : Str}, scope.names.lookup y = some .cell → ((cellsFrom n scope.names []).lookup y).isSome = true := fun q => PySem.W.cellsFrom_some _ _ _ (.inl q)
  refine codeAny_call_function hr.depth (KX _ _ lk) rfl S.co S.gen rfl (PySem.W.codeRec_of KX hcd) (hb _ _ _ _ (wpAny_newFunctionEnv_cells S.kind (fun y hy => ?_) fun env he s1 x => ?_))
  · exact (S.par y.1 (List.of_mem_zip (b := y.2) hy).1).imp id fun q => ⟨q, cells q⟩
  · subst he
    obtain ⟨t, ht, hq⟩ := hbody cdv A outer s H vs Q E hgd (hr.deeper _) hsp
    refine ⟨(e0.mod.nolimit.keeps keep).keeps x.toInCall.keep, codeAny_func (wpAny_mono (ht.run [] s1 (start N vs) H _ (inv_start S hr.hd e0 (len _ _ _ _ hsp) r x) hq) (fun fl s' hs => ?_) fun e s' hs => hs)⟩
    match fl, hs with
    | .ret u, ⟨v, σ', H', J, rv, q⟩ => exact ⟨v, H', J.os, J.bare, J.base, J.hok, rv, q⟩
    | .next, ⟨σ', H', J, q⟩ => exact ⟨.non, H', J.os, J.bare, J.base, J.hok, rfl, q⟩
    | .brk, ⟨_, _, _, q⟩ => exact q.elim
    | .cont, ⟨_, _, _, q⟩ => exact q.elim
end

/-! ### the law's own call -/
section
variable {P : Program} {w : World} {K : PySem.W.Frag} {mg mb : Str → Option Value} {C : CXT} {k : Nat} {fa a : Addr} {fd : FuncData} {x : Str} {sp : Sp} {s : Shared} {vs : List Value} {ns : List Int}
/-- from an abstract heap that holds the script alone, or nothing -/
theorem call_from {H : Hp} (KX : K.In s.heap) (hns : s.heap.Ns mainGlobals mg) (hb : s.heap.Ns builtinsNs mb) (hbb : ∀ y : Str, y ≠ "__name__" → mb y = bootBuiltins y) (hlim : s.heap.NoLimit) (hg : s.gens = #[])
    (ha : s.heap.get? a = some { cls := .type "list", data := .seq vs.toArray }) (hr : Room k callerA)
    (F : ∀ base : Heap, K.In base → base.Ns mainGlobals mg → FnOk P w K mg base C k fa fd [x] sp) (hbind : ∀ (t : Shared) (u : Value), BindsTo t fd ⟨[u], []⟩ [(x, u)])
    (hsp : sp [.ref a] H (fun v _ => v = .bl true) fun _ _ _ => False) (hC : ∀ e s', C [] H s (fun _ _ _ => False) e s' → False)
    (hO : Only H) (hok : HOk P w H s.heap) (only : ∀ b, H b ≠ none → b = a) (nK : H a ≠ none → K.lookup a = none) :
    codeAny (model P w) callerA (.call (.ref fa) ⟨[.ref a], []⟩) (fun r s' => r = .ok (.ret (.bool true)) ∧ OldK s.heap s'.heap ∧ s'.os = s.os ∧ AllBare s'.gens) s := by
  -- what is no list is not hidden
  have free : ∀ {b : Addr} {o : Obj} {es : Array DictEntry} {ep : Nat}, s.heap.get? b = some o → o.data = .dict es ep → H b = none := fun {b o es ep} e d => by
    by_cases q : H b = none
    · exact q
    · rw [only b q, ha] at e
      cases e
      exact absurd d nofun
  have ns : ∀ {b : Addr} {m : Str → Option Value}, s.heap.Ns b m → (hidT s.heap H).Ns b m := fun ⟨o, es, ep, e, d, r⟩ => ⟨o, es, ep, hidT_get e (free e d), d, r⟩
  have KB : K.In (hidT s.heap H) := fun b o e => hidT_get (KX b o e) (by
    by_cases q : H b = none
    · exact q
    · have eb := only b q
      rw [eb] at q e
      rw [nK q] at e
      cases e)
  obtain ⟨mc, l1, l2⟩ := hlim
  have e0 : Env0 P w K mg (hidT s.heap H) callerA [] s H := ⟨rfl, ⟨KB, ns hns, ⟨mb, ns hb, hbb⟩, ⟨mc, ns l1, l2⟩⟩, fun _ _ e => of_hidT e, Nat.le_of_eq (hidT_size _ _), trivial, (fun _ q => by cases q), hok, .of_eq hg⟩
  refine codeAny_mono ((F _ KB (ns hns)).run callerA [] s H ⟨[.ref a], []⟩ [.ref a] [.ref a] _ _ rfl hr e0 (hbind s (.ref a)) (.cons rfl .nil) hsp) fun r s' h => ?_
  match r, h with
  | .error e, h => exact (hC e s' h).elim
  | .ok .next, h => exact h.elim
  | .ok .brk, h => exact h.elim
  | .ok .cont, h => exact h.elim
  | .ok (.ret u), ⟨v, H', os, bare, un, hok', rv, q⟩ =>
    have qv : v = .bl true := q
    subst qv
    obtain rfl : u = Value.bool true := rv
    refine ⟨rfl, OldK.of_keep fun b o e => ?_, os, bare⟩
    rcases hO b with z | ⟨ob, xs, z⟩
    · exact un.keep b o e z (by intro z; cases z) (by simp)
    · have e1 := (hok b _ z).1
      rw [e] at e1
      cases e1
      exact (hok' b _ (un.frzs b _ _ z)).1
theorem law_callG (KX : K.In s.heap) (hns : s.heap.Ns mainGlobals mg) (hb : s.heap.Ns builtinsNs mb) (hbb : ∀ y : Str, y ≠ "__name__" → mb y = bootBuiltins y) (hlim : s.heap.NoLimit) (hg : s.gens = #[])
    (ha : s.heap.get? a = some { cls := .type "list", data := .seq vs.toArray }) (hi : IntsAre vs ns) (hl : ns.length ≤ sizeLine) (hr : Room k callerA)
    (F : ∀ base : Heap, K.In base → base.Ns mainGlobals mg → FnOk P w K mg base C k fa fd [x] sp) (hbind : ∀ (t : Shared) (u : Value), BindsTo t fd ⟨[u], []⟩ [(x, u)])
    (hsp : ∀ H : Hp, Only H → SqL K H a (ns.map V.int) → sp [.ref a] H (fun v _ => v = .bl true) fun _ _ _ => False) (hC : ∀ H e s', C [] H s (fun _ _ _ => False) e s' → False) :
    codeAny (model P w) callerA (.call (.ref fa) ⟨[.ref a], []⟩) (fun r s' => r = .ok (.ret (.bool true)) ∧ OldK s.heap s'.heap ∧ s'.os = s.os ∧ AllBare s'.gens) s := by
  have rv := vals_ints hi
  have len := hi.length
  by_cases hk : K.lookup a = none
  · -- the script is held as what it is
    have hSa : ∀ b, (if b = a then some (HO.frz { cls := .type "list", data := .seq vs.toArray } (.lst (ns.map V.int))) else none) ≠ none → b = a := fun b z => Classical.byContradiction fun q => z (if_neg q)
    have hO : Only fun b => if b = a then some (HO.frz { cls := .type "list", data := .seq vs.toArray } (.lst (ns.map V.int))) else none := fun b => by
      by_cases q : b = a
      · exact .inr ⟨_, _, if_pos q⟩
      · exact .inl (if_neg q)
    refine call_from KX hns hb hbb hlim hg ha hr F hbind (hsp _ hO (.inl (.inr ⟨_, if_pos rfl⟩))) (hC _) hO (fun b u z => ?_) hSa fun _ => hk
    by_cases q : b = a
    · subst q
      have z' := (if_pos rfl).symm.trans z
      cases z'
      exact ⟨ha, by rw [List.length_map]; exact hl, vs, _, rv, ha⟩
    · exact absurd ((if_neg q).symm.trans z) nofun
  · obtain ⟨o, ho⟩ : ∃ o, K.lookup a = some o := Option.ne_none_iff_exists'.mp hk
    have e := KX a o ho
    rw [ha] at e
    cases e
    have hO : Only (fun _ => none) := fun _ => .inl rfl
    exact call_from (H := fun _ => none) KX hns hb hbb hlim hg ha hr F hbind (hsp _ hO (.inr ⟨_, vs.toArray, _, ho, rfl, rfl, rfl, by rw [List.size_toArray, len]; exact hl, by simpa using rv⟩)) (hC _) hO (fun _ _ z => absurd z nofun) (fun _ z => absurd rfl z) fun z => absurd rfl z
end
theorem walk_ofG {l : PySem.W.OpenLaw} {n k : Nat} {q : Program} {loose : List Str} {XP : (Str → Option Value) → Heap → Prop} {YP : World → Heap → Prop} {d : DefRec} {C : CXT} {x : Str}
    (hn : l.most = some n) (hn2 : n ≤ sizeLine) (hdf : d.params.defaults = []) (hr : Room k callerA)
    (F : ∀ (w : World) (mg : Str → Option Value) (fa : Addr) (h : Heap), YP w h → h.Ns mainGlobals mg → mg d.name = some (.ref fa) →
      ∃ (K : PySem.W.Frag) (fd : FuncData) (sp : Sp), K.In h ∧ (∀ (s : Shared) (u : Value), BindsTo s fd ⟨[u], []⟩ [(x, u)]) ∧
        (∀ (H : Hp) (a : Addr) (ns : List Int), ns.length ≤ n → Only H → SqL K H a (ns.map V.int) → sp [.ref a] H (fun v _ => v = .bl true) fun _ _ _ => False) ∧
        ∀ base : Heap, K.In base → base.Ns mainGlobals mg → FnOk l.prog w K mg base C k fa fd [x] sp)
    (hC : ∀ (H : Hp) (s : Shared) (e : Value) (s' : Shared), C [] H s (fun _ _ _ => False) e s' → False) :
    PySem.W.WalkO q loose XP YP l.row.toRowW d [] (fun f vs => PySem.call f vs) :=
  Att.attach_call hn hdf fun w s₀ s₁ mg mb fa o pm cd doc a vs ns G Y ho hd hcd hmg hobj hints hlen hg =>
    let ⟨_, _, _, KX, hb, hsp, hF⟩ := F w mg fa _ Y G.T.g hmg
    law_callG KX G.T.g G.T.b G.T.builtins G.T.nolimit hg hobj hints (Nat.le_trans hlen hn2) hr hF hb (fun H hO hS => hsp H a ns hlen hO hS) fun H e s' => hC H s₁ e s'
end MS

set_option Elab.async false
set_option linter.all false
set_option maxRecDepth 100000
set_option maxHeartbeats 4000000
/-! MS5: subscripts, slices, fields, calls. -/
namespace MS
open PySem PySem.Spec PyProof.Rows L2 MI

section
variable {K : PySem.W.Frag} {cl : Nat → Addr} {E : EX}
/-! ### a[i] -/
theorem ixN_same (n : Nat) (i : Int) : MI.ixN n i = L2.ixN n i := rfl
theorem atI_of {ρ : List Addr} {H : Hp} {vs : List V} {ds : List D} (r : RvL K H ρ vs ds) {i : Int} {d : D} (h : ((MI.ixN ds.length i).bind fun k => ds[k]?) = some d) : ∃ v, atI vs i = some v ∧ Rv K H ρ v d := by
  rw [Option.bind_eq_some_iff] at h
  obtain ⟨k, h1, h2⟩ := h
  obtain ⟨v, q1, q2⟩ := r.get h2
  refine ⟨v, ?_, q2⟩
  unfold atI
  rw [r.length, ← ixN_same, h1]
  exact q1
def rIxA (K : PySem.W.Frag) : R2 := fun x y H Q => (rIxL K x y H Q ∨ rIxT K x y H Q) ∨ rIxS x y H Q
theorem ix_all {X : Cx} : IxR X (rIxA X.K) := IxR.or (IxR.or ix_list ix_tup) ix_str
theorem s_ix : OpS K cl E opIx (rIxA K) := by
  intro σ Q ρ H st v1 v2 d1 d2 A r1 r2 h
  cases r2 with
  | int i =>
    cases r1 with
    | @tup a vs l hs r =>
      cases q : (MI.ixN l.length i).bind fun k => l[k]? with
      | none => exact h.none (by simp [opIx, q])
      | some d =>
        obtain ⟨v, q1, q2⟩ := atI_of r q
        exact .inl (.inr ⟨a, vs, i, v, rfl, rfl, hs, q1, h.ok (st' := st) (d := d) (by simp [opIx, q]) .refl A q2⟩)
    | @xtup a vs l hs r =>
      cases q : (MI.ixN l.length i).bind fun k => l[k]? with
      | none => exact h.none (by simp [opIx, q])
      | some d =>
        obtain ⟨v, q1, q2⟩ := atI_of r q
        exact .inl (.inr ⟨a, vs, i, v, rfl, rfl, hs.seq, q1, h.ok (st' := st) (d := d) (by simp [opIx, q]) .refl A q2⟩)
    | @frz a vs l hs r =>
      cases q : (MI.ixN l.length i).bind fun k => l[k]? with
      | none => exact h.none (by simp [opIx, q])
      | some d =>
        obtain ⟨v, q1, q2⟩ := atI_of r q
        exact .inl (.inl ⟨a, vs, i, v, rfl, rfl, hs.seq, q1, h.ok (st' := st) (d := d) (by simp [opIx, q]) .refl A q2⟩)
    | @loc a n ha =>
      cases e1 : st[n]? with
      | none => exact h.none (by simp [opIx, e1])
      | some o =>
        have q1 := A.get ha e1
        cases q1 with
        | @lst vs l h1 r =>
          cases q : (MI.ixN l.length i).bind fun k => l[k]? with
          | none => exact h.none (by simp [opIx, e1, q])
          | some d =>
            obtain ⟨v, q1, q2⟩ := atI_of r q
            exact .inl (.inl ⟨a, vs, i, v, rfl, rfl, SqL.of h1, q1, h.ok (st' := st) (d := d) (by simp [opIx, e1, q]) .refl A q2⟩)
        | _ => exact h.none (by simp [opIx, e1])
    | str s =>
      cases q : (MI.ixN s.length i).bind fun k => s[k]? with
      | none => exact h.none (by simp [opIx, q])
      | some ch =>
        by_cases hl : s.length < lim
        · refine .inr ⟨sD s, i, ch, rfl, rfl, by rw [sD_len]; exact lim_size hl, ?_, h.ok (st' := st) (d := .str [ch]) (by simp [opIx, q, hl]) .refl A (.str _)⟩
          unfold atI
          have q' := q
          rw [ixN_same] at q'
          simpa using q'
        · exact h.none (by simp [opIx, q, hl])
    | _ => exact h.none rfl
  | _ => cases r1 <;> exact h.none rfl
end
section
variable {X : Cx} {cl : Nat → Addr} {E : EX} {c : MI.Ctx} {a b e : Expr} {ga gb : SE} {pos : Pos}
theorem me_ix (ha : ME X cl E c a ga) (hb : ME X cl E c b gb) (hs : PlainIx b) : ME X cl E c (.Subscript a b pos) (eBin opIx ga gb) := peI (pe_ix ix_all ha hb hs) fun _ _ _ h => tm_op s_ix h

/-! ### a[lo:hi] -/
abbrev MO (X : Cx) (cl : Nat → Addr) (E : EX) (c : MI.Ctx) (e : Option Expr) (g : SO) : Prop := PO X e (TM X.K cl E rO (g c))
theorem poI {e : Option Expr} {t t' : TO} (h : PO X e t) (i : ∀ σ H Q, t' σ H Q → t σ H Q) : PO X e t' := ⟨fun pins s σ H Q I q => h.run pins s σ H Q I (i σ H Q q)⟩
theorem mo_none : MO X cl E c none oNone := poI po_none fun σ H Q h => by
  obtain ⟨ρ, env, st, A, e, h⟩ := h
  exact h.ok (st' := st) rfl .refl A rfl
theorem mo_some (h : ME X cl E c e ga) : MO X cl E c (some e) (oSome ga) := poI (po_some h) fun σ H Q h => by
  obtain ⟨ρ, env, st, A, e, h⟩ := h
  refine (Rest.step (g := ga c) (rV X.K) A e h).imp fun v1 H1 ⟨ρ1, st1, d1, g1, A1, r1, h1⟩ => ?_
  cases r1 with
  | int i =>
    by_cases hi : -lim < i ∧ i < lim
    · exact ⟨i, rfl, h1.ok (st' := st1) (d := some i) (by show (if -(lim : Int) < i ∧ i < lim then MI.ret (some i) else MI.fail) st1 = _; rw [if_pos hi]; rfl) .refl A1 rfl⟩
    · exact h1.none (by show (if -(lim : Int) < i ∧ i < lim then MI.ret (some i) else MI.fail) st1 = none; rw [if_neg hi]; rfl)
  | _ => exact h1.none rfl
theorem cut_same {α : Type} (l : List α) (lo hi : Option Int) : cut l lo hi = (l.drop (HT.sIx l.length 0 lo)).take (HT.sIx l.length l.length hi - HT.sIx l.length 0 lo) := by
  have e : ∀ (d : Nat) (o : Option Int), (o.map (clampI l.length)).getD d = HT.sIx l.length d o := fun d o => by cases o <;> rfl
  unfold cut
  rw [e, e, List.drop_take]
def rSlAll (K : PySem.W.Frag) : V → Option Int → Option Int → Hp → VK → Prop := fun x lo hi H Q => (rSlA K x lo hi H Q ∨ rSlL K x lo hi H Q) ∨ rSlS x lo hi H Q
theorem sl_all : SlR X (rSlAll X.K) := SlR.or (SlR.or sl_tupA sl_list) sl_str
theorem cut_rv {K : PySem.W.Frag} {ρ : List Addr} {H : Hp} {vs : List V} {ds : List D} (r : RvL K H ρ vs ds) (lo hi : Option Int) : RvL K H ρ (cutV vs lo hi) (cut ds lo hi) := by
  rw [cut_same]
  unfold cutV
  rw [r.length]
  exact (r.drop _).take _
theorem s_slc {K : PySem.W.Frag} {σ : L2.St} {Q : VK} {ρ : List Addr} {H : Hp} {st : Stt} {v1 : V} {d1 : D} {lo hi : Option Int} (A : At K cl ρ H st) (r1 : Rv K H ρ v1 d1) (h : Rest K cl E (rV K) σ Q (opSlc d1 lo hi) ρ H st) : rSlAll K v1 lo hi H (fz Q) := by
  cases r1 with
  | @tup a vs l hs r =>
    have e : opSlc (.tup l) lo hi st = some (.ok (.tup (cut l lo hi)), st) := rfl
    refine .inl (.inl ⟨a, vs, rfl, hs, fun q => .inl ?_, fun _ p n => .inl (rest_tup A (cut_rv r lo hi) h e p n)⟩)
    refine h.ok e .refl A ?_
    have : cut l lo hi = l := by
      rw [cut_same, ← r.length, q.1, q.2]
      simp [r.length]
    rw [this]; exact .tup hs r
  | @frz a vs l hs r =>
    exact .inl (.inr ⟨a, vs, rfl, hs.seq, fun p n => rest_frz A (cut_rv r lo hi) h rfl p n⟩)
  | @loc a n ha =>
    cases e1 : st[n]? with
    | none => exact h.none (by simp [opSlc, e1])
    | some o =>
      have q1 := A.get ha e1
      cases q1 with
      | @lst vs l h1 r => exact .inl (.inr ⟨a, vs, rfl, SqL.of h1, fun p n => rest_frz A (cut_rv r lo hi) h (by simp [opSlc, e1]) p n⟩)
      | _ => exact h.none (by simp [opSlc, e1])
  | str s =>
    by_cases hl : s.length < lim
    · refine .inr ⟨sD s, rfl, by rw [sD_len]; exact lim_size hl, ?_⟩
      have e : cutS (sD s) lo hi = sD (cut s lo hi) := by
        unfold cutS
        rw [cut_same, sD_len]
      rw [e]
      exact .inl <| h.ok (st' := st) (d := .str (cut s lo hi)) (by simp [opSlc, hl]) .refl A (.str _)
    · exact h.none (by simp [opSlc, hl])
  | _ => exact h.none rfl
theorem me_slc {lo hi : Option Expr} {gl gh : SO} {p2 : Pos} (ha : ME X cl E c a ga) (hl : MO X cl E c lo gl) (hh : MO X cl E c hi gh) : ME X cl E c (.Subscript a (.Slice lo hi none p2) pos) (eSlc ga gl gh) :=
  peI (pe_fz (pe_slice sl_all ha hl hh)) fun σ H Q h => by
    obtain ⟨ρ, env, st, A, e, h⟩ := h
    refine (Rest.step (g := ga c) (rV X.K) A e h).imp fun v1 H1 ⟨ρ1, st1, d1, g1, A1, r1, h1⟩ => ?_
    refine (Rest.step (g := gl c) rO A1 (e.grow A g1) h1).imp fun v2 H2 ⟨ρ2, st2, d2, g2, A2, r2, h2⟩ => ?_
    refine (Rest.step (g := gh c) rO A2 ((e.grow A g1).grow A1 g2) h2).imp fun v3 H3 ⟨ρ3, st3, d3, g3, A3, r3, h3⟩ => ?_
    have e2 : v2 = d2 := r2
    have e3 : v3 = d3 := r3
    subst e2 e3
    exact s_slc A3 (r1.grow A1 (g2.trans g3)) h3
/-- a[lo:hi:2], lo and hi written -/
theorem me_slc2 {lo hi : Option Expr} {l h' : Option Int} {p2 p3 : Pos} {j : Nat} (ha : ME X cl E c a ga) (hl : MO X cl E c lo (fun _ _ => MI.ret l)) (hh : MO X cl E c hi (fun _ _ => MI.ret h')) : ME X cl E c (.Subscript a (.Slice lo hi (some (.Constant (.int 2) j p3)) p2) pos) (eSlc2 ga l h') :=
  peI (pe_slice2 ha hl hh) fun σ H Q h => by
    obtain ⟨ρ, env, st, A, e, h⟩ := h
    refine (Rest.step (g := ga c) (rV X.K) A e h).imp fun v1 H1 ⟨ρ1, st1, d1, g1, A1, r1, h1⟩ => ?_
    refine ⟨ρ1, env, st1, A1, e.grow A g1, .inl ⟨l, st1, rfl, fun ρ2 H2 v2 g2 A2 r2 => ?_⟩⟩
    refine ⟨ρ2, env, st1, A2, (e.grow A g1).grow A1 g2, .inl ⟨h', st1, rfl, fun ρ3 H3 v3 g3 A3 r3 => ?_⟩⟩
    have e2 : v2 = l := r2
    have e3 : v3 = h' := r3
    subst e2 e3
    have A' := g2.trans g3
    cases r1 with
    | @tup a' vs ds hs r =>
      have r' : Rv X.K H3 ρ3 (.ref a') (.tup ds) := (Rv.tup hs r).grow A1 A'
      cases r' with
      | tup hs' rr =>
        have ev : ∀ {vs : List V} {ds : List D} {H : Hp} {ρ : List Addr}, RvL X.K H ρ vs ds → RvL X.K H ρ (everyOther vs) (everyOther ds) := by
          intro vs ds H ρ r
          suffices ∀ (n : Nat) (vs : List V) (ds : List D), vs.length ≤ n → RvL X.K H ρ vs ds → RvL X.K H ρ (everyOther vs) (everyOther ds) from this _ _ _ (Nat.le_refl _) r
          intro n
          induction n with
          | zero => intro vs ds hn r; cases r with
            | nil => exact .nil
            | cons _ _ => simp at hn
          | succ n ih =>
            intro vs ds hn r
            cases r with
            | nil => exact .nil
            | cons r1 r2 => cases r2 with
              | nil => exact .cons r1 .nil
              | cons r3 r4 => exact .cons r1 (ih _ _ (by simp only [List.length_cons] at hn; omega) r4)
        exact ⟨a', _, rfl, hs', fun p n => rest_tup (m := fun _ => some (.ok (.tup (everyOther (cut ds v2 v3))), st1)) A3 (ev (cut_rv rr v2 v3)) ((h1.eq rfl).base A') rfl p n⟩
    | _ => exact h1.none rfl
theorem mo_lit {i : Int} {j : Nat} (p : Pos) : MO X cl E c (some (.Constant (.int i) j p)) (fun _ _ => MI.ret (some i)) := poI (po_some pe_int) fun σ H Q h => by
  obtain ⟨ρ, env, st, A, e, h⟩ := h
  exact ⟨i, rfl, h.ok (st' := st) rfl .refl A rfl⟩
theorem mo_neg {i : Int} {j : Nat} (p p' : Pos) : MO X cl E c (some (.UnaryOp .USub (.Constant (.int i) j p) p')) (fun _ _ => MI.ret (some (-i))) := poI (po_some (pe_un un_neg pe_int)) fun σ H Q h => by
  obtain ⟨ρ, env, st, A, e, h⟩ := h
  exact ⟨i, rfl, -i, rfl, h.ok (st' := st) rfl .refl A rfl⟩
theorem mo_omit : MO X cl E c none (fun _ _ => MI.ret none) := mo_none

/-! ### o.f -/
theorem me_fld {f : Str} (g : List Nat) (ha : ME X cl E c e ga) (hf : f = sD g := by decide +kernel) (hb : attributeBase e f X.env (eval e X.env) = eval e X.env := by rfl) : ME X cl E c (.Attribute e f pos) (eFld ga g) :=
  peI (pe_fld ha hb) fun σ H Q h => by
    subst hf
    obtain ⟨ρ, env, st, A, e, h⟩ := h
    refine (Rest.step (g := ga c) (rV X.K) A e h).imp fun v1 H1 ⟨ρ1, st1, d1, g1, A1, r1, h1⟩ => ?_
    cases r1 with
    | @loc a n ha =>
      cases e1 : st1[n]? with
      | none => exact h1.none (by simp [opFld, e1])
      | some o =>
        have q1 := A1.get ha e1
        cases q1 with
        | @ins dx k vfs fs h2 r hc hn =>
          rcases r.look (f := g) with ⟨q, _⟩ | ⟨d, v, q2, q3, q4⟩
          · exact h1.none (by simp [opFld, e1, q])
          · have hm : ∃ p ∈ fs, p.1 = g := by
              unfold MI.getD at q2
              obtain ⟨p, hp, _⟩ := Option.map_eq_some_iff.mp q2
              exact ⟨p, List.mem_of_find?_eq_some hp, by simpa using List.find?_some hp⟩
            obtain ⟨p, hp, hpg⟩ := hm
            have hno : NoAttr X.K (cl k) (sD g) := by rw [← hpg]; exact hn p hp
            exact ⟨a, cl k, dx, vfs, v, rfl, h2, hc, hno, q3, h1.ok (st' := st1) (d := d) (by simp [opFld, e1, q2]) .refl A1 q4⟩
        | _ => exact h1.none (by simp [opFld, e1])
    | _ => exact h1.none rfl
end

/-! ### exceptions: a wish of the layer's, as a wish of ours -/
def XD (K : PySem.W.Frag) (d : Option Addr) (H : Hp) (ρ : List Addr) (fs : List (List Nat × D)) : Prop := match d with
  | none => fs = []
  | some dx => ∃ vfs, H dx = some (.xd vfs) ∧ RvF K H ρ vfs fs
def EXW (K : PySem.W.Frag) (cl : Nat → Addr) (W : WX) : EX := fun k fs σ ρ H _ => ∀ d, XD K d H ρ fs → W (.ref (cl k)) d σ H
def EXK (K : PySem.W.Frag) (cl : Nat → Addr) (E : XK) : EX := fun k fs _ ρ H _ => ∀ d, XD K d H ρ fs → E (.ref (cl k)) d H

/-! ### what a def promises: it does what g does -/
def spOf (K : PySem.W.Frag) (cl : Nat → Addr) (n : Nat) (g : List D → MI.R D) : Sp := fun vs H Q E => vs.length = n ∧ ∃ ρ ds st, At K cl ρ H st ∧ RvL K H ρ vs ds ∧ Rest K cl (EXK K cl E) (rV K) [] Q (g ds) ρ H st
/-- the def at f does what g does -/
def FnT (P : Program) (w : World) (K : PySem.W.Frag) (mg : Str → Option Value) (base : Heap) (cl : Nat → Addr) (lv : Nat) (f : Addr) (g : List D → MI.R D) : Prop :=
  ∃ (fd : FuncData) (ps : List Str), FnOk P w K mg base (L2.CX P w) lv f fd ps (spOf K cl ps.length g) ∧ Binds K fd ps [] ∧ PySem.W.keepIn K (.ref f) = true ∧ ∀ ds st r, g ds st = some r → ds.length = ps.length
theorem FnT.sp {K : PySem.W.Frag} {cl : Nat → Addr} {n : Nat} {g : List D → MI.R D} {σ : L2.St} {Q : VK} {W : WX} {ρ : List Addr} {H : Hp} {st : Stt} {vs : List V} {ds : List D}
    (ar : ∀ ds st r, g ds st = some r → ds.length = n) (A : At K cl ρ H st) (r : RvL K H ρ vs ds) (h : Rest K cl (EXW K cl W) (rV K) σ Q (g ds) ρ H st) : spOf K cl n g vs H Q (WE W σ) := by
  refine ⟨?_, ρ, ds, st, A, r, ?_⟩
  · rw [r.length]
    rcases h with ⟨d, st', e, _⟩ | ⟨k, fs, st', e, _⟩
    · exact ar _ _ _ e
    · exact ar _ _ _ e
  · rcases h with h | ⟨k, fs, st', e, h⟩
    · exact .inl h
    · exact .inr ⟨k, fs, st', e, h⟩
/-- the surroundings of a def's body -/
structure Good (X : Cx) (W : WX) (cl : Nat → Addr) (c : MI.Ctx) (lv : Nat) : Prop where
  tk : Takes X W
  room : Room (lv + 1) X.A
  calm : X.calm = true
  gd : X.A.guards = some []
  nd : X.N.Nodup
  flds : ∀ k f, c.flds k f = true → NoAttr X.K (cl k) (sD f) ∧ Cls X.K (cl k)
  meth : ∀ k m f, c.meth k m = some f → ∃ fA, Meth X.K (cl k) (sD m) fA ∧ FnT X.prog X.w X.K X.mg X.base cl lv fA (c.call f)
theorem Good.hu {X : Cx} {W : WX} {cl : Nat → Addr} {c : MI.Ctx} {lv : Nat} (G : Good X W cl c lv) : X.A.units + 65 < cLine := by
  have := G.room.un
  omega
end MS

set_option Elab.async false
set_option linter.all false
set_option maxRecDepth 100000
set_option maxHeartbeats 4000000
/-! MS6: calls of defs, methods, classes. -/
namespace MS
open PySem PySem.Spec PyProof.Rows L2 MI

section
variable {X : Cx} {W : WX} {cl : Nat → Addr} {c : MI.Ctx} {lv : Nat} {x m : Str} {p pos apos : Pos} {e o : Expr} {es : List Expr} {gl : SL} {ga : SE}
/-- f is the def that the module's x names -/
def FnG (X : Cx) (cl : Nat → Addr) (c : MI.Ctx) (lv : Nat) (x : Str) (f : Nat) : Prop := ∃ fA, X.mg x = some (.ref fA) ∧ FnT X.prog X.w X.K X.mg X.base cl lv fA (c.call f)
theorem me_call {f : Nat} (G : Good X W cl c lv) (F : FnG X cl c lv x f) (hg : Gl X x) (ha : MA X cl (EXW X.K cl W) c (e :: es) gl) (hdb : (x == ("__debug__" : Str)) = false := by decide +kernel)
    (he : starEach (e :: es) X.env = (false, eval e X.env) :: starEach es X.env := by rfl) (hpl : (backTo pos (starEach es X.env)).any (·.1) = false := by rfl) :
    ME X cl (EXW X.K cl W) c (.Call (.Name x p) (e :: es) [] pos) (eCall f gl) := by
  obtain ⟨fA, hm, fd, ps, F, hb, hk, ar⟩ := F
  refine peI (pe_callS G.gd F (G.room.mono (Nat.le_succ _)) hg hm hk hb (fun σ => passAt G.tk σ) ha hdb he hpl) fun σ H Q h => ?_
  obtain ⟨ρ, env, st, A, e, h⟩ := h
  exact (Rest.step (g := gl c) (rL X.K) A e h).imp fun vs H1 ⟨ρ1, st1, ds, g1, A1, r1, h1⟩ => FnT.sp ar A1 r1 h1
theorem me_call0 {f : Nat} (G : Good X W cl c lv) (F : FnG X cl c lv x f) (hg : Gl X x) (hdb : (x == ("__debug__" : Str)) = false := by decide +kernel) :
    ME X cl (EXW X.K cl W) c (.Call (.Name x p) [] [] pos) (eCall f lNil) := by
  obtain ⟨fA, hm, fd, ps, F, hb, hk, ar⟩ := F
  refine ⟨fun pins s σ H Q I h => ?_⟩
  refine wpAny_Call_Name_kw (ld_glob I hg hm ?_ hdb)
  refine PySem.W.callWith_K0 I.kIn hk (run_fnS G.gd (us := []) (vs := []) (E := WE W) F (G.room.mono (Nat.le_succ _)) hb (passAt G.tk σ) I .nil ?_)
  obtain ⟨ρ, env, st, A, e, h⟩ := h
  exact FnT.sp ar A .nil (h.eq rfl)

/-- o.m(..), the class found at the call -/
def tMethD (X : Cx) (W : WX) (m : Str) (ta : TE) (t : TA) : TE := fun σ H Q => ta σ H fun x H1 => ∃ a C dx fs f fd ps sp k, x = .ref a ∧ H1 a = some (.ins C dx fs) ∧ Cls X.K C ∧ Meth X.K C m f ∧ fs.lookup m = none ∧
  FnOk X.prog X.w X.K X.mg X.base (L2.CX X.prog X.w) k f fd ps sp ∧ Room k X.A ∧ Binds X.K fd ps [] ∧ t σ H1 fun vs H2 => sp (x :: vs) H2 Q (WE W σ)
theorem pe_methD {pl : Sem Bool} {ta : TE} {t : TA} (gd : X.A.guards = some []) (tk : Takes X W) (he : PE X o ta) (ha : PA X (e :: es) t)
    (hst : starEach (e :: es) X.env = (false, eval e X.env) :: starEach es X.env := by rfl) (hpl : (backTo pos (starEach es X.env)).any (·.1) = false := by rfl)
    (ht : eval (.Call (.Attribute o m apos) (e :: es) [] pos) X.env = (do
      let ov ← eval o X.env
      standAt apos.atName
      let (f, first) ← holding [ov] (getMethod ov m pl)
      callWith pos f first (backTo pos (starEach (e :: es) X.env)) (backToKw pos (keywordEach [] X.env))) := by rfl) :
    PE X (.Call (.Attribute o m apos) (e :: es) [] pos) (tMethD X W m ta t) := by
  refine ⟨fun pins s σ H Q I h => ?_⟩
  refine PySem.W.methodCall_KW (pl := pl) (thn (he.run pins s σ H _ I h) fun u s1 ⟨x, H1, I1, rx, a, C, dx, fs, f, fd, ps, sp, k, ex, ea, c, hm, l, F, hr, hb, q⟩ => ?_) ht
  subst ex
  obtain rfl : u = Value.ref a := rx
  refine getmeth_ok I1 ea c hm l ?_
  refine PySem.W.callWith_K (first := [.ref a]) (h₀ := X.base) I.ok.mod.kin hm.kp (thn (ha.run pos pins s1 σ H1 _ I1 q) fun us s2 ⟨vs, H2, I2, r, q2⟩ => ⟨I2.kIn, ?_⟩) hst hpl
  exact run_fnS gd (us := .ref a :: us) (vs := .ref a :: vs) F hr hb (passAt tk σ) I2 (.cons rfl r) q2
theorem pe_methD0 {pl : Sem Bool} {ta : TE} (gd : X.A.guards = some []) (tk : Takes X W) (he : PE X o ta)
    (ht : eval (.Call (.Attribute o m apos) [] [] pos) X.env = (do
      let ov ← eval o X.env
      standAt apos.atName
      let (f, first) ← holding [ov] (getMethod ov m pl)
      callWith pos f first (backTo pos (starEach [] X.env)) (backToKw pos (keywordEach [] X.env))) := by rfl) :
    PE X (.Call (.Attribute o m apos) [] [] pos) (tMethD X W m ta tNil) := by
  refine ⟨fun pins s σ H Q I h => ?_⟩
  refine PySem.W.methodCall_KW (pl := pl) (thn (he.run pins s σ H _ I h) fun u s1 ⟨x, H1, I1, rx, a, C, dx, fs, f, fd, ps, sp, k, ex, ea, c, hm, l, F, hr, hb, q⟩ => ?_) ht
  subst ex
  obtain rfl : u = Value.ref a := rx
  refine getmeth_ok I1 ea c hm l ?_
  exact PySem.W.callWith_K0 (first := [.ref a]) I1.kIn hm.kp (run_fnS gd (us := [.ref a]) (vs := [.ref a]) F hr hb (passAt tk σ) I1 (.cons rfl .nil) q)
theorem tm_meth (G : Good X W cl c lv) (n : List Nat) {σ : L2.St} {H : Hp} {Q : VK} (h : TM X.K cl (EXW X.K cl W) (rV X.K) (eMeth ga n gl c) σ H Q) :
    tMethD X W (sD n) (TM X.K cl (EXW X.K cl W) (rV X.K) (ga c)) (TM X.K cl (EXW X.K cl W) (rL X.K) (gl c)) σ H Q := by
  obtain ⟨ρ, env, st, A, e, h⟩ := h
  refine (Rest.step (g := ga c) (rV X.K) A e h).imp fun v1 H1 ⟨ρ1, st1, d1, g1, A1, r1, h1⟩ => ?_
  have bad : opRes c n d1 st1 = none → ∀ {P : Prop}, P := fun q => h1.none (bnd_none q)
  cases r1 with
  | @loc a i ha =>
    cases e1 : st1[i]? with
    | none => exact bad (by simp [opRes, e1])
    | some ob =>
      have q1 := A1.get ha e1
      cases q1 with
      | @ins dx k vfs fs h2 r hc hn =>
        cases q : c.meth k n with
        | none => exact bad (by simp [opRes, e1, q])
        | some f =>
          rcases r.look (f := n) with ⟨q0, l0⟩ | ⟨d, v, q2, _⟩
          · obtain ⟨fA, hM, fd, ps, F, hb, hk, ar⟩ := G.meth k n f q
            refine ⟨a, cl k, dx, vfs, fA, fd, ps, _, lv, rfl, h2, hc, hM, l0, F, G.room.mono (Nat.le_succ _), hb, ?_⟩
            have e2 : opRes c n (.loc i) st1 = some (.ok f, st1) := by simp [opRes, e1, q, q0]
            have h1' : Rest X.K cl (EXW X.K cl W) (rV X.K) σ Q (bnd (gl c env) fun xs => c.call f (.loc i :: xs)) ρ1 H1 st1 := h1.eq (bnd_inv e2)
            refine (Rest.step (g := gl c) (rL X.K) A1 (e.grow A g1) h1').imp fun vs H2 ⟨ρ2, st2, ds, g2, A2, r2, h3⟩ => ?_
            exact FnT.sp ar A2 (.cons ((Rv.loc ha).grow A1 g2) r2) h3
          · exact bad (by simp [opRes, e1, q, q2])
      | _ => exact bad (by simp [opRes, e1])
  | _ => exact bad rfl
theorem me_meth {pl : Sem Bool} (G : Good X W cl c lv) (n : List Nat) (hn : m = sD n) (ho : ME X cl (EXW X.K cl W) c o ga) (ha : MA X cl (EXW X.K cl W) c (e :: es) gl)
    (hst : starEach (e :: es) X.env = (false, eval e X.env) :: starEach es X.env := by rfl) (hpl : (backTo pos (starEach es X.env)).any (·.1) = false := by rfl)
    (ht : eval (.Call (.Attribute o m apos) (e :: es) [] pos) X.env = (do
      let ov ← eval o X.env
      standAt apos.atName
      let (f, first) ← holding [ov] (getMethod ov m pl)
      callWith pos f first (backTo pos (starEach (e :: es) X.env)) (backToKw pos (keywordEach [] X.env))) := by rfl) :
    ME X cl (EXW X.K cl W) c (.Call (.Attribute o m apos) (e :: es) [] pos) (eMeth ga n gl) :=
  peI (pe_methD G.gd G.tk ho ha hst hpl ht) fun _ _ _ h => by subst hn; exact tm_meth G n h
theorem me_meth0 {pl : Sem Bool} (G : Good X W cl c lv) (n : List Nat) (hn : m = sD n) (ho : ME X cl (EXW X.K cl W) c o ga)
    (ht : eval (.Call (.Attribute o m apos) [] [] pos) X.env = (do
      let ov ← eval o X.env
      standAt apos.atName
      let (f, first) ← holding [ov] (getMethod ov m pl)
      callWith pos f first (backTo pos (starEach [] X.env)) (backToKw pos (keywordEach [] X.env))) := by rfl) :
    ME X cl (EXW X.K cl W) c (.Call (.Attribute o m apos) [] [] pos) (eMeth ga n lNil) :=
  peI (pe_methD0 G.gd G.tk ho ht) fun σ H Q h => by
    subst hn
    refine (tm_meth G n h).imp fun v1 H1 q => ?_
    obtain ⟨a, C, dx, fs, f, fd, ps, sp, k, q1, q2, q3, q4, q5, q6, q7, q8, ρ, env, st, A, e, q9⟩ := q
    exact ⟨a, C, dx, fs, f, fd, ps, sp, k, q1, q2, q3, q4, q5, q6, q7, q8, q9.ok (st' := st) rfl .refl A .nil⟩

/-! ### C(..) -/
theorem make_guards {A : Around} {C : Addr} {us : List Value} {kw : List (Str × Value)} (h : A.guards = some []) : (A.under (.builtin "type.__call__" ⟨.ref C :: us, kw⟩)).guards = some [] := by
  simp [Around.under, Code.guards, Code.isGuard, guardIds, pushGuards, h]
theorem run_makeS {k : Nat} {C f : Addr} {fd : FuncData} {ps : List Str} {sp : Sp} {pins : List (Addr × Obj)} {σ : L2.St} {H : Hp} {s : Shared} {Q : VK} {us : List Value} {vs : List V} (gd : X.A.guards = some []) (tk : Takes X W) (M : Mk X.K C f) (F : FnOk X.prog X.w X.K X.mg X.base (L2.CX X.prog X.w) k f fd ps sp) (hr : Room (k + 1) X.A) (hb : Binds X.K fd ps [])
    (I : Inv X pins σ H s) (r : Vals vs us)
    (h : ∀ x dx, H x = none → H dx = none → dx ≠ x → sp (.ref x :: vs) (upd (upd H dx (.own x)) x (.ins C dx [])) (fun v H2 => v = .non ∧ Q (.ref x) H2) (WE W σ)) :
    wpAny (model X.prog X.w) X.A (call (.ref C) us) (EP X pins σ Q) X.xe s := by
  have hq := h (s.heap.objs.size + 1) s.heap.objs.size (I.hok.fresh (Nat.le_succ _)) (I.hok.fresh (Nat.le_refl _)) (Nat.ne_of_lt (Nat.lt_succ_self _))
  have I2 := Inv.made (C := C) I
  have r2 : Vals (V.ref (s.heap.objs.size + 1) :: vs) (Value.ref (s.heap.objs.size + 1) :: us) := .cons rfl r
  have hl : (Value.ref (s.heap.objs.size + 1) :: us).length = ps.length := by
    have e := r2.length
    rw [F.len _ _ _ _ hq] at e
    exact e.symm
  have b := hb _ (Value.ref (s.heap.objs.size + 1) :: us) I2.kIn (by rw [List.append_nil]; exact hl)
  rw [List.append_nil] at b
  refine wpAny_call (make_map (f := f) I.kIn M.makes M.init (beq_iff_eq.mp M.fn) (codeAny_mono (F.run _ X.stack _ _ ⟨Value.ref (s.heap.objs.size + 1) :: us, []⟩ (Value.ref (s.heap.objs.size + 1) :: us) _ _ (WE W σ) (make_guards gd) (hr.make C us [])
    (I2.env0.make C us []) b r2 hq) fun r s' hq' => ?_))
  cases r with
  | error e => exact passAt tk σ pins _ _ e s' I2 hq'
  | ok fl =>
    cases fl with
    | ret u =>
      obtain ⟨v, H', I3, rv, ev, q3⟩ := I2.after hq'
      subst ev
      exact ⟨rv, ⟨V.ref (s.heap.objs.size + 1), H', I3, rfl, q3⟩⟩
    | next => exact False.elim hq'
    | brk => exact False.elim hq'
    | cont => exact False.elim hq'
/-- the module's x is the class number k, whose __init__ is the def f -/
def ClG (X : Cx) (cl : Nat → Addr) (c : MI.Ctx) (lv : Nat) (x : Str) (k f : Nat) : Prop := X.mg x = some (.ref (cl k)) ∧ Cls X.K (cl k) ∧ ∃ fA, Mk X.K (cl k) fA ∧ FnT X.prog X.w X.K X.mg X.base cl lv fA (c.call f)
theorem me_make {k f : Nat} (G : Good X W cl c lv) (F : ClG X cl c lv x k f) (hg : Gl X x) (ha : MA X cl (EXW X.K cl W) c (e :: es) gl) (hdb : (x == ("__debug__" : Str)) = false := by decide +kernel)
    (he : starEach (e :: es) X.env = (false, eval e X.env) :: starEach es X.env := by rfl) (hpl : (backTo pos (starEach es X.env)).any (·.1) = false := by rfl) :
    ME X cl (EXW X.K cl W) c (.Call (.Name x p) (e :: es) [] pos) (eMake k f gl) := by
  obtain ⟨hm, hC, fA, M, fd, ps, F, hb, hk, ar⟩ := F
  refine ⟨fun pins s σ H Q I h => ?_⟩
  obtain ⟨ρ, env, st, A, e', h⟩ := h
  refine wpAny_Call_Name_kw (ld_glob I hg hm ?_ hdb)
  refine PySem.W.callWith_K (h₀ := X.base) I.ok.mod.kin M.kp (thn (ha.run pos pins s σ H _ I (Rest.step (g := gl c) (rL X.K) A e' h)) fun us s1 ⟨vs, H1, I1, r, q⟩ => ⟨I1.kIn, ?_⟩) he hpl
  obtain ⟨ρ1, st1, ds, g1, A1, r1, h1⟩ := q
  refine run_makeS G.gd G.tk M F G.room hb I1 r fun x dx nx ndx nex => ?_
  obtain ⟨A2, g2⟩ := A1.side (o := .own x) ndx
  have nx2 : upd H1 dx (.own x) x = none := by rw [upd_ne (fun q => nex q.symm)]; exact nx
  obtain ⟨A3, g3⟩ := A2.push (o := .ins (cl k) dx []) (ob := .ins k []) nx2 (.ins upd_same .nil hC (fun p hp => by cases hp))
  have g23 := g2.trans g3
  have r3 : RvL X.K (upd (upd H1 dx (.own x)) x (.ins (cl k) dx [])) (ρ1 ++ [x]) (.ref x :: vs) (.loc st1.length :: ds) := .cons (.loc (by rw [← A1.len]; simp)) (r1.grow A1 g23)
  have h2 : Rest X.K cl (EXW X.K cl W) (rV X.K) σ Q (bnd (c.call f (.loc st1.length :: ds)) (mkEnd (D.loc st1.length))) (ρ1 ++ [x]) (upd (upd H1 dx (.own x)) x (.ins (cl k) dx [])) (st1 ++ [.ins k []]) := by
    rcases h1 with ⟨d, st', q, kk⟩ | ⟨kc, fs, st', q, kk⟩
    · exact .inl ⟨d, st', q, fun ρ' H' v g' A' r' => kk ρ' H' v (g23.trans g') A' r'⟩
    · exact .inr ⟨kc, fs, st', q, fun ρ' H' g' A' => kk ρ' H' (g23.trans g') A'⟩
  -- the def's own promise, and what is wanted behind it
  have hlen : (.ref x :: vs : List V).length = ps.length := by
    rw [r3.length]
    rcases h2 with ⟨d, st', q, _⟩ | ⟨kc, fs, st', q, _⟩
    all_goals
      unfold bnd at q
      cases qq : c.call f (.loc st1.length :: ds) (st1 ++ [.ins k []]) with
      | none => rw [qq] at q; cases q
      | some rr => exact ar _ _ _ qq
  refine ⟨hlen, ρ1 ++ [x], _, st1 ++ [.ins k []], A3, r3, ?_⟩
  have step : ∀ rr, bnd (c.call f (.loc st1.length :: ds)) (mkEnd (D.loc st1.length)) (st1 ++ [.ins k []]) = some rr →
      (∃ s3, c.call f (.loc st1.length :: ds) (st1 ++ [.ins k []]) = some (.ok .non, s3) ∧ rr = (.ok (.loc st1.length), s3)) ∨ (∃ kc fs s3, c.call f (.loc st1.length :: ds) (st1 ++ [.ins k []]) = some (.exc kc fs, s3) ∧ rr = (.exc kc fs, s3)) := fun rr q => by
    unfold bnd at q
    cases qq : c.call f (.loc st1.length :: ds) (st1 ++ [.ins k []]) with
    | none => rw [qq] at q; cases q
    | some pr =>
      obtain ⟨rs, s3⟩ := pr
      rw [qq] at q
      cases rs with
      | exc kc fs => exact .inr ⟨kc, fs, s3, rfl, (Option.some.inj q).symm⟩
      | ok z =>
        cases z with
        | non => exact .inl ⟨s3, rfl, (Option.some.inj q).symm⟩
        | _ => cases q
  rcases h2 with ⟨d, st', q, kk⟩ | ⟨kc, fs, st', q, kk⟩
  · rcases step _ q with ⟨s3, q1, q2⟩ | ⟨kc, fs, s3, q1, q2⟩
    · cases q2
      refine .inl ⟨.non, st', q1, fun ρ' H' v g' A' r' => ?_⟩
      cases r'
      refine ⟨rfl, kk ρ' H' _ g' A' ?_⟩
      obtain ⟨ee, rfl⟩ := g'.ext
      exact .loc (by rw [← A1.len]; simp)
    · cases q2
  · rcases step _ q with ⟨s3, q1, q2⟩ | ⟨kc', fs', s3, q1, q2⟩
    · cases q2
    · cases q2
      exact .inr ⟨_, _, _, q1, kk⟩
end
end MS

set_option Elab.async false
set_option linter.all false
set_option maxRecDepth 100000
set_option maxHeartbeats 4000000
/-! MSR7: rules of our own: extend by a list that is only read. -/
namespace MS
open PySem PySem.Spec PyProof.Rows L2
theorem list_extendW (l : Addr) (items : Array Value) (n : Nat) (b : Addr) (items2 : Array Value) (n2 : Nat) (dd2 : Option Addr) (sl2 : Array (Option Value)) (hc0 : ¬(!items.isEmpty && Builtin.List.listTooLong (items.size + items2.size)) = true) (hc1 : items.size ≤ sizeLine) (hs2 : items.size + items2.size ≤ sizeLine + 1) :
    Meets (Builtin.«list.extend» ⟨[.ref l, .ref b], []⟩) (fun _ R s => s.heap.get? l = some { cls := .type "list", dict := none, data := .seq items n, slots := #[] } ∧ s.heap.get? b = some { cls := .type "list", dict := dd2, data := .seq items2 n2, slots := sl2 } ∧ R (.ok (.ret Value.none)) { s with heap := s.heap.update l (Obj.mapSeq fun x => x ++ items2), toks := s.toks }) :=
  .of_wp fun prog w A R s h => by
    obtain ⟨hp, g, d, tk, os⟩ := s; obtain ⟨hl, hb, h⟩ := h
    have f1 := AutoSeq1.idx_int; have f2 := AutoSeq1.sub_tuple_tuple; have f3 := AutoSeq1.sub_list_list; have f4 := AutoSeq1.sub_tuple_list; have f5 := AutoSeq1.sub_list_tuple
    have hz' : (items ++ items2).size ≤ sizeLine + 1 := by rw [Array.size_append]; exact hs2
    wp_walk using (wpAny_updateSeq hl rfl (hz := hc1) (_hz' := hz')), AutoSeq1.wpAny_loadPart' hl, AutoSeq1.wpAny_loadPart' hb
    exact ⟨_, rfl, h⟩
def rExtendS (K : PySem.W.Frag) : V → List V → Hp → VK → Prop := fun x vs H Q => ∃ l b xs zs, x = .ref l ∧ vs = [.ref b] ∧ H l = some (.lst xs) ∧ SqL K H b zs ∧ xs.length + zs.length ≤ sizeLine ∧ Q .non (upd H l (.lst (xs ++ zs)))
theorem mt_extendS {X : Cx} : MtM X "list.extend" (rExtendS X.K) := by
  intro pins s σ H x vs v us Q I rx rv h
  obtain ⟨l, b, xs, zs, rfl, rfl, hH, hB, hz, q⟩ := h
  cases rx
  obtain ⟨u, rfl, ru⟩ := rv.one
  cases ru
  obtain ⟨z, its, n, r, hl, e⟩ := I.lstM hH
  obtain ⟨its2, r2, pl, hl2'⟩ := I.list hB
  have hl2 := r2.length
  obtain ⟨⟨cls, dd2, data2, sl2⟩, n2, e2, hc, hd, hdt⟩ := id pl
  simp only at hc hd hdt
  subst hc hd hdt
  have hsz : its.toArray.size + its2.toArray.size ≤ sizeLine := by rw [List.size_toArray, List.size_toArray]; omega
  have hlong : ¬ (!its.toArray.isEmpty && Builtin.List.listTooLong (its.toArray.size + its2.toArray.size)) = true := by
    rw [notLongL hsz, Bool.and_false]
    exact Bool.false_ne_true
  refine call_meets F.slot_list_extend ⟨_, e, rfl⟩ F.entry_list_extend (F.args_list_extend_2 _ _)
    (list_extendW l its.toArray n b its2.toArray n2 _ sl2 hlong (by rw [List.size_toArray]; omega) (by omega)) ⟨e, e2, ?_⟩
  refine ⟨.non, _, I.lset (its' := its ++ its2) hH e (by simp) (r.append r2) ?_, rfl, q⟩
  rw [List.length_append]
  omega
end MS

set_option Elab.async false
set_option linter.all false
set_option maxRecDepth 100000
set_option maxHeartbeats 4000000
/-! MS7: built-in functions and methods. -/
namespace MS
open PySem PySem.Spec PyProof.Rows L2 MI

section
variable {X : Cx} {cl : Nat → Addr} {E : EX} {c : MI.Ctx} {x : Str} {p pos apos cpos : Pos} {e e' o : Expr} {es : List Expr} {ga gb : SE} {id T : String}
/-- a built-in of one, of two arguments -/
def Ca1 (K : PySem.W.Frag) (cl : Nat → Addr) (E : EX) (f : D → MI.R D) (r : List V → Hp → VK → Prop) : Prop := UnS K cl E f fun v H Q => r [v] H Q
def Ca2 (K : PySem.W.Frag) (cl : Nat → Addr) (E : EX) (f : D → D → MI.R D) (r : List V → Hp → VK → Prop) : Prop := OpS K cl E f fun v u H Q => r [v, u] H Q
theorem tm_args1 {r : List V → Hp → VK → Prop} {σ : L2.St} {H : Hp} {Q : VK} (h : TM X.K cl E (rV X.K) (ga c) σ H fun v H1 => r [v] H1 Q) : tCB r (tCons (TM X.K cl E (rV X.K) (ga c)) tNil) σ H Q := h
theorem me_b1 {f : D → MI.R D} {r : List V → Hp → VK → Prop} (hc : CallR X (.builtin id) r) (hs : Ca1 X.K cl E f r) (hg : Gl X x) (hm : X.mg x = none) (hv : bootBuiltins x = some (.builtin id)) (ha : ME X cl E c e ga) (hn : x ≠ "__name__" := by decide +kernel) (hdb : (x == ("__debug__" : Str)) = false := by decide +kernel)
    (he : starEach [e] X.env = (false, eval e X.env) :: starEach [] X.env := by rfl) : ME X cl E c (.Call (.Name x p) [e] [] pos) (eUn f ga) :=
  peI (pe_callB hc hg hm hv (pa_cons ha pa_nil he) hn hdb he (by rfl)) fun σ H Q h => tm_args1 (tm_un (f := f) (r := fun v H Q => r [v] H Q) hs h)
theorem me_t1 {f : D → MI.R D} {r : List V → Hp → VK → Prop} (hc : CallR X (.type T) r) (hs : Ca1 X.K cl E f r) (hg : Gl X x) (hm : X.mg x = none) (hv : bootBuiltins x = some (.type T)) (ha : ME X cl E c e ga) (hn : x ≠ "__name__" := by decide +kernel) (hdb : (x == ("__debug__" : Str)) = false := by decide +kernel)
    (he : starEach [e] X.env = (false, eval e X.env) :: starEach [] X.env := by rfl) : ME X cl E c (.Call (.Name x p) [e] [] pos) (eUn f ga) :=
  peI (pe_callTy hc hg hm hv (pa_cons ha pa_nil he) hn hdb he (by rfl)) fun σ H Q h => tm_args1 (tm_un (f := f) (r := fun v H Q => r [v] H Q) hs h)
theorem me_b2 {f : D → D → MI.R D} {r : List V → Hp → VK → Prop} (hc : CallR X (.builtin id) r) (hs : Ca2 X.K cl E f r) (hg : Gl X x) (hm : X.mg x = none) (hv : bootBuiltins x = some (.builtin id)) (ha : ME X cl E c e ga) (hb : ME X cl E c e' gb) (hn : x ≠ "__name__" := by decide +kernel) (hdb : (x == ("__debug__" : Str)) = false := by decide +kernel)
    (he : starEach [e, e'] X.env = (false, eval e X.env) :: starEach [e'] X.env := by rfl) (he' : starEach [e'] X.env = (false, eval e' X.env) :: starEach [] X.env := by rfl) (hpl : (backTo pos (starEach [e'] X.env)).any (·.1) = false := by rfl) : ME X cl E c (.Call (.Name x p) [e, e'] [] pos) (eBin f ga gb) :=
  peI (pe_callB hc hg hm hv (pa_cons ha (pa_cons hb pa_nil he') he) hn hdb he hpl) fun σ H Q h => tm_op (f := f) (r := fun v u H Q => r [v, u] H Q) hs h
end

section
variable {K : PySem.W.Frag} {cl : Nat → Addr} {E : EX}
/-! ### what each does -/
theorem s_len : Ca1 K cl E bLen (fun xs H Q => ∃ x n, xs = [x] ∧ LenV K x H n ∧ Q (.int n) H) := by
  intro σ Q ρ H st v1 d1 A r1 h
  cases r1 with
  | @tup a vs l hs r => exact ⟨_, l.length, rfl, .inr ⟨vs, hs, r.length.symm⟩, h.ok (st' := st) rfl .refl A (.int _)⟩
  | @xtup a vs l hs r => exact ⟨_, l.length, rfl, .inr ⟨vs, hs.seq, r.length.symm⟩, h.ok (st' := st) rfl .refl A (.int _)⟩
  | @frz a vs l hs r => exact ⟨_, l.length, rfl, .inl ⟨vs, hs.seq, r.length.symm⟩, h.ok (st' := st) rfl .refl A (.int _)⟩
  | @loc a n ha =>
    cases e1 : st[n]? with
    | none => exact h.none (by simp [bLen, e1])
    | some o =>
      have q1 := A.get ha e1
      cases q1 with
      | @lst vs l h1 r => exact ⟨_, l.length, rfl, .inl ⟨vs, SqL.of h1, r.length.symm⟩, h.ok (st' := st) (d := .int l.length) (by simp [bLen, e1]) .refl A (.int _)⟩
      | _ => exact h.none (by simp [bLen, e1])
  | str s =>
    by_cases hl : s.length < lim
    · exact ⟨_, s.length, rfl, ⟨by rw [sD_len]; exact lim_size hl, (sD_len s).symm⟩, h.ok (st' := st) (d := .int s.length) (by simp [bLen, hl]) .refl A (.int _)⟩
    · exact h.none (by simp [bLen, hl])
  | _ => exact h.none rfl
theorem s_int : Ca1 K cl E bInt (fun xs H Q => (∃ i, xs = [.int i] ∧ Q (.int i) H) ∨ ∃ k, xs = [.bl k] ∧ Q (.int (if k then 1 else 0)) H) := by
  intro σ Q ρ H st v1 d1 A r1 h
  cases r1 with
  | int i => exact .inl ⟨i, rfl, h.ok (st' := st) rfl .refl A (.int _)⟩
  | bl k => exact .inr ⟨k, rfl, h.ok (st' := st) (d := .int (if k then 1 else 0)) rfl .refl A (.int _)⟩
  | _ => exact h.none rfl
theorem s_abs : Ca1 K cl E bAbs (fun xs H Q => ∃ i, xs = [.int i] ∧ Q (.int (if i < 0 then -i else i)) H) := by
  intro σ Q ρ H st v1 d1 A r1 h
  cases r1 with
  | int i => exact ⟨i, rfl, h.ok (st' := st) rfl .refl A (.int _)⟩
  | _ => exact h.none rfl
theorem s_max2 : Ca2 K cl E bMax2 (fun xs H Q => ∃ i j, xs = [.int i, .int j] ∧ Q (.int (if j > i then j else i)) H) := by
  intro σ Q ρ H st v1 v2 d1 d2 A r1 r2 h
  cases r1 with
  | int i =>
    cases r2 with
    | int j => exact ⟨i, j, rfl, h.ok (st' := st) rfl .refl A (.int _)⟩
    | _ => exact h.none rfl
  | _ => exact h.none rfl
theorem s_min2 : Ca2 K cl E bMin2 (fun xs H Q => ∃ i j, xs = [.int i, .int j] ∧ Q (.int (if j < i then j else i)) H) := by
  intro σ Q ρ H st v1 v2 d1 d2 A r1 r2 h
  cases r1 with
  | int i =>
    cases r2 with
    | int j => exact ⟨i, j, rfl, h.ok (st' := st) rfl .refl A (.int _)⟩
    | _ => exact h.none rfl
  | _ => exact h.none rfl
/-- a list or tuple, by its items -/
theorem seqOf_ok {ρ : List Addr} {H : Hp} {st : Stt} {v : V} {d : D} (A : At K cl ρ H st) (r : Rv K H ρ v d) :
    seqOf d st = Option.none ∨ ∃ a vs l, v = .ref a ∧ seqOf d st = some (.ok l, st) ∧ RvL K H ρ vs l ∧ (SqL K H a vs ∨ SqT K H a vs) := by
  cases r with
  | @tup a vs l hs r => exact .inr ⟨a, vs, l, rfl, rfl, r, .inr hs⟩
  | @xtup a vs l hs r => exact .inr ⟨a, vs, l, rfl, rfl, r, .inr hs.seq⟩
  | @frz a vs l hs r => exact .inr ⟨a, vs, l, rfl, rfl, r, .inl hs.seq⟩
  | @loc a n ha =>
    cases e1 : st[n]? with
    | none => exact .inl (by simp [seqOf, e1])
    | some o =>
      have q1 := A.get ha e1
      cases q1 with
      | @lst vs l h1 r => exact .inr ⟨a, vs, l, rfl, by simp [seqOf, e1], r, .inl (SqL.of h1)⟩
      | _ => exact .inl (by simp [seqOf, e1])
  | _ => exact .inl rfl
theorem s_tuple : Ca1 K cl E bTuple (fun xs H Q => ∃ p ys, xs = [.ref p] ∧ ((SqL K H p ys ∧ ∀ l, H l = none → Q (.ref l) (upd H l (.tup ys))) ∨ (SqT K H p ys ∧ Q (.ref p) H))) := by
  intro σ Q ρ H st v1 d1 A r1 h
  rcases seqOf_ok A r1 with q | ⟨a, vs, l, rfl, q, r, hs⟩
  · exact h.none (bnd_none q)
  · have e : bTuple d1 st = some (.ok (.tup l), st) := by unfold bTuple; rw [bnd_inv q]; rfl
    rcases hs with hs | hs
    · exact ⟨a, vs, rfl, .inl ⟨hs, fun p n => rest_tup A r h e p n⟩⟩
    · exact ⟨a, vs, rfl, .inr ⟨hs, h.ok e .refl A (.tup hs r)⟩⟩
theorem s_tupleX : Ca1 K cl E bTupleX (fun xs H Q => ∃ p ys, xs = [.ref p] ∧ SqL K H p ys ∧ ∀ l o, H l = none → o.cls = .type "tuple" → o.dict = none → Q (.ref l) (upd H l (.frz o (.tup ys)))) := by
  intro σ Q ρ H st v1 d1 A r1 h
  cases r1 with
  | @loc a n ha =>
    cases e1 : st[n]? with
    | none => exact h.none (by simp [bTupleX, e1])
    | some o =>
      have q1 := A.get ha e1
      cases q1 with
      | @lst vs l h1 r =>
        refine ⟨a, vs, rfl, SqL.of h1, fun p ob n c1 c2 => ?_⟩
        obtain ⟨A', g⟩ := A.side (o := .frz ob (.tup vs)) n
        exact h.ok (st' := st) (d := .xtup l) (by simp [bTupleX, e1]) g A' (.xtup ⟨ob, upd_same, c1, c2⟩ (r.grow A g))
      | _ => exact h.none (by simp [bTupleX, e1])
  | @frz a vs l hs r =>
    refine ⟨a, vs, rfl, hs.seq, fun p ob n c1 c2 => ?_⟩
    obtain ⟨A', g⟩ := A.side (o := .frz ob (.tup vs)) n
    exact h.ok (st' := st) (d := .xtup l) rfl g A' (.xtup ⟨ob, upd_same, c1, c2⟩ (r.grow A g))
  | _ => exact h.none rfl
theorem s_list : Ca1 K cl E bList (fun xs H Q => ∃ p ys, xs = [.ref p] ∧ (SqL K H p ys ∨ SqT K H p ys) ∧ ∀ l, H l = none → Q (.ref l) (upd H l (.lst ys))) := by
  intro σ Q ρ H st v1 d1 A r1 h
  rcases seqOf_ok A r1 with q | ⟨a, vs, l, rfl, q, r, hs⟩
  · exact h.none (bnd_none q)
  · by_cases hl : l.length < lim
    · have e : bList d1 st = some (.ok (.loc st.length), st ++ [.lst l]) := by unfold bList; rw [bnd_inv q, if_pos hl]; rfl
      exact ⟨a, vs, rfl, hs, fun p n => rest_lst A r h e p n⟩
    · exact h.none (by unfold bList; rw [bnd_inv q, if_neg hl]; rfl)
theorem s_listF : Ca1 K cl E bListF (fun xs H Q => ∃ p ys, xs = [.ref p] ∧ (SqL K H p ys ∨ SqT K H p ys) ∧ ∀ l, H l = none → fz Q (.ref l) (upd H l (.lst ys))) := by
  intro σ Q ρ H st v1 d1 A r1 h
  rcases seqOf_ok A r1 with q | ⟨a, vs, l, rfl, q, r, hs⟩
  · exact h.none (bnd_none q)
  · by_cases hl : l.length < lim
    · have e : bListF d1 st = some (.ok (.frz l), st) := by unfold bListF; rw [bnd_inv q, if_pos hl]; rfl
      exact ⟨a, vs, rfl, hs, fun p n => rest_frz A r h e p n⟩
    · exact h.none (by unfold bListF; rw [bnd_inv q, if_neg hl]; rfl)
theorem ints_of {ρ : List Addr} {H : Hp} : ∀ {l : List D} {vs : List V} {ns : List Int}, ints? l = some ns → RvL K H ρ vs l → vs = ns.map V.int
  | [], _, _, h, r => by cases r; cases h; rfl
  | .int i :: l, _, ns, h, r => by
    cases r with
    | cons r1 r2 =>
      cases r1
      unfold ints? at h
      obtain ⟨m, h1, h2⟩ := Option.map_eq_some_iff.mp h
      subst h2
      rw [List.map_cons, ints_of h1 r2]
  | .non :: _, _, _, h, _ => by cases h
  | .bl _ :: _, _, _, h, _ => by cases h
  | .str _ :: _, _, _, h, _ => by cases h
  | .tup _ :: _, _, _, h, _ => by cases h
  | .loc _ :: _, _, _, h, _ => by cases h
  | .frz _ :: _, _, _, h, _ => by cases h
  | .xtup _ :: _, _, _, h, _ => by cases h
theorem bools_of {ρ : List Addr} {H : Hp} : ∀ {l : List D} {vs : List V} {ns : List Bool}, bools? l = some ns → RvL K H ρ vs l → vs = ns.map V.bl
  | [], _, _, h, r => by cases r; cases h; rfl
  | .bl i :: l, _, ns, h, r => by
    cases r with
    | cons r1 r2 =>
      cases r1
      unfold bools? at h
      obtain ⟨m, h1, h2⟩ := Option.map_eq_some_iff.mp h
      subst h2
      rw [List.map_cons, bools_of h1 r2]
  | .non :: _, _, _, h, _ => by cases h
  | .int _ :: _, _, _, h, _ => by cases h
  | .str _ :: _, _, _, h, _ => by cases h
  | .tup _ :: _, _, _, h, _ => by cases h
  | .loc _ :: _, _, _, h, _ => by cases h
  | .frz _ :: _, _, _, h, _ => by cases h
  | .xtup _ :: _, _, _, h, _ => by cases h
theorem leastI_le : ∀ (r : List Int) (m : Int), leastI m r ≤ m ∧ ∀ y ∈ r, leastI m r ≤ y
  | [], m => ⟨Int.le_refl _, fun _ h => by cases h⟩
  | x :: r, m => by
    have h := leastI_le r (if x < m then x else m)
    unfold leastI
    by_cases q : x < m
    · rw [if_pos q] at h ⊢
      refine ⟨by have := h.1; omega, fun y hy => ?_⟩
      rcases List.mem_cons.mp hy with rfl | hy
      · exact h.1
      · exact h.2 y hy
    · rw [if_neg q] at h ⊢
      refine ⟨h.1, fun y hy => ?_⟩
      rcases List.mem_cons.mp hy with rfl | hy
      · have := h.1; omega
      · exact h.2 y hy
theorem leastI_mem : ∀ (r : List Int) (m : Int), leastI m r ∈ m :: r
  | [], m => by simp [leastI]
  | x :: r, m => by
    have h := leastI_mem r (if x < m then x else m)
    unfold leastI
    split at h
    · rename_i q; rw [if_pos q]; exact List.mem_cons_of_mem _ h
    · rename_i q; rw [if_neg q]
      rcases List.mem_cons.mp h with h | h
      · rw [h]; exact List.mem_cons_self
      · exact List.mem_cons_of_mem _ (List.mem_cons_of_mem _ h)
theorem greatI_ge : ∀ (r : List Int) (m : Int), m ≤ greatI m r ∧ ∀ y ∈ r, y ≤ greatI m r
  | [], m => ⟨Int.le_refl _, fun _ h => by cases h⟩
  | x :: r, m => by
    have h := greatI_ge r (if m < x then x else m)
    unfold greatI
    by_cases q : m < x
    · rw [if_pos q] at h ⊢
      refine ⟨by have := h.1; omega, fun y hy => ?_⟩
      rcases List.mem_cons.mp hy with rfl | hy
      · exact h.1
      · exact h.2 y hy
    · rw [if_neg q] at h ⊢
      refine ⟨h.1, fun y hy => ?_⟩
      rcases List.mem_cons.mp hy with rfl | hy
      · have := h.1; omega
      · exact h.2 y hy
theorem greatI_mem : ∀ (r : List Int) (m : Int), greatI m r ∈ m :: r
  | [], m => by simp [greatI]
  | x :: r, m => by
    have h := greatI_mem r (if m < x then x else m)
    unfold greatI
    split at h
    · rename_i q; rw [if_pos q]; exact List.mem_cons_of_mem _ h
    · rename_i q; rw [if_neg q]
      rcases List.mem_cons.mp h with h | h
      · rw [h]; exact List.mem_cons_self
      · exact List.mem_cons_of_mem _ (List.mem_cons_of_mem _ h)
theorem s_min : Ca1 K cl E bMin (fun vs H Q => rMin K vs H Q ∨ ∃ (a : Addr) (ns : List Int), vs = [V.ref a] ∧ SqT K H a (ns.map V.int) ∧ 0 < ns.length ∧ ∀ m, m ∈ ns → (∀ y, y ∈ ns → m ≤ y) → Q (.int m) H) := by
  intro σ Q ρ H st v1 d1 A r1 h
  rcases seqOf_ok A r1 with q | ⟨a, vs, l, rfl, q, r, hs⟩
  · exact h.none (bnd_none q)
  · cases qi : ints? l with
    | none => exact h.none (by unfold bMin; rw [bnd_inv q, qi]; rfl)
    | some ns =>
      have ev := ints_of qi r
      subst ev
      cases ns with
      | nil => exact h.none (by unfold bMin; rw [bnd_inv q, qi]; rfl)
      | cons i ns =>
        have e : bMin d1 st = some (.ok (.int (leastI i ns)), st) := by unfold bMin; rw [bnd_inv q, qi]; rfl
        have fin : ∀ m, m ∈ i :: ns → (∀ y, y ∈ i :: ns → m ≤ y) → Q (.int m) H := fun m hm hy => by
          have l1 := leastI_le ns i
          have l2 := leastI_mem ns i
          have e1 : m = leastI i ns := by
            have a1 := hy _ l2
            have a2 : leastI i ns ≤ m := by
              rcases List.mem_cons.mp hm with rfl | hm
              · exact l1.1
              · exact l1.2 m hm
            omega
          rw [e1]
          exact h.ok e .refl A (.int _)
        rcases hs with hs | hs
        · exact .inl ⟨a, i :: ns, rfl, hs, Nat.succ_pos _, fin⟩
        · exact .inr ⟨a, i :: ns, rfl, hs, Nat.succ_pos _, fin⟩
theorem s_max : Ca1 K cl E bMax (fun vs H Q => rMax K vs H Q ∨ ∃ (a : Addr) (ns : List Int), vs = [V.ref a] ∧ SqT K H a (ns.map V.int) ∧ 0 < ns.length ∧ ∀ m, m ∈ ns → (∀ y, y ∈ ns → y ≤ m) → Q (.int m) H) := by
  intro σ Q ρ H st v1 d1 A r1 h
  rcases seqOf_ok A r1 with q | ⟨a, vs, l, rfl, q, r, hs⟩
  · exact h.none (bnd_none q)
  · cases qi : ints? l with
    | none => exact h.none (by unfold bMax; rw [bnd_inv q, qi]; rfl)
    | some ns =>
      have ev := ints_of qi r
      subst ev
      cases ns with
      | nil => exact h.none (by unfold bMax; rw [bnd_inv q, qi]; rfl)
      | cons i ns =>
        have e : bMax d1 st = some (.ok (.int (greatI i ns)), st) := by unfold bMax; rw [bnd_inv q, qi]; rfl
        have fin : ∀ m, m ∈ i :: ns → (∀ y, y ∈ i :: ns → y ≤ m) → Q (.int m) H := fun m hm hy => by
          have l1 := greatI_ge ns i
          have l2 := greatI_mem ns i
          have e1 : m = greatI i ns := by
            have a1 := hy _ l2
            have a2 : m ≤ greatI i ns := by
              rcases List.mem_cons.mp hm with rfl | hm
              · exact l1.1
              · exact l1.2 m hm
            omega
          rw [e1]
          exact h.ok e .refl A (.int _)
        rcases hs with hs | hs
        · exact .inl ⟨a, i :: ns, rfl, hs, Nat.succ_pos _, fin⟩
        · exact .inr ⟨a, i :: ns, rfl, hs, Nat.succ_pos _, fin⟩
end
theorem call_minA {X : Cx} (hc : X.calm = true) : CallR X (.builtin "min") (fun vs H Q => rMin X.K vs H Q ∨ ∃ (a : Addr) (ns : List Int), vs = [V.ref a] ∧ SqT X.K H a (ns.map V.int) ∧ 0 < ns.length ∧ ∀ m, m ∈ ns → (∀ y, y ∈ ns → m ≤ y) → Q (.int m) H) := CallR.or (cr_min hc) (cr_minT hc)
theorem call_maxA {X : Cx} (hc : X.calm = true) : CallR X (.builtin "max") (fun vs H Q => rMax X.K vs H Q ∨ ∃ (a : Addr) (ns : List Int), vs = [V.ref a] ∧ SqT X.K H a (ns.map V.int) ∧ 0 < ns.length ∧ ∀ m, m ∈ ns → (∀ y, y ∈ ns → y ≤ m) → Q (.int m) H) := CallR.or (cr_max hc) (cr_maxT hc)
section
variable {K : PySem.W.Frag} {cl : Nat → Addr} {E : EX}
theorem insI_perm (x : Int) : ∀ l : List Int, (insI x l).Perm (x :: l)
  | [] => .refl _
  | y :: r => by
    unfold insI
    split
    · exact .refl _
    · exact ((insI_perm x r).cons y).trans (.swap x y r)
theorem sortI_perm : ∀ l : List Int, (sortI l).Perm l
  | [] => .refl _
  | x :: r => (insI_perm x (sortI r)).trans ((sortI_perm r).cons x)
theorem insI_sorted (x : Int) : ∀ l : List Int, l.Pairwise (· ≤ ·) → (insI x l).Pairwise (· ≤ ·)
  | [], _ => by simp [insI]
  | y :: r, h => by
    unfold insI
    obtain ⟨h1, h2⟩ := List.pairwise_cons.mp h
    split
    · rename_i q
      refine List.pairwise_cons.mpr ⟨fun z hz => ?_, h⟩
      rcases List.mem_cons.mp hz with rfl | hz
      · exact q
      · exact Int.le_trans q (h1 z hz)
    · rename_i q
      refine List.pairwise_cons.mpr ⟨fun z hz => ?_, insI_sorted x r h2⟩
      rcases List.mem_cons.mp ((insI_perm x r).mem_iff.mp hz) with rfl | hz
      · omega
      · exact h1 z hz
theorem sortI_sorted : ∀ l : List Int, (sortI l).Pairwise (· ≤ ·)
  | [] => .nil
  | x :: r => insI_sorted x _ (sortI_sorted r)
theorem sortI_unique {l m : List Int} (p : m.Perm l) (s : m.Pairwise (· ≤ ·)) : m = sortI l :=
  List.Perm.eq_of_pairwise (le := (· ≤ ·)) (fun a b _ _ h1 h2 => Int.le_antisymm h1 h2) s (sortI_sorted l) (p.trans (sortI_perm l).symm)
theorem ints_map {H : Hp} {ρ : List Addr} : ∀ ns : List Int, RvL K H ρ (ns.map V.int) (ns.map D.int)
  | [] => .nil
  | n :: ns => .cons (.int n) (ints_map ns)
theorem s_sorted : Ca1 K cl E bSorted (fun vs H Q => rSortedI K vs H Q ∨ ∃ (a : Addr) (ns : List Int), vs = [V.ref a] ∧ SqT K H a (ns.map V.int) ∧ ∀ (ns' : List Int) (p : Addr), ns'.Perm ns → ns'.Pairwise (· ≤ ·) → H p = none → Q (.ref p) (upd H p (.lst (ns'.map V.int)))) := by
  intro σ Q ρ H st v1 d1 A r1 h
  rcases seqOf_ok A r1 with q | ⟨a, vs, l, rfl, q, r, hs⟩
  · exact h.none (bnd_none q)
  · cases qi : ints? l with
    | none => exact h.none (by unfold bSorted; rw [bnd_inv q, qi]; rfl)
    | some ns =>
      have ev := ints_of qi r
      subst ev
      by_cases hl : ns.length < lim
      · have e : bSorted d1 st = some (.ok (.loc st.length), st ++ [.lst ((sortI ns).map D.int)]) := by unfold bSorted; rw [bnd_inv q, qi]; simp only [if_pos hl]; rfl
        have fin : ∀ (ns' : List Int) (p : Addr), ns'.Perm ns → ns'.Pairwise (· ≤ ·) → H p = none → Q (.ref p) (upd H p (.lst (ns'.map V.int))) := fun ns' p hp hs n => by
          rw [sortI_unique hp hs]
          exact rest_lst A (ints_map _) h e p n
        rcases hs with hs | hs
        · exact .inl ⟨a, ns, rfl, hs, fin⟩
        · exact .inr ⟨a, ns, rfl, hs, fin⟩
      · exact h.none (by unfold bSorted; rw [bnd_inv q, qi]; simp only [if_neg hl]; rfl)
theorem s_sortedF : Ca1 K cl E bSortedF (fun vs H Q => rSortedI K vs H (fz Q) ∨ ∃ (a : Addr) (ns : List Int), vs = [V.ref a] ∧ SqT K H a (ns.map V.int) ∧ ∀ (ns' : List Int) (p : Addr), ns'.Perm ns → ns'.Pairwise (· ≤ ·) → H p = none → fz Q (.ref p) (upd H p (.lst (ns'.map V.int)))) := by
  intro σ Q ρ H st v1 d1 A r1 h
  rcases seqOf_ok A r1 with q | ⟨a, vs, l, rfl, q, r, hs⟩
  · exact h.none (bnd_none q)
  · cases qi : ints? l with
    | none => exact h.none (by unfold bSortedF; rw [bnd_inv q, qi]; rfl)
    | some ns =>
      have ev := ints_of qi r
      subst ev
      by_cases hl : ns.length < lim
      · have e : bSortedF d1 st = some (.ok (.frz ((sortI ns).map D.int)), st) := by unfold bSortedF; rw [bnd_inv q, qi]; simp only [if_pos hl]; rfl
        have fin : ∀ (ns' : List Int) (p : Addr), ns'.Perm ns → ns'.Pairwise (· ≤ ·) → H p = none → fz Q (.ref p) (upd H p (.lst (ns'.map V.int))) := fun ns' p hp hs n => by
          rw [sortI_unique hp hs]
          exact rest_frz A (ints_map _) h e p n
        rcases hs with hs | hs
        · exact .inl ⟨a, ns, rfl, hs, fin⟩
        · exact .inr ⟨a, ns, rfl, hs, fin⟩
      · exact h.none (by unfold bSortedF; rw [bnd_inv q, qi]; simp only [if_neg hl]; rfl)
theorem lstOf_ok {ρ : List Addr} {H : Hp} {st : Stt} {v : V} {d : D} (A : At K cl ρ H st) (r : Rv K H ρ v d) :
    lstOf d st = Option.none ∨ ∃ a vs l, v = .ref a ∧ lstOf d st = some (.ok l, st) ∧ RvL K H ρ vs l ∧ SqL K H a vs := by
  cases r with
  | @loc a n ha =>
    cases e1 : st[n]? with
    | none => exact .inl (by simp [lstOf, e1])
    | some o =>
      have q1 := A.get ha e1
      cases q1 with
      | @lst vs l h1 r => exact .inr ⟨a, vs, l, rfl, by simp [lstOf, e1], r, SqL.of h1⟩
      | _ => exact .inl (by simp [lstOf, e1])
  | @frz a vs l hs r => exact .inr ⟨a, vs, l, rfl, rfl, r, hs.seq⟩
  | _ => exact .inl rfl
theorem s_sum : Ca1 K cl E bSum (fun vs H Q => rSum K vs H Q) := by
  intro σ Q ρ H st v1 d1 A r1 h
  rcases lstOf_ok A r1 with q | ⟨a, vs, l, rfl, q, r, hs⟩
  · exact h.none (bnd_none q)
  · cases qi : ints? l with
    | none => exact h.none (by unfold bSum; rw [bnd_inv q, qi]; rfl)
    | some ns =>
      have ev := ints_of qi r
      subst ev
      exact ⟨a, ns, rfl, hs, h.ok (st' := st) (d := .int ns.sum) (by unfold bSum; rw [bnd_inv q, qi]; rfl) .refl A (.int _)⟩
theorem s_all : Ca1 K cl E bAll (fun vs H Q => rAll K vs H Q) := by
  intro σ Q ρ H st v1 d1 A r1 h
  rcases lstOf_ok A r1 with q | ⟨a, vs, l, rfl, q, r, hs⟩
  · exact h.none (bnd_none q)
  · cases qi : bools? l with
    | none => exact h.none (by unfold bAll; rw [bnd_inv q, qi]; rfl)
    | some ns =>
      have ev := bools_of qi r
      subst ev
      exact ⟨a, ns, rfl, hs, h.ok (st' := st) (d := .bl (ns.all id)) (by unfold bAll; rw [bnd_inv q, qi]; rfl) .refl A (.bl _)⟩
theorem s_any : Ca1 K cl E bAny (fun vs H Q => rAny K vs H Q) := by
  intro σ Q ρ H st v1 d1 A r1 h
  rcases lstOf_ok A r1 with q | ⟨a, vs, l, rfl, q, r, hs⟩
  · exact h.none (bnd_none q)
  · cases qi : bools? l with
    | none => exact h.none (by unfold bAny; rw [bnd_inv q, qi]; rfl)
    | some ns =>
      have ev := bools_of qi r
      subst ev
      exact ⟨a, ns, rfl, hs, h.ok (st' := st) (d := .bl (ns.any id)) (by unfold bAny; rw [bnd_inv q, qi]; rfl) .refl A (.bl _)⟩
end
end MS

set_option Elab.async false
set_option linter.all false
set_option maxRecDepth 100000
set_option maxHeartbeats 4000000
/-! MS8: methods of built-in types, list(range), {..}.get. -/
namespace MS
open PySem PySem.Spec PyProof.Rows L2 MI

/-- the value is of that builtin type, its object without a dict -/
def TyOk (X : Cx) (T : String) (x : V) (H : Hp) : Prop := ∀ (pins : List (Addr × Obj)) (σ : L2.St) (s : Shared) (v : Value), Inv X pins σ H s → RelV x v →
  s.TypeIs v T ∧ ∀ a, v = .ref a → ∃ ob, s.heap.get? a = some ob ∧ ob.dict = none
theorem TyOk.of {X : Cx} {T : String} {x : V} {H : Hp} (h : tyV X.K T x H) : TyOk X T x H := fun _ _ _ _ I r => tyV_is I r h
theorem TyOk.xt {X : Cx} {a : Addr} {vs : List V} {H : Hp} (h : XT H a vs) : TyOk X "tuple" (.ref a) H := fun pins σ s v I r => by
  obtain ⟨o, h1, h2, h3⟩ := h
  cases r
  obtain ⟨e, _⟩ := I.hok a _ h1
  exact ⟨⟨o, e, h2⟩, fun b q => by cases q; exact ⟨o, e, h3⟩⟩
/-- a built-in type that has the method -/
structure BM (X : Cx) (name : Str) (T id : String) (r : V → List V → Hp → VK → Prop) : Prop where
  pa : PlainAttrs T
  slot : Slot T name id
  hty : typeOf (.builtin id) = pure (.type "method_descriptor")
  hm : MtR X id r
section
variable {X : Cx} {name : Str} {o e : Expr} {es : List Expr} {to : TE} {t : TA} {apos cpos : Pos}
def tBMU (X : Cx) (name : Str) (to : TE) (t : TA) : TE := fun σ H Q => to σ H fun x H1 => ∃ T id r, BM X name T id r ∧ TyOk X T x H1 ∧ t σ H1 fun xs H2 => r x xs H2 Q
theorem pe_bmU0 (ho : PE X o to) (hbase : attributeBase o name X.env (eval o X.env) = eval o X.env := by rfl) (hline : (apos.endLine == cpos.line) = true := by rfl) : PE X (.Call (.Attribute o name apos) [] [] cpos) (tBMU X name to tNil) := by
  refine ⟨fun pins s σ H Q I h => ?_⟩
  refine wpAny_Call_method0_late hbase hline (thn (ho.run pins s σ H _ I h) fun v s1 ⟨x, H1, I1, r1, T, id, r, B, ty, q1⟩ => ?_)
  obtain ⟨h1, h2⟩ := ty pins σ s1 v I1 r1
  exact ⟨T, id, B.pa, B.slot, B.hty, h1, h2, Calls.callWith_builtin rfl (PySem.evalArgs_none (B.hm pins s1 σ H1 x [] v [] Q I1 r1 .nil q1))⟩
theorem pe_bmU (ho : PE X o to) (ha : PA X (e :: es) t)
    (hbase : attributeBase o name X.env (eval o X.env) = eval o X.env := by rfl)
    (hfew : ((backTo cpos (starEach (e :: es) X.env)).all (fun x => !x.1) && (backToKw cpos (keywordEach [] X.env)).all (fun x => x.1.isSome)
      && decide ((e :: es).length + ([] : List Keyword).length + (if ([] : List Keyword).isEmpty then 0 else 1) < 30)) = true := by rfl)
    (hline : (apos.endLine == cpos.line) = true := by rfl) (hs : starEach (e :: es) X.env = (false, eval e X.env) :: starEach es X.env := by rfl) (hplain : (backTo cpos (starEach es X.env)).any (·.1) = false := by rfl) :
    PE X (.Call (.Attribute o name apos) (e :: es) [] cpos) (tBMU X name to t) := by
  refine ⟨fun pins s σ H Q I h => ?_⟩
  refine wpAny_Call_method_late hbase hfew hline rfl (thn (ho.run pins s σ H _ I h) fun v s1 ⟨x, H1, I1, r1, T, id, r, B, ty, q1⟩ => ?_)
  obtain ⟨h1, h2⟩ := ty pins σ s1 v I1 r1
  refine ⟨T, id, B.pa, B.slot, B.hty, h1, h2, ?_⟩
  have hA := ha.run cpos pins s1 σ H1 _ I1 q1
  rw [hs] at hA ⊢
  refine Calls.callWith_builtin (by show (false || (backTo cpos (starEach es X.env)).any (·.1)) = false; rw [hplain] <;> rfl) (Calls.evalArgs_plain ?_)
  exact thn hA fun us s2 ⟨vs, H2, I2, r2, q2⟩ => B.hm pins s2 σ H2 x vs v us Q I2 r1 r2 q2
end

section
variable {X : Cx} {cl : Nat → Addr} {E : EX} {c : MI.Ctx} {name : Str} {o e : Expr} {apos cpos : Pos} {ga gb : SE}
/-- what a method of one argument does: the receiver's look k, then f -/
def Mt1 (X : Cx) (cl : Nat → Addr) (E : EX) (name : Str) (k : D → MI.R Unit) (f : D → D → MI.R D) : Prop := ∀ {ρ : List Addr} {H : Hp} {st : Stt} {v : V} {d : D}, At X.K cl ρ H st → Rv X.K H ρ v d →
  k d st = none ∨ (k d st = some (.ok (), st) ∧ ∃ T id r, BM X name T id r ∧ TyOk X T v H ∧
    ∀ {σ : L2.St} {Q : VK} {ρ1 : List Addr} {H1 : Hp} {st1 : Stt} {y : V} {z : D}, At X.K cl ρ1 H1 st1 → Rv X.K H1 ρ1 v d → Rv X.K H1 ρ1 y z → Rest X.K cl E (rV X.K) σ Q (f d z) ρ1 H1 st1 → r v [y] H1 Q)
def Mt0 (X : Cx) (cl : Nat → Addr) (E : EX) (name : Str) (k : D → MI.R Unit) (f : D → MI.R D) : Prop := ∀ {ρ : List Addr} {H : Hp} {st : Stt} {v : V} {d : D}, At X.K cl ρ H st → Rv X.K H ρ v d →
  k d st = none ∨ (k d st = some (.ok (), st) ∧ ∃ T id r, BM X name T id r ∧ TyOk X T v H ∧ ∀ {σ : L2.St} {Q : VK}, Rest X.K cl E (rV X.K) σ Q (f d) ρ H st → r v [] H Q)
theorem me_mt1 {k : D → MI.R Unit} {f : D → D → MI.R D} (hM : Mt1 X cl E name k f) (ho : ME X cl E c o ga) (he : ME X cl E c e gb)
    (hbase : attributeBase o name X.env (eval o X.env) = eval o X.env := by rfl)
    (hfew : ((backTo cpos (starEach [e] X.env)).all (fun x => !x.1) && (backToKw cpos (keywordEach [] X.env)).all (fun x => x.1.isSome)
      && decide (([e] : List Expr).length + ([] : List Keyword).length + (if ([] : List Keyword).isEmpty then 0 else 1) < 30)) = true := by rfl)
    (hline : (apos.endLine == cpos.line) = true := by rfl) (hs : starEach [e] X.env = (false, eval e X.env) :: starEach [] X.env := by rfl) :
    ME X cl E c (.Call (.Attribute o name apos) [e] [] cpos) (eMt1 k f ga gb) :=
  peI (pe_bmU ho (pa_cons he pa_nil hs) hbase hfew hline hs (by rfl)) fun σ H Q h => by
    obtain ⟨ρ, env, st, A, e, h⟩ := h
    refine (Rest.step (g := ga c) (rV X.K) A e h).imp fun v1 H1 ⟨ρ1, st1, d1, g1, A1, r1, h1⟩ => ?_
    rcases hM A1 r1 with q | ⟨q, T, id, r, B, ty, go⟩
    · exact h1.none (bnd_none q)
    · refine ⟨T, id, r, B, ty, ?_⟩
      have h2 : Rest X.K cl E (rV X.K) σ Q (bnd (gb c env) fun y => f d1 y) ρ1 H1 st1 := h1.eq (bnd_inv q)
      refine (Rest.step (g := gb c) (rV X.K) A1 (e.grow A g1) h2).imp fun v2 H2 ⟨ρ2, st2, d2, g2, A2, r2, h3⟩ => ?_
      exact go A2 (r1.grow A1 g2) r2 h3
theorem me_mt0 {k : D → MI.R Unit} {f : D → MI.R D} (hM : Mt0 X cl E name k f) (ho : ME X cl E c o ga)
    (hbase : attributeBase o name X.env (eval o X.env) = eval o X.env := by rfl) (hline : (apos.endLine == cpos.line) = true := by rfl) :
    ME X cl E c (.Call (.Attribute o name apos) [] [] cpos) (eMt0 k f ga) :=
  peI (pe_bmU0 ho hbase hline) fun σ H Q h => by
    obtain ⟨ρ, env, st, A, e, h⟩ := h
    refine (Rest.step (g := ga c) (rV X.K) A e h).imp fun v1 H1 ⟨ρ1, st1, d1, g1, A1, r1, h1⟩ => ?_
    rcases hM A1 r1 with q | ⟨q, T, id, r, B, ty, go⟩
    · exact h1.none (bnd_none q)
    · exact ⟨T, id, r, B, ty, go (h1.eq (bnd_inv q))⟩
theorem isLst_ok {ρ : List Addr} {H : Hp} {st : Stt} {v : V} {d : D} (A : At X.K cl ρ H st) (r : Rv X.K H ρ v d) :
    isLst d st = none ∨ (isLst d st = some (.ok (), st) ∧ ∃ a n vs l, v = .ref a ∧ d = .loc n ∧ ρ[n]? = some a ∧ st[n]? = some (.lst l) ∧ H a = some (.lst vs) ∧ RvL X.K H ρ vs l ∧ TyOk X "list" v H) := by
  cases r with
  | @loc a n ha =>
    cases e1 : st[n]? with
    | none => exact .inl (by simp [isLst, e1])
    | some o =>
      have q1 := A.get ha e1
      cases q1 with
      | @lst vs l h1 r => exact .inr ⟨by simp [isLst, e1], a, n, vs, l, rfl, rfl, ha, e1, h1, r, .of (.inl ⟨rfl, vs, SqL.of h1⟩)⟩
      | _ => exact .inl (by simp [isLst, e1])
  | _ => exact .inl rfl
/-- the list behind the arguments -/
theorem lst_at {ρ : List Addr} {H : Hp} {st : Stt} {a : Addr} {n : Nat} (A : At X.K cl ρ H st) (r : Rv X.K H ρ (.ref a) (.loc n)) : ρ[n]? = some a ∧ ((∃ vs l, st[n]? = some (.lst l) ∧ H a = some (.lst vs) ∧ RvL X.K H ρ vs l) ∨ ∀ l, st[n]? ≠ some (.lst l)) := by
  cases r with
  | loc ha =>
    refine ⟨ha, ?_⟩
    cases e1 : st[n]? with
    | none => exact .inr fun l q => by cases q
    | some o =>
      have q1 := A.get ha e1
      cases q1 with
      | @lst vs l h1 r => exact .inl ⟨vs, l, rfl, h1, r⟩
      | _ => exact .inr fun l q => by cases q
theorem m_append : Mt1 X cl E "append" isLst mAppend := fun {ρ H st v d} A r => by
  rcases isLst_ok A r with q | ⟨q, a, n, vs, l, rfl, rfl, ha, e1, h1, rl, ty⟩
  · exact .inl q
  · refine .inr ⟨q, "list", "list.append", rAppend, ⟨PySem.F.plainAttrs_list, PySem.F.slot_list_append, PySem.F.type_list_append, mt_append⟩, ty, fun {σ Q ρ1 H1 st1 y z} A1 r1 r2 h => ?_⟩
    obtain ⟨ha, ⟨vs, l, e1, h1, rl⟩ | hn⟩ := lst_at A1 r1
    · by_cases hl : l.length < lim - 1
      · refine ⟨a, vs, y, rfl, rfl, h1, ?_, ?_⟩
        · rw [rl.length, sizeLine_eq]
          have : (lim : Nat) = 16777216 := rfl
          omega
        · obtain ⟨A2, g2⟩ := A1.put (o := .lst (vs ++ [y])) (ob := .lst (l ++ [z])) ha fun k => .lst upd_same (by
            have a1 := rl.keep k []
            have a2 := r2.keep k []
            simp only [List.append_nil] at a1 a2
            exact a1.append (.cons a2 .nil))
          exact h.ok (st' := st1.set n (.lst (l ++ [z]))) (d := .non) (by simp only [mAppend, e1, if_pos hl]) g2 A2 .non
      · exact h.none (by simp only [mAppend, e1, if_neg hl])
    · exact h.none (by
        cases e2 : st1[n]? with
        | none => simp [mAppend, e2]
        | some o => cases o <;> first | (simp [mAppend, e2]; done) | exact absurd e2 (hn _))
theorem lstD_ok {K : PySem.W.Frag} {cl : Nat → Addr} {ρ : List Addr} {H : Hp} {st : Stt} {v : V} {d : D} (A : At K cl ρ H st) (r : Rv K H ρ v d) : lstD d st = none ∨ ∃ a vs l, v = .ref a ∧ lstD d st = some l ∧ SqL K H a vs ∧ RvL K H ρ vs l := by
  cases r with
  | @loc a n ha =>
    cases e1 : st[n]? with
    | none => exact .inl (by simp [lstD, e1])
    | some o =>
      have q1 := A.get ha e1
      cases q1 with
      | @lst vs l h1 r => exact .inr ⟨a, vs, l, rfl, by simp [lstD, e1], SqL.of h1, r⟩
      | _ => exact .inl (by simp [lstD, e1])
  | @frz a vs l hs r => exact .inr ⟨a, vs, l, rfl, rfl, hs.seq, r⟩
  | _ => exact .inl rfl
theorem m_extend : Mt1 X cl E "extend" isLst mExtend := fun {ρ H st v d} A r => by
  rcases isLst_ok A r with q | ⟨q, a, n, vs, l, rfl, rfl, ha, e1, h1, rl, ty⟩
  · exact .inl q
  · refine .inr ⟨q, "list", "list.extend", rExtendS X.K, ⟨PySem.F.plainAttrs_list, PySem.F.slot_list_extend, PySem.F.type_list_extend, mt_extendS⟩, ty, fun {σ Q ρ1 H1 st1 y z} A1 r1 r2 h => ?_⟩
    obtain ⟨ha, ⟨vs, l, e1, h1, rl⟩ | hn⟩ := lst_at A1 r1
    · rcases lstD_ok A1 r2 with e2 | ⟨b, ws, l2, rfl, e2, h2, rl2⟩
      · exact h.none (by simp only [mExtend, e1, e2])
      · by_cases hl : l.length + l2.length < lim
        · refine ⟨a, b, vs, ws, rfl, rfl, h1, h2, by rw [rl.length, rl2.length]; exact lim_size hl, ?_⟩
          obtain ⟨A2, g2⟩ := A1.put (o := .lst (vs ++ ws)) (ob := .lst (l ++ l2)) ha fun k => .lst upd_same (by
            have a1 := rl.keep k []
            have a2 := rl2.keep k []
            simp only [List.append_nil] at a1 a2
            exact a1.append a2)
          exact h.ok (st' := st1.set n (.lst (l ++ l2))) (d := .non) (by simp only [mExtend, e1, e2, if_pos hl]) g2 A2 .non
        · exact h.none (by simp only [mExtend, e1, e2, if_neg hl])
    · exact h.none (by
        unfold mExtend
        cases e2 : st1[n]? with
        | none => simp [e2]
        | some o => cases o <;> first | (simp [e2]; done) | exact absurd e2 (hn _))
theorem m_count : Mt1 X cl E "count" isLst mCount := fun {ρ H st v d} A r => by
  rcases isLst_ok A r with q | ⟨q, a, n, vs, l, rfl, rfl, ha, e1, h1, rl, ty⟩
  · exact .inl q
  · refine .inr ⟨q, "list", "list.count", rCntI X.K, ⟨PySem.F.plainAttrs_list, PySem.F.slot_list_count, PySem.F.type_list_count, mt_lcount⟩, ty, fun {σ Q ρ1 H1 st1 y z} A1 r1 r2 h => ?_⟩
    obtain ⟨ha, ⟨vs, l, e1, h1, rl⟩ | hn⟩ := lst_at A1 r1
    · cases qi : ints? l with
      | none => exact h.none (by simp [mCount, e1, qi])
      | some ns =>
        cases r2 with
        | int i =>
          have ev := ints_of qi rl
          subst ev
          exact ⟨a, ns, i, rfl, rfl, SqL.of h1, h.ok (st' := st1) (d := .int (ns.count i)) (by simp [mCount, e1, qi]) .refl A1 (.int _)⟩
        | _ => exact h.none (by simp [mCount, e1, qi])
    · exact h.none (by
        cases e2 : st1[n]? with
        | none => simp [mCount, e2]
        | some o => cases o <;> first | (simp [mCount, e2]; done) | exact absurd e2 (hn _))
theorem m_pop : Mt0 X cl E "pop" isLst mPop := fun {ρ H st v d} A r => by
  rcases isLst_ok A r with q | ⟨q, a, n, vs, l, rfl, rfl, ha, e1, h1, rl, ty⟩
  · exact .inl q
  · refine .inr ⟨q, "list", "list.pop", rPop, ⟨PySem.F.plainAttrs_list, PySem.F.slot_list_pop, PySem.F.type_list_pop, mt_pop⟩, ty, fun {σ Q} h => ?_⟩
    cases ql : l.getLast? with
    | none => exact h.none (by simp [mPop, e1, ql])
    | some x =>
      have hx : l[l.length - 1]? = some x := by rw [← ql, List.getLast?_eq_getElem?]
      obtain ⟨y, hy, ry⟩ := rl.get hx
      refine ⟨a, vs, y, rfl, rfl, h1, by rw [rl.length]; exact hy, ?_⟩
      obtain ⟨A2, g2⟩ := A.put (o := .lst vs.dropLast) (ob := .lst l.dropLast) ha fun k => .lst upd_same (by
        have gen : ∀ {H' : Hp}, RvL X.K H' ρ vs l → RvL X.K H' ρ vs.dropLast l.dropLast := fun r => by
          rw [List.dropLast_eq_take, List.dropLast_eq_take, r.length]
          exact r.take _
        have a1 := rl.keep k []
        simp only [List.append_nil] at a1
        exact gen a1)
      exact h.ok (st' := st.set n (.lst l.dropLast)) (d := x) (by simp [mPop, e1, ql]) g2 A2 (ry.grow A g2)
theorem m_index (hu : X.A.units + 65 < cLine) : Mt1 X cl E "index" isIxd mIndex := fun {ρ H st v d} A r => by
  cases r with
  | @xtup a vs l hs rl =>
    refine .inr ⟨rfl, "tuple", "tuple.index", _, ⟨PySem.F.plainAttrs_tuple, PySem.F.slot_tuple_index, PySem.F.type_tuple_index, mt_tindexD hu⟩, .xt hs, fun {σ Q ρ1 H1 st1 y z} A1 r1 r2 h => ?_⟩
    cases r1 with
    | xtup hs rl =>
      by_cases ho : (D.ok deep z && D.okL deep l) = true
      · obtain ⟨o1, o2⟩ := Bool.and_eq_true_iff.mp ho
        cases qf : l.findIdx? fun w => D.eqv w z with
        | none => exact h.none (by simp only [mIndex, if_pos ho, qf])
        | some j =>
          exact ⟨a, y, toPy z, toPys l, j, rfl, rfl, .tup hs.seq (dpL_of _ _ _ o2 rl), dp_of _ _ _ o1 r2, shapedT_of o2 (by decide), shaped_of o1 (by decide), by rw [find_of o2 o1]; exact qf,
            h.ok (st' := st1) (d := .int j) (by simp only [mIndex, if_pos ho, qf]) .refl A1 (.int _)⟩
      · exact h.none (by simp only [mIndex, if_neg ho])
  | @loc a n ha =>
    cases e1 : st[n]? with
    | none => exact .inl (by simp [isIxd, e1])
    | some o =>
      have q1 := A.get ha e1
      cases q1 with
      | @lst vs l h1 rl =>
        refine .inr ⟨by simp [isIxd, e1], "list", "list.index", rIndexD X.K, ⟨PySem.F.plainAttrs_list, PySem.F.slot_list_index, PySem.F.type_list_index, mt_indexD hu⟩, .of (.inl ⟨rfl, vs, SqL.of h1⟩), fun {σ Q ρ1 H1 st1 y z} A1 r1 r2 h => ?_⟩
        obtain ⟨ha, ⟨vs, l, e1, h1, rl⟩ | hn⟩ := lst_at A1 r1
        · by_cases ho : (D.ok deep z && D.okL deep l) = true
          · obtain ⟨o1, o2⟩ := Bool.and_eq_true_iff.mp ho
            cases qf : l.findIdx? fun w => D.eqv w z with
            | none => exact h.none (by simp only [mIndex, e1, if_pos ho, qf])
            | some j =>
              have qf' := find_of o2 o1
              rw [qf] at qf'
              obtain ⟨hjl, hjt, hjn⟩ := List.findIdx?_eq_some_iff_getElem.mp qf'
              refine ⟨a, y, toPy z, toPys l, j, (toPys l)[j], rfl, rfl, .lst (SqL.of h1) (dpL_of _ _ _ o2 rl), dp_of _ _ _ o1 r2, shapedL_of o2 (by decide), shaped_of o1 (by decide), List.getElem?_eq_getElem hjl, hjt, fun m z' hm hz' => ?_, ?_⟩
              · obtain ⟨hml, hme⟩ := List.getElem?_eq_some_iff.mp hz'
                have := hjn m hm
                rw [hme] at this
                simpa using this
              · exact h.ok (st' := st1) (d := .int j) (by simp only [mIndex, e1, if_pos ho, qf]) .refl A1 (.int _)
          · exact h.none (by simp only [mIndex, e1, if_neg ho])
        · exact h.none (by
            cases e2 : st1[n]? with
            | none => simp [mIndex, e2]
            | some o => cases o <;> first | (simp [mIndex, e2]; done) | exact absurd e2 (hn _))
      | _ => exact .inl (by simp [isIxd, e1])
  | _ => exact .inl rfl
end
end MS

set_option Elab.async false
set_option linter.all false
set_option maxRecDepth 100000
set_option maxHeartbeats 4000000
/-! MSR4: rules of our own: tuple += tuple, a list's item by values. -/
namespace MS
open PySem PySem.Spec PyProof.Rows L2 HT

theorem noI_tuple_add' : typeLookup (.type "tuple") (dunderI "add") = pure none := by rw [typeLookup_type, builtinLookup_eq_fast]; kernel_rfl
section
variable {prog : Program} {w : World} {A : Around} {E : Value → Shared → Prop} {s : Shared}
theorem iconcat_meetsM {T id : String} {B : Builtin} {a b : Value} {S : PySem.Spec} {Q : Value → Shared → Prop} (ha : s.TypeIs a T) (hb : s.TypeIs b T) (hno : typeLookup (.type T) (dunderI "add") = pure none)
    (hfill : fillsNumberSlot (.type T) "add" = pure false) (hseq : seqSlot? (.type T) "__add__" = pure (some (.builtin id))) (slot : Slot T "__add__" id)
    (entry : entryFor table id = some B) (args : argsOk id ⟨[a, b], []⟩) (g : Meets (B ⟨[a, b], []⟩) S) (h : S A (wants Q E) s) : wpAny (model prog w) A (inplaceOp .Add a b) Q E s :=
  wpAny_inplaceOp_concat ha hb hno hfill hseq (call_meets slot ha entry args g h)
theorem icat_tup0 {t b : Addr} {ws : List Value} {Q : Value → Shared → Prop} (ht : IsTup s.heap t ([] : List Value).toArray) (hb : IsTup s.heap b ws.toArray) (h : Q (.ref b) s) : wpAny (model prog w) A (inplaceOp .Add (.ref t) (.ref b)) Q E s := by
  obtain ⟨⟨cls, dd, data, sl⟩, ho, hc, n, hd⟩ := id ht
  obtain ⟨⟨cls2, dd2, data2, sl2⟩, ho2, hc2, n2, hd2⟩ := id hb
  simp only at hc hd hc2 hd2
  subst hc hd hc2 hd2
  exact iconcat_meetsM ⟨_, ho, rfl⟩ ⟨_, ho2, rfl⟩ noI_tuple_add' noFill_tuple_add seq_tuple_add PySem.F.slot_tuple_add PySem.F.entry_tuple_add (PySem.F.args_tuple_add_2 _ _)
    (tuple_addW0 t b ([] : List Value).toArray ws.toArray n n2 dd dd2 sl sl2 (by simp)) ⟨ho, ho2, h⟩
theorem icat_tup {t b : Addr} {vs ws : List Value} {Q : Value → Shared → Prop} (ht : IsTup s.heap t vs.toArray) (hb : IsTup s.heap b ws.toArray) (hv : vs ≠ [])
    (h1 : ws = [] → Q (.ref t) s) (h2 : ws ≠ [] → Q (.ref s.heap.objs.size) { s with heap := s.heap.push { cls := .type "tuple", data := .seq (vs ++ ws).toArray } })
    (hsz : vs.length + ws.length ≤ sizeLine) : wpAny (model prog w) A (inplaceOp .Add (.ref t) (.ref b)) Q E s := by
  obtain ⟨⟨cls, dd, data, sl⟩, ho, hc, n, hd⟩ := id ht
  obtain ⟨⟨cls2, dd2, data2, sl2⟩, ho2, hc2, n2, hd2⟩ := id hb
  simp only at hc hd hc2 hd2
  subst hc hd hc2 hd2
  have e : vs.toArray ++ ws.toArray = (vs ++ ws).toArray := by simp
  by_cases hw : ws = []
  · exact iconcat_meetsM ⟨_, ho, rfl⟩ ⟨_, ho2, rfl⟩ noI_tuple_add' noFill_tuple_add seq_tuple_add PySem.F.slot_tuple_add PySem.F.entry_tuple_add (PySem.F.args_tuple_add_2 _ _)
      (tuple_addW1 t b vs.toArray ws.toArray n n2 dd dd2 sl sl2 (by simpa using hv) (by simp [hw])) ⟨ho, ho2, h1 hw⟩
  · refine iconcat_meetsM ⟨_, ho, rfl⟩ ⟨_, ho2, rfl⟩ noI_tuple_add' noFill_tuple_add seq_tuple_add PySem.F.slot_tuple_add PySem.F.entry_tuple_add (PySem.F.args_tuple_add_2 _ _)
      (tuple_addW2 t b vs.toArray ws.toArray n n2 dd dd2 sl sl2 (by simpa using hv) (by simpa using hw) (by rw [List.size_toArray, List.size_toArray]; exact hsz)) ⟨ho, ho2, ?_⟩
    rw [e]
    exact h2 hw
end
theorem OpR.orI {X : Cx} {f : Value → Value → Sem Value} {r r' : R2} (h : OpR X f r) (h' : OpR X f r') : OpR X f (fun x y H Q => r x y H Q ∨ r' x y H Q) := by
  intro pins s σ H x y v u Q I rx ry q
  rcases q with q | q
  · exact h pins s σ H x y v u Q I rx ry q
  · exact h' pins s σ H x y v u Q I rx ry q
theorem iop_catA {X : Cx} : OpR X (inplaceOp .Add) (rCatA X.K) := by
  intro pins s σ H x y v u Q I rx ry h
  obtain ⟨a, b, xs, ys, rfl, rfl, ha, hb, hz, q0, q1, q2⟩ := h
  by_cases hx : xs = []
  · subst hx
    cases rx
    cases ry
    obtain ⟨its, r1, p1, _⟩ := I.tuple ha
    obtain ⟨its2, r2, p2, _⟩ := I.tuple hb
    cases r1
    exact icat_tup0 p1 p2 ⟨.ref b, H, I, rfl, q0 rfl⟩
  · cases rx
    cases ry
    obtain ⟨its, r1, p1, _⟩ := I.tuple ha
    obtain ⟨its2, r2, p2, _⟩ := I.tuple hb
    refine icat_tup p1 p2 (fun z => hx (r1.nil_iff.mp z)) (fun z => ⟨.ref a, H, I, rfl, q1 hx (r2.nil_iff.mp z)⟩) (fun z => ?_) (by rw [← r1.length, ← r2.length]; exact hz)
    refine ⟨.ref s.heap.objs.size, _, I.laid (t' := s.toks) (o := .tup (xs ++ ys)) (fun b ob q => Heap.get?_push_of_some _ q) (Nat.le_refl _) ?_, rfl, q2 hx (fun w => z (r2.nil_iff.mpr w)) _ (I.hok.fresh (Nat.le_refl _))⟩
    exact ⟨by rw [List.length_append]; exact hz, _, r1.append r2, IsTup.new _ _⟩
theorem pget_list {X : Cx} : PGet X (rIxL X.K) := by
  intro pins s σ H x y v u Q I rx ry h
  obtain ⟨p, xs, i, z, rfl, rfl, hq, he, q⟩ := h
  cases rx
  obtain ⟨t, rfl⟩ := ry
  obtain ⟨its, r, pl, hz⟩ := I.list hq
  obtain ⟨j, h1, h2, h3, h4, h5⟩ := atI_get he
  obtain ⟨w, ew, rw'⟩ := r.get h2
  have hl := r.length
  have hn := line63
  have fin : EP X pins σ Q w s := ⟨z, H, I, rw', q⟩
  by_cases h0 : 0 ≤ i
  · have hj : i.toNat = j := by
      rw [seqIndex_of h0 h5] at h1
      exact Option.some.inj h1
    exact wpAny_getItem_list pl.isList h0 (by omega) (by rw [hj]; simpa using ew) fin
  · have hj : (i + (its.toArray.size : Int)).toNat = j := by
      rw [seqIndex_neg (by omega) h4] at h1
      rw [List.size_toArray, ← hl]
      exact Option.some.inj h1
    exact wpAny_getItem_list_neg pl.isList (by omega) (by rw [List.size_toArray] <;> omega) (by omega) (by rw [hj]; simpa using ew) fin
end MS

set_option Elab.async false
set_option linter.all false
set_option maxRecDepth 100000
set_option maxHeartbeats 4000000
/-! MS9: statements. -/
namespace MS
open PySem PySem.Spec PyProof.Rows L2 MI

section
variable (K : PySem.W.Frag) (cl : Nat → Addr) (E : EX)
/-- what a statement came to is enough for D -/
def RestS (D : Ends) (r : Option (Fl × MI.Env × Stt)) (ρ : List Addr) (H : Hp) : Prop := match r with
  | none => False
  | some (.nx, env', st') => ∀ ρ' H' σ', Grow ρ H ρ' H' → At K cl ρ' H' st' → RvE K H' ρ' σ' env' → D.nx σ' H'
  | some (.bk, env', st') => ∀ ρ' H' σ', Grow ρ H ρ' H' → At K cl ρ' H' st' → RvE K H' ρ' σ' env' → D.bk σ' H'
  | some (.ct, env', st') => ∀ ρ' H' σ', Grow ρ H ρ' H' → At K cl ρ' H' st' → RvE K H' ρ' σ' env' → D.ct σ' H'
  | some (.rt d, _, st') => ∀ ρ' H' v, Grow ρ H ρ' H' → At K cl ρ' H' st' → Rv K H' ρ' v d → D.rt v H'
  | some (.ex c fs, env', st') => ∀ ρ' H' σ', Grow ρ H ρ' H' → At K cl ρ' H' st' → RvE K H' ρ' σ' env' → E c fs σ' ρ' H' st'
def TSm (g : MI.Env → Stt → Option (Fl × MI.Env × Stt)) : TS := fun D σ H => ∃ ρ env st, At K cl ρ H st ∧ RvE K H ρ σ env ∧ RestS K cl E D (g env st) ρ H
/-- a target -/
def RestG (Q : L2.St → Hp → Prop) (r : Option (MI.Env × Stt)) (ρ : List Addr) (H : Hp) : Prop := match r with
  | none => False
  | some (env', st') => ∀ ρ' H' σ', Grow ρ H ρ' H' → At K cl ρ' H' st' → RvE K H' ρ' σ' env' → Q σ' H'
def TGm (g : D → MI.Env → Stt → Option (MI.Env × Stt)) : TG := fun v σ H Q => ∃ ρ env st d, At K cl ρ H st ∧ RvE K H ρ σ env ∧ Rv K H ρ v d ∧ RestG K cl Q (g d env st) ρ H
def TGsm (g : List D → MI.Env → Stt → Option (MI.Env × Stt)) : TGs := fun vs σ H Q => ∃ ρ env st ds, At K cl ρ H st ∧ RvE K H ρ σ env ∧ RvL K H ρ vs ds ∧ RestG K cl Q (g ds env st) ρ H
end
section
variable {K : PySem.W.Frag} {cl : Nat → Addr} {E : EX} {α β : Type} {σ : L2.St} {H H1 : Hp} {ρ ρ1 : List Addr} {st : Stt} {env : MI.Env} {D : Ends}
theorem RestS.base {r : Option (Fl × MI.Env × Stt)} (h : RestS K cl E D r ρ H) (g : Grow ρ H ρ1 H1) : RestS K cl E D r ρ1 H1 := by
  match r, h with
  | some (.nx, env', st'), h => exact fun ρ' H' σ' g' A e => h ρ' H' σ' (g.trans g') A e
  | some (.bk, env', st'), h => exact fun ρ' H' σ' g' A e => h ρ' H' σ' (g.trans g') A e
  | some (.ct, env', st'), h => exact fun ρ' H' σ' g' A e => h ρ' H' σ' (g.trans g') A e
  | some (.rt d, env', st'), h => exact fun ρ' H' σ' g' A e => h ρ' H' σ' (g.trans g') A e
  | some (.ex k fs, env', st'), h => exact fun ρ' H' σ' g' A e => h ρ' H' σ' (g.trans g') A e
theorem RestG.base {Q : L2.St → Hp → Prop} {r : Option (MI.Env × Stt)} (h : RestG K cl Q r ρ H) (g : Grow ρ H ρ1 H1) : RestG K cl Q r ρ1 H1 := by
  match r, h with
  | some (env', st'), h => exact fun ρ' H' σ' g' A e => h ρ' H' σ' (g.trans g') A e
theorem RestS.rest {m : MI.R α} {f : α → Stt → Option (Fl × MI.Env × Stt)} (rel : Hp → List Addr → β → α → Prop) (A : At K cl ρ H st) (e : RvE K H ρ σ env) (h : RestS K cl E D (sBnd m env f st) ρ H) :
    Rest K cl E rel σ (fun v1 H1 => ∃ ρ1 st1 d1, Grow ρ H ρ1 H1 ∧ At K cl ρ1 H1 st1 ∧ rel H1 ρ1 v1 d1 ∧ RestS K cl E D (f d1 st1) ρ1 H1) m ρ H st := by
  unfold sBnd at h
  cases q : m st with
  | none => rw [q] at h; exact h.elim
  | some p =>
    obtain ⟨rs, st1⟩ := p
    rw [q] at h
    cases rs with
    | ok d => exact .inl ⟨d, st1, q, fun ρ1 H1 v1 g1 A1 r1 => ⟨ρ1, st1, d, g1, A1, r1, h.base g1⟩⟩
    | exc k fs => exact .inr ⟨k, fs, st1, q, fun ρ1 H1 g1 A1 => h ρ1 H1 σ g1 A1 (e.grow A g1)⟩
theorem RestS.step {x : MI.Env → MI.R α} {f : α → Stt → Option (Fl × MI.Env × Stt)} (rel : Hp → List Addr → β → α → Prop) (A : At K cl ρ H st) (e : RvE K H ρ σ env) (h : RestS K cl E D (sBnd (x env) env f st) ρ H) :
    TM K cl E rel x σ H (fun v1 H1 => ∃ ρ1 st1 d1, Grow ρ H ρ1 H1 ∧ At K cl ρ1 H1 st1 ∧ rel H1 ρ1 v1 d1 ∧ RestS K cl E D (f d1 st1) ρ1 H1) := ⟨ρ, env, st, A, e, h.rest rel A e⟩
theorem RestG.step {Q : L2.St → Hp → Prop} {x : MI.Env → MI.R α} {f : α → Stt → Option (MI.Env × Stt)} (rel : Hp → List Addr → β → α → Prop) (A : At K cl ρ H st) (e : RvE K H ρ σ env) (h : RestG K cl Q (gBnd (x env) f st) ρ H) :
    TM K cl E rel x σ H (fun v1 H1 => ∃ ρ1 st1 d1, Grow ρ H ρ1 H1 ∧ At K cl ρ1 H1 st1 ∧ rel H1 ρ1 v1 d1 ∧ RestG K cl Q (f d1 st1) ρ1 H1) := by
  refine ⟨ρ, env, st, A, e, ?_⟩
  unfold gBnd at h
  cases q : x env st with
  | none => rw [q] at h; exact h.elim
  | some p =>
    obtain ⟨rs, st1⟩ := p
    rw [q] at h
    cases rs with
    | ok d => exact .inl ⟨d, st1, q, fun ρ1 H1 v1 g1 A1 r1 => ⟨ρ1, st1, d, g1, A1, r1, h.base g1⟩⟩
    | exc k fs => exact h.elim
end
theorem psI {X : Cx} {s : Stmt} {t t' : TS} (h : PS X s t) (i : ∀ D σ H, t' D σ H → t D σ H) : PS X s t' := ⟨fun pins s σ H D I q => h.run pins s σ H D I (i D σ H q)⟩
theorem pssI {X : Cx} {s : List Stmt} {t t' : TS} (h : PSs X s t) (i : ∀ D σ H, t' D σ H → t D σ H) : PSs X s t' := ⟨fun pins s σ H D I q => h.run pins s σ H D I (i D σ H q)⟩
theorem pgI {X : Cx} {e : Expr} {t t' : TG} (h : PG X e t) (i : ∀ v σ H Q, t' v σ H Q → t v σ H Q) : PG X e t' := ⟨fun pins s σ H v u Q I r q => h.run pins s σ H v u Q I r (i v σ H Q q)⟩
theorem pgsI {X : Cx} {e : List Expr} {t t' : TGs} (h : PGs X e t) (i : ∀ v σ H Q, t' v σ H Q → t v σ H Q) : PGs X e t' := ⟨fun pins s σ H v u Q I r q => h.run pins s σ H v u Q I r (i v σ H Q q)⟩
section
variable (X : Cx) (cl : Nat → Addr) (E : EX) (c : MI.Ctx)
abbrev MST (s : Stmt) (g : SS) : Prop := PS X s (TSm X.K cl E (g c))
abbrev MSS (s : List Stmt) (g : SS) : Prop := PSs X s (TSm X.K cl E (g c))
abbrev MG (e : Expr) (g : SG) : Prop := PG X e (TGm X.K cl (g c))
abbrev MGs (e : List Expr) (g : SGs) : Prop := PGs X e (TGsm X.K cl (g c))
end

section
variable {X : Cx} {cl : Nat → Addr} {E : EX} {c : MI.Ctx} {a b e : Expr} {ga gb ge : SE} {pos : Pos} {s : Stmt} {ss : List Stmt} {gs gr : SS} {t : MI.ST}
/-! ### blocks, small statements -/
theorem mss_nil : MSS X cl E c [] sPass := pssI pss_nil fun D σ H ⟨ρ, env, st, A, e, h⟩ => h ρ H σ .refl A e
theorem mss_one (h : MST X cl E c s gs) : MSS X cl E c [s] gs := pss_one h
theorem mss_cons (h : MST X cl E c s gs) (hr : MSS X cl E c ss gr) : MSS X cl E c (s :: ss) (sSeq gs gr) := pssI (pss_cons h hr) fun D σ H ⟨ρ, env, st, A, e, h⟩ => by
  refine ⟨ρ, env, st, A, e, ?_⟩
  unfold sSeq at h
  match q : gs c env st, h with
  | some (.nx, env', st'), h => exact fun ρ' H' σ' g' A' e' => ⟨ρ', env', st', A', e', RestS.base h g'⟩
  | some (.bk, env', st'), h => exact h
  | some (.ct, env', st'), h => exact h
  | some (.rt d, env', st'), h => exact h
  | some (.ex k fs, env', st'), h => exact h
theorem ms_pass : MST X cl E c (.Pass pos) sPass := psI ps_pass fun D σ H ⟨ρ, env, st, A, e, h⟩ => h ρ H σ .refl A e
theorem ms_doc {x j pos'} : MST X cl E c (.Expr (.Constant (.str x) j pos) pos') sPass := psI ps_doc fun D σ H ⟨ρ, env, st, A, e, h⟩ => h ρ H σ .refl A e
theorem ms_brk : MST X cl E c (.Break pos) sBrk := psI ps_break fun D σ H ⟨ρ, env, st, A, e, h⟩ => h ρ H σ .refl A e
theorem ms_cont : MST X cl E c (.Continue pos) sCont := psI ps_continue fun D σ H ⟨ρ, env, st, A, e, h⟩ => h ρ H σ .refl A e
theorem ms_expr (he : ME X cl E c e ge) (hs : swapsWith e none pos.line X.env = pure false := by rfl) : MST X cl E c (.Expr e pos) (sExpr ge) := psI (ps_expr he hs) fun D σ H ⟨ρ, env, st, A, e, h⟩ =>
  (RestS.step (x := ge c) (rV X.K) A e h).imp fun v1 H1 ⟨ρ1, st1, d1, g1, A1, r1, h1⟩ => h1 ρ1 H1 σ .refl A1 (e.grow A g1)
theorem ms_ret (he : ME X cl E c e ge) : MST X cl E c (.Return (some e) pos) (sRet ge) := psI (ps_ret he) fun D σ H ⟨ρ, env, st, A, e, h⟩ =>
  (RestS.step (x := ge c) (rV X.K) A e h).imp fun v1 H1 ⟨ρ1, st1, d1, g1, A1, r1, h1⟩ => h1 ρ1 H1 v1 .refl A1 r1
theorem ms_retN : MST X cl E c (.Return none pos) sRetN := psI ps_retN fun D σ H ⟨ρ, env, st, A, e, h⟩ => h ρ H .non .refl A .non
theorem ms_if {a b : List Stmt} {gA gB : SS} (ht : MT X cl E c e t) (ha : MSS X cl E c a gA) (hb : MSS X cl E c b gB) : MST X cl E c (.If e a b pos) (sIf t gA gB) := psI (ps_if ht ha hb) fun D σ H ⟨ρ, env, st, A, e, h⟩ =>
  (RestS.step (x := t c) rB A e h).imp fun v1 H1 ⟨ρ1, st1, d1, g1, A1, r1, h1⟩ => by
    have r1' : v1 = d1 := r1
    subst r1'
    cases v1 with
    | true => exact iteT ⟨ρ1, env, st1, A1, e.grow A g1, h1⟩
    | false => exact iteF ⟨ρ1, env, st1, A1, e.grow A g1, h1⟩

/-! ### targets -/
theorem mg_name {i : Nat} {x : Str} (hN : X.N.Nodup) (hi : X.N[i]? = some x := by rfl) (hx : Loc X.env.scope x := by first | exact Or.inl rfl | exact Or.inr rfl) (hf : X.fn x = true ∨ X.env.scope.names.lookup x = some .local := by first | exact .inl rfl | exact .inr rfl | assumption) : MG X cl c (.Name x pos) (gVar i) :=
  pgI (pg_name hN hi hx hf) fun v σ H Q ⟨ρ, env, st, d, A, e, r, h⟩ => by
    unfold gVar at h
    by_cases hl : i < env.length
    · rw [if_pos hl] at h
      exact h ρ H _ .refl A (RvE.set r i e)
    · rw [if_neg hl] at h; exact h.elim
variable {es : List Expr} {g : SG} {gg : SGs}
theorem mgs_nil : MGs X cl c [] MI.gNil := pgsI pgs_nil fun vs σ H Q ⟨ρ, env, st, ds, A, e, r, h⟩ => by
  cases r with
  | nil => exact ⟨rfl, h ρ H σ .refl A e⟩
  | cons _ _ => exact h.elim
theorem mgs_cons (h1 : MG X cl c e g) (h2 : MGs X cl c es gg) (hs : (assignEach (e :: es) X.env).map (·.2) = assign e X.env :: (assignEach es X.env).map (·.2) := by rfl) : MGs X cl c (e :: es) (MI.gCons g gg) :=
  pgsI (pgs_cons h1 h2 hs) fun vs σ H Q ⟨ρ, env, st, ds, A, e, r, h⟩ => by
    cases r with
    | nil => exact h.elim
    | @cons v vs d ds r rr =>
      refine ⟨v, vs, rfl, ρ, env, st, d, A, e, r, ?_⟩
      match q : g c d env st, h with
      | none, h => simp only [MI.gCons, q] at h; exact h.elim
      | some (env', st'), h =>
        simp only [MI.gCons, q] at h
        exact fun ρ' H' σ' g' A' e' => ⟨ρ', env', st', ds, A', e', rr.grow A g', RestG.base h g'⟩
theorem mg_tup {k n : Nat} (hc : X.calm = true) (h : MGs X cl c es gg) (hn : (assignEach es X.env).length = n := by rfl) (hst : (assignEach es X.env).findIdx? (·.1) = none := by rfl) : MG X cl c (.Tuple es k pos) (MI.gTup n gg) :=
  pgI (pg_tup hc h hn hst) fun v σ H Q ⟨ρ, env, st, d, A, e, r, h⟩ => by
    cases r with
    | @tup a vs l hs r =>
      unfold MI.gTup at h
      by_cases hl : l.length = n
      · simp only [hl, if_true] at h
        exact ⟨a, vs, rfl, hs, by rw [r.length]; exact hl, ρ, env, st, l, A, e, r, h⟩
      · simp only [hl, if_false] at h; exact h.elim
    | _ => exact h.elim
/-- what a store into a list does -/
theorem setIx_at {K : PySem.W.Frag} {ρ : List Addr} {H : Hp} {st st' : Stt} {n : Nat} {k : Int} {v : V} {d : D} {p : Addr} (A : At K cl ρ H st) (hp : ρ[n]? = some p) (r : Rv K H ρ v d) (h : setIx n k d st = some st') :
    ∃ xs j, H p = some (.lst xs) ∧ L2.ixN xs.length k = some j ∧ At K cl ρ (upd H p (.lst (xs.set j v))) st' ∧ Grow ρ H ρ (upd H p (.lst (xs.set j v))) := by
  unfold setIx at h
  cases e1 : st[n]? with
  | none => rw [e1] at h; cases h
  | some o =>
    rw [e1] at h
    have q1 := A.get hp e1
    cases q1 with
    | @lst vs l h1 rl =>
      cases q : MI.ixN l.length k with
      | none => simp only [q] at h; cases h
      | some j =>
        simp only [q] at h
        cases h
        obtain ⟨A', g⟩ := A.put (n := n) (o := .lst (vs.set j v)) (ob := .lst (l.set j d)) hp (fun kk => .lst upd_same (by
          have := RvL.set (r.keep kk []) j (rl.keep kk [])
          simpa using this))
        exact ⟨vs, j, h1, by rw [rl.length, ← ixN_same]; exact q, A', g⟩
    | _ => cases h
theorem mg_sub (ha : ME X cl (fun _ _ _ _ _ _ => False) c a ga) (hb : ME X cl (fun _ _ _ _ _ _ => False) c b gb)
    (hq : ∀ v, assign (.Subscript a b pos) X.env v = (do
      let ov ← holding [v] (eval a X.env)
      let iv ← holding [v, ov] (eval b X.env)
      standAt pos
      holding [v, ov, iv] (setItem ov iv v)
      release [v, ov, iv] []) := by intro _; rfl) : MG X cl c (.Subscript a b pos) (MI.gSub ga gb) :=
  pgI (pg_sub ha hb set_list hq) fun v σ H Q ⟨ρ, env, st, d, A, e, r, h⟩ => by
    refine (RestG.step (x := ga c) (rV X.K) A e h).imp fun v1 H1 ⟨ρ1, st1, d1, g1, A1, r1, h1⟩ => ?_
    refine (RestG.step (x := gb c) (rV X.K) A1 (e.grow A g1) h1).imp fun v2 H2 ⟨ρ2, st2, d2, g2, A2, r2, h2⟩ => ?_
    have r1' := r1.grow A1 g2
    cases r1' with
    | @loc p n hp =>
      cases r2 with
      | int k =>
        unfold putIx at h2
        cases q : setIx n k d st2 with
        | none => simp only [q] at h2; exact h2.elim
        | some st3 =>
          simp only [q] at h2
          obtain ⟨xs, j, q1, q2, A3, g3⟩ := setIx_at A2 hp (r.grow A (g1.trans g2)) q
          exact ⟨p, xs, k, j, rfl, rfl, q1, q2, h2 _ _ σ g3 A3 (e.grow A ((g1.trans g2).trans g3))⟩
      | _ => exact h2.elim
    | _ => exact h2.elim

/-! ### stores -/
theorem ms_asg (he : ME X cl E c e ge) (hg : MG X cl c a g) (hs : swapsWithSole [a] e pos.line X.env = pure false := by rfl) (hw : swappedStores [a] e X.env = pure none := by rfl)
    (h1 : (assignEach [a] X.env).map (·.2) = [assign a X.env] := by rfl) : MST X cl E c (.Assign [a] e pos) (sAsg g ge) := psI (ps_asg he hg hs hw h1) fun D σ H ⟨ρ, env, st, A, e, h⟩ =>
  (RestS.step (x := ge c) (rV X.K) A e h).imp fun v1 H1 ⟨ρ1, st1, d1, g1, A1, r1, h1⟩ => by
    refine ⟨ρ1, env, st1, d1, A1, e.grow A g1, r1, ?_⟩
    match q : g c d1 env st1, h1 with
    | none, h1 => simp only [q] at h1; exact h1.elim
    | some (env', st'), h1 => simp only [q] at h1; exact h1
theorem ms_set {i : Nat} {x : Str} {pos' : Pos} (hN : X.N.Nodup) (he : ME X cl E c e ge) (hi : X.N[i]? = some x := by rfl) (hx : Loc X.env.scope x := by first | exact Or.inl rfl | exact Or.inr rfl) (hs : swapsWith e (some (.Name x pos')) pos.line X.env = pure false := by rfl)
    (hf : X.fn x = true ∨ X.env.scope.names.lookup x = some .local := by first | exact .inl rfl | exact .inr rfl | assumption) : MST X cl E c (.Assign [.Name x pos'] e pos) (sSet i ge) := psI (ps_set hN hi hx he hs hf) fun D σ H ⟨ρ, env, st, A, e, h⟩ =>
  (RestS.step (x := ge c) (rV X.K) A e h).imp fun v1 H1 ⟨ρ1, st1, d1, g1, A1, r1, h1⟩ => by
    by_cases hl : i < env.length
    · rw [if_pos hl] at h1
      exact h1 ρ1 H1 _ .refl A1 (RvE.set r1 i (e.grow A g1))
    · rw [if_neg hl] at h1; exact h1.elim
theorem ms_par {i j : Nat} {x y : Str} {gl : SL} {px py pt : Pos} {kt k2 pt2} (hc : X.calm = true) (hN : X.N.Nodup) (ha : MA X cl E c [a, b] gl)
    (hw : swappedStores [.Tuple [.Name x px, .Name y py] kt pt] (.Tuple [a, b] k2 pt2) X.env = pure (some [x, y])) (hi : X.N[i]? = some x := by rfl) (hj : X.N[j]? = some y := by rfl) (hij : i ≠ j := by decide)
    (hx : X.env.scope.names.lookup x = some .local := by rfl) (hy : X.env.scope.names.lookup y = some .local := by rfl)
    (hs : swapsWithSole [.Tuple [.Name x px, .Name y py] kt pt] (.Tuple [a, b] k2 pt2) pos.line X.env = pure false := by rfl) :
    MST X cl E c (.Assign [.Tuple [.Name x px, .Name y py] kt pt] (.Tuple [a, b] k2 pt2) pos) (sPar i j gl) := psI (ps_par hc hN hi hj hij hx hy ha hw hs) fun D σ H ⟨ρ, env, st, A, e, h⟩ =>
  (RestS.step (x := gl c) (rL X.K) A e h).imp fun v1 H1 ⟨ρ1, st1, d1, g1, A1, r1, h1⟩ => by
    cases r1 with
    | nil => exact h1.elim
    | @cons v vs d ds ra rr =>
      cases rr with
      | nil => exact h1.elim
      | @cons w ws d' ds' rb rr =>
        cases rr with
        | cons _ _ => exact h1.elim
        | nil =>
          refine ⟨v, w, rfl, ?_⟩
          by_cases hl : i < env.length ∧ j < env.length
          · have h2 : RestS X.K cl E D (if i < env.length ∧ j < env.length then some (.nx, (env.set i (some d)).set j (some d'), st1) else none) ρ1 H1 := h1
            rw [if_pos hl] at h2
            exact h2 ρ1 H1 _ .refl A1 (RvE.set rb j (RvE.set ra i (e.grow A g1)))
          · have h2 : RestS X.K cl E D (if i < env.length ∧ j < env.length then some (.nx, (env.set i (some d)).set j (some d'), st1) else none) ρ1 H1 := h1
            rw [if_neg hl] at h2; exact h2.elim
theorem ms_aug {i : Nat} {x : Str} {op : Operator} {f : D → D → MI.R D} {r : R2} {pos' : Pos} (hN : X.N.Nodup) (ho : OpR X (inplaceOp op) r) (hs : OpS X.K cl E f r) (he : ME X cl E c e ge) (hi : X.N[i]? = some x := by rfl) (hx : Loc X.env.scope x := by first | exact Or.inl rfl | exact Or.inr rfl)
    (hf : X.fn x = true ∨ X.env.scope.names.lookup x = some .local := by first | exact .inl rfl | exact .inr rfl | assumption) : MST X cl E c (.AugAssign (.Name x pos') op e pos) (sAug i f ge) := psI (ps_aug hN hi hx he ho hf) fun D σ H ⟨ρ, env, st, A, e, h⟩ => by
  unfold sAug at h
  match q : env[i]?, h with
  | none, h => simp only [q] at h; exact h.elim
  | some none, h => simp only [q] at h; exact h.elim
  | some (some d), h =>
    simp only [q] at h
    obtain ⟨v, hv, r⟩ := e.get q
    refine ⟨v, hv, (RestS.step (x := ge c) (rV X.K) A e h).imp fun v1 H1 ⟨ρ1, st1, d1, g1, A1, r1, h1⟩ => ?_⟩
    have e1 := e.grow A g1
    refine hs A1 (r.grow A g1) r1 ((RestS.rest (rV X.K) A1 e1 h1).imp fun v2 H2 ⟨ρ2, st2, d2, g2, A2, r2, h2⟩ => ?_)
    exact h2 ρ2 H2 _ .refl A2 (RvE.set r2 i (e1.grow A1 g2))

/-! ### fields -/
theorem setFld_at {W : WX} {lv : Nat} (G : Good X W cl c lv) {ρ : List Addr} {H : Hp} {st st' : Stt} {n : Nat} {f : List Nat} {v : V} {d : D} {p : Addr} (A : At X.K cl ρ H st) (hp : ρ[n]? = some p) (r : Rv X.K H ρ v d) (h : setFld c n f d st = some st') :
    ∃ C dx fs, H p = some (.ins C dx fs) ∧ Cls X.K C ∧ NoAttr X.K C (sD f) ∧ fs.length < 1000 ∧ At X.K cl ρ (upd H p (.ins C dx (L2.putF (sD f) v fs))) st' ∧ Grow ρ H ρ (upd H p (.ins C dx (L2.putF (sD f) v fs))) := by
  unfold setFld at h
  cases e1 : st[n]? with
  | none => rw [e1] at h; cases h
  | some o =>
    rw [e1] at h
    have q1 := A.get hp e1
    cases q1 with
    | @ins dx k vfs fs h1 rl hc hn =>
      by_cases hb : fs.length < 999 ∧ c.flds k f = true
      · simp only [hb, and_self, if_true] at h
        cases h
        obtain ⟨na, hC⟩ := G.flds k f hb.2
        obtain ⟨A', g⟩ := A.put (n := n) (o := .ins (cl k) dx (L2.putF (sD f) v vfs)) (ob := .ins k (putD fs f d)) hp (fun kk => .ins upd_same (by
          have := RvF.put (f := f) (r.keep kk []) (rl.keep kk [])
          simpa using this) hc (fun p hp => by
            have : p.1 = f ∨ ∃ q ∈ fs, q.1 = p.1 := by
              clear h1 rl hn hb A e1
              induction fs with
              | nil =>
                simp [putD] at hp
                left; rw [hp]
              | cons q qs ih =>
                unfold putD at hp
                by_cases e : q.1 = f
                · rw [if_pos e] at hp
                  rcases List.mem_cons.mp hp with hp | hp
                  · left; rw [hp]; exact e
                  · right; exact ⟨p, List.mem_cons_of_mem _ hp, rfl⟩
                · rw [if_neg e] at hp
                  rcases List.mem_cons.mp hp with hp | hp
                  · right; exact ⟨q, List.mem_cons_self, by rw [hp]⟩
                  · rcases ih hp with z | ⟨z, z1, z2⟩
                    · exact .inl z
                    · exact .inr ⟨z, List.mem_cons_of_mem _ z1, z2⟩
            rcases this with z | ⟨q, z1, z2⟩
            · rw [z]; exact na
            · rw [← z2]; exact hn q z1))
        exact ⟨cl k, dx, vfs, h1, hc, na, by rw [rl.length]; omega, A', g⟩
      · simp only [hb, if_false] at h; cases h
    | _ => cases h
theorem ms_fld {W : WX} {lv : Nat} {f : Str} {pos' : Pos} (G : Good X W cl c lv) (n : List Nat) (hn : f = sD n) (ha : ME X cl E c a ga) (he : ME X cl E c e ge) (hs : swapsWith e (some (.Attribute a f pos')) pos.line X.env = pure false := by rfl) :
    MST X cl E c (.Assign [.Attribute a f pos'] e pos) (MI.sFld ga n ge) := psI (ps_fld ha he hs) fun D σ H ⟨ρ, env, st, A, e, h⟩ => by
  subst hn
  refine (RestS.step (x := ge c) (rV X.K) A e h).imp fun v1 H1 ⟨ρ1, st1, d1, g1, A1, r1, h1⟩ => ?_
  have e1 := e.grow A g1
  refine (RestS.step (x := ga c) (rV X.K) A1 e1 h1).imp fun v2 H2 ⟨ρ2, st2, d2, g2, A2, r2, h2⟩ => ?_
  cases r2 with
  | @loc p i hp =>
    unfold endFld at h2
    cases q : setFld c i n d1 st2 with
    | none => simp only [q] at h2; exact h2.elim
    | some st3 =>
      simp only [q] at h2
      obtain ⟨C, dx, fs, q1, q2, q3, q4, A3, g3⟩ := setFld_at G A2 hp (r1.grow A1 g2) q
      exact ⟨p, C, dx, fs, rfl, q1, q2, q3, q4, h2 _ _ σ g3 A3 ((e1.grow A1 g2).grow A2 g3)⟩
  | _ => exact h2.elim
theorem ms_fldaug {W : WX} {lv : Nat} {f : Str} {tpos : Pos} {op : Operator} {fo : D → D → MI.R D} {r : R2} (G : Good X W cl c lv) (n : List Nat) (hn : f = sD n) (ho : OpR X (inplaceOp op) r) (hs : OpS X.K cl E fo r) (ha : ME X cl E c a ga) (he : ME X cl E c e ge) :
    MST X cl E c (.AugAssign (.Attribute a f tpos) op e pos) (MI.sFldAug ga n fo ge) := psI (ps_fldaug ha he ho) fun D σ H ⟨ρ, env, st, A, e, h⟩ => by
  subst hn
  refine (RestS.step (x := ga c) (rV X.K) A e h).imp fun v1 H1 ⟨ρ1, st1, d1, g1, A1, r1, h1⟩ => ?_
  have e1 := e.grow A g1
  cases r1 with
  | @loc p i hp =>
    have bad : opFldK n (.loc i) st1 = none → ∀ {P : Prop}, P := fun q => by
      unfold sBnd at h1
      rw [q] at h1; exact h1.elim
    cases e1' : st1[i]? with
    | none => exact bad (by simp [opFldK, e1'])
    | some o =>
      have q1 := A1.get hp e1'
      cases q1 with
      | @ins dx k vfs fs h2 rl hc hnn =>
        rcases rl.look (f := n) with ⟨q, _⟩ | ⟨d, v, q2, q3, q4⟩
        · exact bad (by simp [opFldK, e1', q])
        · have hm : ∃ p ∈ fs, p.1 = n := by
            unfold MI.getD at q2
            obtain ⟨p, hp, _⟩ := Option.map_eq_some_iff.mp q2
            exact ⟨p, List.mem_of_find?_eq_some hp, by simpa using List.find?_some hp⟩
          obtain ⟨pp, hpp, hpg⟩ := hm
          have hno : NoAttr X.K (cl k) (sD n) := by rw [← hpg]; exact hnn pp hpp
          have eo : opFldK n (.loc i) st1 = some (.ok (k, d), st1) := by simp [opFldK, e1', q2]
          have h2' : RestS X.K cl E D (sBnd (ge c env) env (fun y => sBnd (fo d y) env fun z st => endFldK c env n k (.loc i) z st) st1) ρ1 H1 := by
            unfold sBnd at h1
            rw [eo] at h1; exact h1
          refine ⟨p, cl k, dx, vfs, v, rfl, h2, hc, hno, q3, ?_⟩
          refine (RestS.step (x := ge c) (rV X.K) A1 e1 h2').imp fun v2 H2 ⟨ρ2, st2, d2, g2, A2, r2, h3⟩ => ?_
          have e2 := e1.grow A1 g2
          refine hs A2 (q4.grow A1 g2) r2 ((RestS.rest (rV X.K) A2 e2 h3).imp fun v3 H3 ⟨ρ3, st3, d3, g3, A3, r3, h4⟩ => ?_)
          have hp3 : ρ3[i]? = some p := by
            obtain ⟨x1, rfl⟩ := g2.ext
            obtain ⟨x2, rfl⟩ := g3.ext
            exact getElem?_app (getElem?_app hp)
          unfold endFldK at h4
          by_cases hk : isCls k (.loc i) st3 = true
          · rw [if_pos hk] at h4
            unfold endFld at h4
            cases qq : setFld c i n d3 st3 with
            | none => simp only [qq] at h4; exact h4.elim
            | some st4 =>
              simp only [qq] at h4
              obtain ⟨C, dx', fs', z1, z2, z3, z4, A4, g4⟩ := setFld_at G A3 hp3 r3 qq
              have hC : C = cl k := by
                unfold isCls at hk
                cases e3 : st3[i]? with
                | none => simp [e3] at hk
                | some o3 =>
                  have w := A3.get hp3 e3
                  cases w with
                  | @ins dx3 k3 vfs3 fs3 y1 y2 y3 y4 =>
                    have : k3 = k := by simpa [e3] using hk
                    subst this
                    rw [z1] at y1; cases y1; rfl
                  | _ => simp [e3] at hk
              subst hC
              exact ⟨dx', fs', z1, z4, h4 _ _ σ g4 A4 ((e2.grow A2 g3).grow A3 g4)⟩
          · rw [if_neg hk] at h4; exact h4.elim
      | _ => exact bad (by simp [opFldK, e1'])
  | _ =>
    exfalso
    unfold sBnd at h1
    exact h1
end
end MS

set_option Elab.async false
set_option linter.all false
set_option maxRecDepth 100000
set_option maxHeartbeats 4000000
/-! MSR5: rules of our own: a walk over a list or a tuple, enumerate of a tuple. -/
namespace PySem
open Sem (wp)
open AutoSeq1 (wpAny_loadPart')
theorem meets_enumerate_newTM (l : Addr) (items : Array Value) (n : Nat) (dct : Option Addr) (sl : Array (Option Value)) :
    Meets (Builtin.«enumerate.__new__» ⟨[.type "enumerate", .ref l], []⟩) (fun _ R s => s.heap.get? l = some { cls := .type "tuple", dict := dct, data := .seq items n, slots := sl } ∧
      R (.ok (.ret (.ref (s.heap.push { cls := .type "tuple_iterator", data := .fields #[.ref l, .int 0 0] }).objs.size)))
        { s with heap := (s.heap.push { cls := .type "tuple_iterator", data := .fields #[.ref l, .int 0 0] }).push { cls := .type "enumerate", data := .fields #[.none, .bool false, .ref s.heap.objs.size, rawInt 0, .none, .none] } }) :=
  .of_wp fun prog w A R s h => by
    obtain ⟨hp, g, d, tk, os⟩ := s; obtain ⟨hl, h⟩ := h
    have hsub := sub_enumerate
    have hL : Heap.IsTuple (Shared.heap ⟨hp, g, d, tk, os⟩) l items := ⟨_, hl, rfl, n, rfl⟩
    wp_walk using wpAny_loadPart' hl
    refine wpAny_stack_any fun st => wpAny_pure ?_
    split
    · rename_i c _ _ _ _ _
      cases (c == Value.type "enumerate")
      · wp_walk using wpAny_loadPart' hl, wpAny_pyIter_tuple hL
        exact ⟨_, rfl, h⟩
      · wp_walk using wpAny_loadPart' hl, wpAny_pyIter_tuple hL
        exact ⟨_, rfl, h⟩
    · wp_walk using wpAny_loadPart' hl, wpAny_pyIter_tuple hL
      exact ⟨_, rfl, h⟩
section
variable {prog : Program} {w : World} {A : Around} {E : Value → Shared → Prop} {s : Shared}
theorem call_enumerate_tupleM {l : Addr} {items : Array Value} {Q : Value → Shared → Prop} (hL : s.heap.IsTuple l items)
    (h : ∀ h', IsEnum h' (s.heap.objs.size + 1) s.heap.objs.size 0 .none → h'.IsTupleIter s.heap.objs.size l 0 → h'.objs.size = s.heap.objs.size + 2 →
      (∀ b o, s.heap.get? b = some o → h'.get? b = some o) → Q (.ref (s.heap.objs.size + 1)) { s with heap := h' }) :
    wpAny (model prog w) A (call (.type "enumerate") [.ref l]) Q E s := by
  obtain ⟨⟨c, dct, dt, sl⟩, hl, hc, n, hd⟩ := hL
  replace hc : c = .type "tuple" := hc
  replace hd : dt = .seq items n := hd
  subst hc hd
  refine callType_new F.called_enumerate (by decide) (F.typeCall_enumerate_1 _) (F.newCall_enumerate_1 _) (fun obj => F.args_object_init_2 obj _) F.entry_enumerate_new
    (meets_enumerate_newTM l items n dct sl) ⟨hl, ?_⟩
  have hz : (s.heap.push { cls := .type "tuple_iterator", data := .fields #[.ref l, .int 0 0] }).objs.size = s.heap.objs.size + 1 := Heap.size_push ..
  show _ ∧ _
  rw [hz]
  have he : IsEnum ((s.heap.push { cls := .type "tuple_iterator", data := .fields #[.ref l, .int 0 0] }).push
      { cls := .type "enumerate", data := .fields #[.none, .bool false, .ref s.heap.objs.size, rawInt 0, .none, .none] }) (s.heap.objs.size + 1) s.heap.objs.size 0 .none := by
    have := Heap.get?_push_size (s.heap.push { cls := .type "tuple_iterator", data := .fields #[.ref l, .int 0 0] })
      (o := { cls := .type "enumerate", data := .fields #[.none, .bool false, .ref s.heap.objs.size, rawInt 0, .none, .none] }) rfl
    rw [hz] at this; exact this
  refine ⟨⟨_, he, rfl⟩, h _ he ⟨_, Heap.get?_push_of_some _ (Heap.get?_push_size _ rfl), rfl, rfl⟩ (by rw [Heap.size_push, hz]) fun b o x => Heap.get?_push_of_some _ (Heap.get?_push_of_some _ x)⟩
theorem wpAny_pyNext_enum_endT {e it t : Addr} {k : Nat} {items : Array Value} {i : Int} {old : Value} {Q : Option Value → Shared → Prop}
    (hh : A.handled = none) (he : IsEnum s.heap e it i old) (hit : s.heap.IsTupleIter it t k) (ht : s.heap.IsTuple t items) (hx : items[k]? = none)
    (hQ : ∀ h', Heap.ExtBut it s.heap h' → Q none { s with heap := h' }) : wpAny (model prog w) A (pyNext (.ref e)) Q E s := by
  have hT : s.TypeIs (.ref e) "enumerate" := ⟨_, he, rfl⟩
  unfold pyNext
  refine wpAny_bind (wpAny_attempt (wpAny_callSpecial?_slot (name := Str.ofString "__next__") hT F.slot_enumerate_next
    (wpAny_call_entry F.slot_enumerate_next hT F.entry_enumerate_next ?_ (F.args_enumerate_next_1 _))))
  show wpAny _ _ (field (.ref e) 2 >>= _) _ _ _
  refine wpAny_bind (wpAny_field he rfl (x := .ref it) rfl ?_)
  refine wpAny_bind (wpAny_nextOf_tuple_end (A := A.in1) hh hit ht hx fun h' x he' hx' => ?_)
  obtain ⟨o, ho, hc⟩ := hx'
  refine wpAny_bind (wpAny_isInstance (T := "StopIteration") (b := true) ⟨o, ho, hc⟩ isSubtype_stop ?_)
  exact wpAny_pure (hQ _ he')
end
end PySem
namespace MS
open PySem PySem.Spec PyProof.Rows L2

/-- the tuple at a, each item in a new pair -/
def IteT (K : PySem.W.Frag) (a : Addr) : It :=
  ⟨fun i H => ∃ (xs : List V) (x : V), SqT K H a xs ∧ xs[i]? = some x, fun i H v H' => ∃ T x, v = .ref T ∧ H T = none ∧ H' = upd H T (.tup [.int (i : Nat), x]) ∧ ∀ xs, SqT K H a xs → xs[i]? = some x, fun i H => ∃ xs : List V, SqT K H a xs ∧ xs.length ≤ i⟩
theorem turn_enumT {P : Program} {w : World} {K : PySem.W.Frag} {elts : List Expr} {kk : Nat} {tpos : Pos} (a e it : Addr) :
    Turn P w K (.Tuple elts kk tpos) (IteT K a) [e, it] e (fun i h => (∃ old, IsEnum h e it ((i : Nat) : Int) old) ∧ h.IsTupleIter it a i ∧ e ≠ it) where
  mem := by simp
  obj := fun i h st b hb => by
    obtain ⟨⟨old, he⟩, ⟨o, ho, hc, hd⟩, _⟩ := st
    have e' : b = e ∨ b = it := by simpa using hb
    rcases e' with z | z
    · rw [z]; exact ⟨_, he, fun v q => nomatch q⟩
    · rw [z]; exact ⟨o, ho, fun v q => by rw [hd] at q; cases q⟩
  keep := fun i h h' st k => let ⟨⟨old, he⟩, hi, hne⟩ := st; ⟨⟨old, k e (by simp) _ he⟩, hi.at fun o q => k it (by simp) o q, hne⟩
  item := by
    intro X hP hw hK hc i pins s σ H E I hf st hg
    subst hP hw hK
    obtain ⟨⟨old, he⟩, hit, hne⟩ := st
    obtain ⟨xs, x, hq, hx⟩ := hg
    obtain ⟨its, rv, p, hz⟩ := I.tuple hq
    obtain ⟨u, hu, ru⟩ := rv.get hx
    have hel : e < s.heap.objs.size := Heap.lt_size he
    have hil : it < s.heap.objs.size := by obtain ⟨_, q, _⟩ := hit; exact Heap.lt_size q
    have hai : a ≠ it := fun z => by
      obtain ⟨o1, q1, c1, _⟩ := id p
      obtain ⟨o2, q2, c2, _⟩ := id hit
      rw [z, q2] at q1; cases q1
      rw [c1] at c2; exact absurd c2 (by decide)
    have hae : e ≠ a := fun z => by
      obtain ⟨o1, q1, c1, _⟩ := id p
      have he' := he
      rw [z] at he'
      unfold IsEnum at he'
      rw [q1] at he'; cases he'
      exact absurd (show (Value.type "enumerate") = .type "tuple" from c1) (by decide)
    have hlt : i < its.toArray.size := by
      have := (List.getElem?_eq_some_iff.mp hu).1
      simpa using this
    refine wpAny_pyNext_enum_itemD (Draws.tuple (A := X.A.in1) (I.ok.hd hc) it a hai its.toArray) he ⟨hit, (show s.heap.IsTuple a its.toArray from p)⟩ hlt hne (by simp [hne, hae]) fun x1 h' tk hx1 ho hst' hT hsz hk => ?_
    have ex : x1 = u := by
      have h1 : its[i]? = some x1 := by simpa using hx1
      rw [hu] at h1; cases h1; rfl
    subst ex
    obtain ⟨hit', _⟩ := hst'
    refine ⟨_, rfl, wpAny_letOwnedTupleGo_enum (s := { s with heap := h', toks := tk + 1 }) ho fun h'' he' sb => ?_⟩
    have hT2 : h''.get? s.heap.objs.size = some { cls := .type "tuple", data := .seq #[.int i tk, x1] } := (sb.2 _ (Nat.ne_of_gt hel)).trans hT
    have new : ObjOk X.prog X.w (upd H s.heap.objs.size (.tup [.int (i : Nat), x])) h'' s.heap.objs.size (.tup [.int (i : Nat), x]) :=
      ⟨by show 2 ≤ sizeLine; decide, [.int i tk, x1], .cons ⟨_, rfl⟩ (.cons ru .nil), ⟨_, hT2, rfl, _, rfl⟩⟩
    have I1 : Inv X pins σ (upd H s.heap.objs.size (.tup [.int (i : Nat), x])) { s with heap := h'', toks := tk + 1 } :=
      I.turnedNew (ch := [e, it]) (fun b ob hb q => (sb.2 b (fun z => hb (by simp [z]))).trans (hk b ob (fun z => hb (by simp [z])) (fun z => hb (by simp [z])) q)) hf (Nat.le_refl _) new
    refine ⟨.ref s.heap.objs.size, _, I1, rfl, ⟨_, x, rfl, I.hok.fresh (Nat.le_refl _), rfl, fun ys hy => by
      rw [I.tuple_inj hy hq]; exact hx⟩, ⟨⟨x1, ?_⟩, hit'.at fun o q => (sb.2 it (Ne.symm hne)).trans q, hne⟩, fun b hb => ?_⟩
    · have e1 : ((i + 1 : Nat) : Int) = (i : Int) + 1 := by omega
      rw [e1]; exact he'
    · have hb' : b < s.heap.objs.size := by
        have e' : b = e ∨ b = it := by simpa using hb
        rcases e' with z | z
        · rw [z]; exact hel
        · rw [z]; exact hil
      rw [upd_ne (Nat.ne_of_lt hb')]
      exact (hf b hb).1
  done := by
    intro X hP hw hK hc i pins s σ H E I hf st hg
    subst hP hw hK
    obtain ⟨⟨old, he⟩, hit, hne⟩ := st
    obtain ⟨xs, hq, hx⟩ := hg
    obtain ⟨its, rv, p, hz⟩ := I.tuple hq
    obtain ⟨f0, f1, f2, f3, f4, f5⟩ := hf it (by simp)
    have hl := rv.length
    exact wpAny_pyNext_enum_endT (I.ok.hd hc) he hit (show s.heap.IsTuple a its.toArray from p) (by simp; omega) fun h' eb => ⟨rfl, I.turned (t' := s.toks) (fun b o hb q => eb b o hb q) f0 f1 f3 f4 f5⟩
  self := fun A i s Q E st h => let ⟨⟨_, he⟩, _⟩ := st; wpAny_pyIter_enum he h
/-- a walk over a list or a tuple -/
def iSeqA (K : PySem.W.Frag) (tl : TE) : TI := fun σ H R => tl σ H fun x H1 => ∃ a, x = .ref a ∧ (((∃ xs, SqL K H1 a xs) ∧ R (Itl K a) H1) ∨ ((∃ xs, SqT K H1 a xs) ∧ R (Itt K a) H1))
theorem pi_seqA {X : Cx} {tg l : Expr} {tl : TE} (hl : PE X l tl) : PI X tg l (iSeqA X.K tl) := by
  refine ⟨fun pins s σ H R I h => ?_⟩
  refine thn (hl.run pins s σ H _ I h) fun v s1 ⟨x, H1, I1, r1, q1⟩ => ?_
  obtain ⟨a, e, ⟨⟨xs, hq⟩, q⟩ | ⟨⟨xs, hq⟩, q⟩⟩ := q1
  · subst e
    cases r1
    obtain ⟨its, rv, p, hz⟩ := I1.list hq
    refine wpAny_pyIter_list p.isList ?_
    refine ⟨s1.heap.objs.size, [s1.heap.objs.size], _, _, H1, rfl, I1.kept (t' := s1.toks) fun b o e => Heap.get?_push_of_some _ e, turn_list a _, ⟨_, Heap.get?_push_size _ rfl, rfl, rfl⟩, fun b hb => ?_, q⟩
    have e : b = s1.heap.objs.size := by simpa using hb
    subst e
    exact I1.fpOk (Nat.le_refl _) (I1.hok.fresh (Nat.le_refl _))
  · subst e
    cases r1
    obtain ⟨its, rv, p, hz⟩ := I1.tuple hq
    refine wpAny_pyIter_tuple (show s1.heap.IsTuple a its.toArray from p) ?_
    refine ⟨s1.heap.objs.size, [s1.heap.objs.size], _, _, H1, rfl, I1.kept (t' := s1.toks) fun b o e => Heap.get?_push_of_some _ e, turn_tuple a _, ⟨_, Heap.get?_push_size _ rfl, rfl, rfl⟩, fun b hb => ?_, q⟩
    have e : b = s1.heap.objs.size := by simpa using hb
    subst e
    exact I1.fpOk (Nat.le_refl _) (I1.hok.fresh (Nat.le_refl _))
def iEnumA (K : PySem.W.Frag) (ta : TA) : TI := fun σ H R => ta σ H fun vs H1 => ∃ a, vs = [.ref a] ∧ (((∃ xs, SqL K H1 a xs) ∧ R (Ite K a) H1) ∨ ((∃ xs, SqT K H1 a xs) ∧ R (IteT K a) H1))
theorem pi_enumA {X : Cx} {e : Expr} {ta : TA} {p pos tpos : Pos} {elts : List Expr} {kk : Nat} (hg : Gl X "enumerate") (hm : X.mg "enumerate" = none) (ha : PA X [e] ta) (hs : starEach [e] X.env = [(false, eval e X.env)] := by rfl) :
    PI X (.Tuple elts kk tpos) (.Call (.Name "enumerate" p) [e] [] pos) (iEnumA X.K ta) := by
  refine ⟨fun pins s σ H R I h => ?_⟩
  refine Call_ (ld_blt I hg hm boot_enumerate (PyProof.Rows.callWith_type1 (thn (ha.run pos pins s σ H _ I h) fun us s1 ⟨vs, H1, I1, r1, q1⟩ => ?_) hs rfl))
  obtain ⟨a, ex, q⟩ := q1
  subst ex
  cases r1 with
  | cons r rr =>
    cases rr
    cases r
    have fin : ∀ b, b ∈ [s1.heap.objs.size + 1, s1.heap.objs.size] → FpOk X pins H1 b := fun b hb => by
      have e' : b = s1.heap.objs.size + 1 ∨ b = s1.heap.objs.size := by simpa using hb
      have hle : s1.heap.objs.size ≤ b := by
        rcases e' with z | z
        · rw [z]; exact Nat.le_add_right _ _
        · rw [z]; exact Nat.le_refl _
      exact I1.fpOk hle (I1.hok.fresh hle)
    rcases q with ⟨⟨xs, hq⟩, q⟩ | ⟨⟨xs, hq⟩, q⟩
    · obtain ⟨its, rv, p', hz⟩ := I1.list hq
      refine call_enumerate_list p'.isList fun h' he hit hsz hk => wpAny_pyIter_enum he ?_
      have I2 : Inv X pins σ H1 { s1 with heap := h' } := I1.kept (t' := s1.toks) hk
      exact ⟨s1.heap.objs.size + 1, [s1.heap.objs.size + 1, s1.heap.objs.size], _, _, H1, rfl, I2, turn_enum a (s1.heap.objs.size + 1) s1.heap.objs.size, ⟨⟨.none, he⟩, hit, Nat.succ_ne_self _⟩, fin, q⟩
    · obtain ⟨its, rv, p', hz⟩ := I1.tuple hq
      refine call_enumerate_tupleM (show s1.heap.IsTuple a its.toArray from p') fun h' he hit hsz hk => wpAny_pyIter_enum he ?_
      have I2 : Inv X pins σ H1 { s1 with heap := h' } := I1.kept (t' := s1.toks) hk
      exact ⟨s1.heap.objs.size + 1, [s1.heap.objs.size + 1, s1.heap.objs.size], _, _, H1, rfl, I2, turn_enumT a (s1.heap.objs.size + 1) s1.heap.objs.size, ⟨⟨.none, he⟩, hit, Nat.succ_ne_self _⟩, fin, q⟩
end MS

set_option Elab.async false
set_option linter.all false
set_option maxRecDepth 100000
set_option maxHeartbeats 4000000
/-! MS10: in-place operators, loops, what they walk. -/
namespace MS
open PySem PySem.Spec PyProof.Rows L2 MI

section
variable {K : PySem.W.Frag} {cl : Nat → Addr} {E : EX}
def rIAddA (K : PySem.W.Frag) : R2 := fun x y H Q => ((rI0 fun i j => .int (i + j)) x y H Q ∨ (∃ i j, x = .str i ∧ y = .str j ∧ i.length + j.length ≤ sizeLine ∧ Q (.str (i ++ j)) H)) ∨ rCatA K x y H Q
theorem iop_addA {X : Cx} : OpR X (inplaceOp .Add) (rIAddA X.K) := OpR.orI (OpR.orI iop_add iop_add_str) iop_catA
theorem s_iadd : OpS K cl E opIAdd (rIAddA K) := by
  intro σ Q ρ H st v1 v2 d1 d2 A r1 r2 h
  cases r1 with
  | int i =>
    cases r2 with
    | int j => exact .inl (.inl ⟨i, j, rfl, rfl, h.ok (st' := st) rfl .refl A (.int _)⟩)
    | _ => exact h.none rfl
  | str s =>
    cases r2 with
    | str t =>
      by_cases hl : s.length + t.length < lim
      · refine .inl (.inr ⟨_, _, rfl, rfl, by rw [sD_len, sD_len]; exact lim_size hl, ?_⟩)
        rw [sD_app]
        exact h.ok (st' := st) (d := .str (s ++ t)) (by simp [opIAdd, hl]) .refl A (.str _)
      · exact h.none (by simp [opIAdd, hl])
    | _ => exact h.none rfl
  | @tup a vs l hs r =>
    cases r2 with
    | @tup b ws m hs' r' =>
      by_cases hl : l.length + m.length < lim
      · have e : opIAdd (.tup l) (.tup m) st = some (.ok (.tup (l ++ m)), st) := by simp [opIAdd, hl]
        refine .inr ⟨a, b, vs, ws, rfl, rfl, hs, hs', by rw [r.length, r'.length]; exact lim_size hl, fun z => ?_, fun _ z => ?_, fun _ _ p n => ?_⟩
        · have zl : l = [] := r.nil_iff.mp z
          refine h.ok e .refl A ?_
          rw [zl]; exact .tup hs' r'
        · have zl : m = [] := r'.nil_iff.mp z
          refine h.ok e .refl A ?_
          rw [zl, List.append_nil]; exact .tup hs r
        · exact rest_tup A (r.append r') h e p n
      · exact h.none (by simp [opIAdd, hl])
    | _ => exact h.none rfl
  | _ => exact h.none rfl
end

section
variable {X : Cx} {cl : Nat → Addr} {E : EX} {c : MI.Ctx} {a b e : Expr} {ga gb ge : SE} {pos : Pos} {ss : List Stmt} {gs gr : SS} {t : MI.ST}
/-! ### a[i] op= e -/
theorem ms_subaug {op : Operator} {fo : D → D → MI.R D} {r : R2} {tpos : Pos} (ho : OpR X (inplaceOp op) r) (hs : OpS X.K cl E fo r) (ha : ME X cl E c a ga) (hb : ME X cl E c b gb) (he : ME X cl E c e ge)
    (hq : ∀ ov iv new, augStore b ov iv new = (do holding [new, ov, iv] (setItem ov iv new); release [new, ov, iv] []; pure .next) := by intros; rfl) : MST X cl E c (.AugAssign (.Subscript a b tpos) op e pos) (sSubAug ga gb fo ge) :=
  psI (ps_augS ha hb pget_list he ho set_list hq) fun D σ H ⟨ρ, env, st, A, e, h⟩ => by
    refine (RestS.step (x := ga c) (rV X.K) A e h).imp fun v1 H1 ⟨ρ1, st1, d1, g1, A1, r1, h1⟩ => ?_
    refine (RestS.step (x := gb c) (rV X.K) A1 (e.grow A g1) h1).imp fun v2 H2 ⟨ρ2, st2, d2, g2, A2, r2, h2⟩ => ?_
    have e2 := (e.grow A g1).grow A1 g2
    have r1' := r1.grow A1 g2
    have bad : opIxL d1 d2 st2 = none → ∀ {P : Prop}, P := fun q => by
      unfold sBnd at h2
      rw [q] at h2; exact h2.elim
    cases r1' with
    | @loc p n hp =>
      cases r2 with
      | int i =>
        cases e1 : st2[n]? with
        | none => exact bad (by simp [opIxL, opIx, e1])
        | some o =>
          have q1 := A2.get hp e1
          cases q1 with
          | @lst vs l z1 r =>
            cases q : (MI.ixN l.length i).bind fun k => l[k]? with
            | none => exact bad (by simp [opIxL, opIx, e1, q])
            | some d =>
              obtain ⟨v, y1, y2⟩ := atI_of r q
              have eo : opIxL (.loc n) (.int i) st2 = some (.ok d, st2) := by simp [opIxL, opIx, e1, q]
              have h3 : RestS X.K cl E D (sBnd (ge c env) env (fun z => sBnd (fo d z) env fun u st => endIx env (.loc n) (.int i) u st) st2) ρ2 H2 := by
                unfold sBnd at h2
                rw [eo] at h2; exact h2
              refine ⟨p, vs, i, v, rfl, rfl, SqL.of z1, y1, ?_⟩
              refine (RestS.step (x := ge c) (rV X.K) A2 e2 h3).imp fun v4 H4 ⟨ρ4, st4, d4, g4, A4, r4, h4⟩ => ?_
              have e4 := e2.grow A2 g4
              refine hs A4 (y2.grow A2 g4) r4 ((RestS.rest (rV X.K) A4 e4 h4).imp fun v5 H5 ⟨ρ5, st5, d5, g5, A5, r5, h5⟩ => ?_)
              have hp5 : ρ5[n]? = some p := by
                obtain ⟨x1, rfl⟩ := g4.ext
                obtain ⟨x2, rfl⟩ := g5.ext
                exact getElem?_app (getElem?_app hp)
              unfold endIx at h5
              cases qq : setIx n i d5 st5 with
              | none => simp only [qq] at h5; exact h5.elim
              | some st6 =>
                simp only [qq] at h5
                obtain ⟨xs, j, w1, w2, A6, g6⟩ := setIx_at A5 hp5 r5 qq
                exact ⟨p, xs, i, j, rfl, rfl, w1, w2, h5 _ _ σ g6 A6 ((e4.grow A4 g5).grow A5 g6)⟩
          | _ => exact bad (by simp [opIxL, opIx, e1])
      | _ => exact bad (by simp [opIxL, opIx])
    | _ => exact bad rfl

/-! ### while -/
theorem ms_while (hp : PassesOwn (model X.prog X.w) X.A X.env X.xe) (ht : MT X cl E c e t) (hb : MSS X cl E c ss gs) : MST X cl E c (.While e ss [] pos) (sWhile t gs) := psI (ps_while hp ht hb) fun D σ H ⟨ρ, env, st, A, e, h⟩ => by
  refine ⟨fun m σ H => ∃ ρ env st, At X.K cl ρ H st ∧ RvE X.K H ρ σ env ∧ RestS X.K cl E D (whileL (t c) (gs c) m env st) ρ H, ⟨c.fuel, ρ, env, st, A, e, h⟩, ?_⟩
  rintro m σ H ⟨ρ, env, st, A, e, h⟩
  cases m with
  | zero => exact h.elim
  | succ m =>
    refine ⟨ρ, env, st, A, e, ?_⟩
    unfold whileL at h
    cases q : t c env st with
    | none => simp only [q] at h; exact h.elim
    | some p =>
      obtain ⟨rs, st1⟩ := p
      cases rs with
      | exc k fs =>
        simp only [q] at h
        exact .inr ⟨k, fs, st1, q, fun ρ1 H1 g1 A1 => h ρ1 H1 σ g1 A1 (e.grow A g1)⟩
      | ok b =>
        refine .inl ⟨b, st1, q, fun ρ1 H1 v1 g1 A1 r1 => ?_⟩
        have r1' : v1 = b := r1
        subst r1'
        have e1 := e.grow A g1
        cases v1 with
        | false =>
          simp only [q] at h
          exact iteF (h ρ1 H1 σ g1 A1 e1)
        | true =>
          simp only [q] at h
          refine iteT ⟨fun σ' H' => ∃ ρ env st, At X.K cl ρ H' st ∧ RvE X.K H' ρ σ' env ∧ RestS X.K cl E D (whileL (t c) (gs c) m env st) ρ H', fun σ' H' w => ⟨m, Nat.lt_succ_self m, w⟩, ρ1, env, st1, A1, e1, ?_⟩
          match qq : gs c env st1, h with
          | none, h => simp only [qq] at h; exact h.elim
          | some (.nx, env', st'), h => simp only [qq] at h; exact fun ρ' H' σ' g' A' e' => ⟨ρ', env', st', A', e', RestS.base h (g1.trans g')⟩
          | some (.ct, env', st'), h => simp only [qq] at h; exact fun ρ' H' σ' g' A' e' => ⟨ρ', env', st', A', e', RestS.base h (g1.trans g')⟩
          | some (.bk, env', st'), h => simp only [qq] at h; exact fun ρ' H' σ' g' A' e' => h ρ' H' σ' (g1.trans g') A' e'
          | some (.rt d, env', st'), h => simp only [qq] at h; exact fun ρ' H' σ' g' A' e' => h ρ' H' σ' (g1.trans g') A' e'
          | some (.ex k fs, env', st'), h => simp only [qq] at h; exact fun ρ' H' σ' g' A' e' => h ρ' H' σ' (g1.trans g') A' e'

/-! ### for -/
/-- J walks what s gives -/
structure SrcOk (K : PySem.W.Frag) (cl : Nat → Addr) (s : Src) (J : It) (ρ0 : List Addr) (H0 : Hp) : Prop where
  go : ∀ ρ H st i d, Grow ρ0 H0 ρ H → At K cl ρ H st → srcAt s i st = some (some d) → J.go i H ∧ ∀ x H', J.yld i H x H' → ∃ ρ', Grow ρ H ρ' H' ∧ At K cl ρ' H' st ∧ Rv K H' ρ' x d
  stop : ∀ ρ H st i, Grow ρ0 H0 ρ H → At K cl ρ H st → srcAt s i st = some none → J.stop i H
abbrev rS (K : PySem.W.Frag) (cl : Nat → Addr) : Hp → List Addr → It → Src → Prop := fun H ρ J s => SrcOk K cl s J ρ H
abbrev MI_ (X : Cx) (cl : Nat → Addr) (E : EX) (c : MI.Ctx) (tg e : Expr) (g : SI) : Prop := PI X tg e (TM X.K cl E (rS X.K cl) (g c))
theorem piI {tg : Expr} {t t' : TI} (h : PI X tg e t) (i : ∀ σ H R, t' σ H R → t σ H R) : PI X tg e t' := ⟨fun pins s σ H R I q => h.run pins s σ H R I (i σ H R q)⟩
theorem ms_for {tg : Expr} {g : SG} {gi : SI} (hp : PassesOwn (model X.prog X.w) X.A X.env X.xe) (hc : X.calm = true) (hi : MI_ X cl E c tg e gi) (hg : MG X cl c tg g) (hb : MSS X cl E c ss gs)
    (hs : ∀ x, foldedSetIterable e X.env x = pure x := by intro _; rfl) : MST X cl E c (.For tg e ss [] pos) (sFor g gi gs) := psI (ps_for hp hc hi hg hb hs) fun D σ H ⟨ρ, env, st, A, e, h⟩ => by
  refine (RestS.step (x := gi c) (rS X.K cl) A e h).imp fun J H1 ⟨ρ1, st1, s, g1, A1, S, h1⟩ => ?_
  refine ⟨fun i m σ H => ∃ ρ env st, Grow ρ1 H1 ρ H ∧ At X.K cl ρ H st ∧ RvE X.K H ρ σ env ∧ RestS X.K cl E D (forL s (turnOf g gs c) m i env st) ρ H, ⟨c.fuel, ρ1, env, st1, .refl, A1, e.grow A g1, h1⟩, ?_⟩
  rintro i m σ H ⟨ρ, env, st, gg, A, e, h⟩
  cases m with
  | zero => exact h.elim
  | succ m =>
    unfold forL at h
    cases q : srcAt s i st with
    | none => simp only [q] at h; exact h.elim
    | some o =>
      cases o with
      | none =>
        simp only [q] at h
        exact .inl ⟨S.stop ρ H st i gg A q, h ρ H σ .refl A e⟩
      | some d =>
        simp only [q] at h
        obtain ⟨go, yl⟩ := S.go ρ H st i d gg A q
        refine .inr ⟨go, fun σ' H' => ∃ ρ env st, Grow ρ1 H1 ρ H' ∧ At X.K cl ρ H' st ∧ RvE X.K H' ρ σ' env ∧ RestS X.K cl E D (forL s (turnOf g gs c) m (i + 1) env st) ρ H', fun σ' H' w => ⟨m, Nat.lt_succ_self m, w⟩, fun x H' y => ?_⟩
        obtain ⟨ρ2, g2, A2, r2⟩ := yl x H' y
        refine ⟨ρ2, env, st, d, A2, e.grow A g2, r2, ?_⟩
        unfold turnOf at h
        match qq : g c d env st, h with
        | none, h => simp only [qq] at h; exact h.elim
        | some (env', st'), h =>
          simp only [qq] at h
          refine fun ρ3 H3 σ3 g3 A3 e3 => ⟨ρ3, env', st', A3, e3, ?_⟩
          have g13 := g2.trans g3
          match q3 : gs c env' st', h with
          | none, h => simp only [q3] at h; exact h.elim
          | some (.nx, env', st'), h => simp only [q3] at h; exact fun ρ' H' σ' g' A' e' => ⟨ρ', env', st', gg.trans (g13.trans g'), A', e', RestS.base h (g13.trans g')⟩
          | some (.ct, env', st'), h => simp only [q3] at h; exact fun ρ' H' σ' g' A' e' => ⟨ρ', env', st', gg.trans (g13.trans g'), A', e', RestS.base h (g13.trans g')⟩
          | some (.bk, env', st'), h => simp only [q3] at h; exact fun ρ' H' σ' g' A' e' => h ρ' H' σ' (g13.trans g') A' e'
          | some (.rt d, env', st'), h => simp only [q3] at h; exact fun ρ' H' σ' g' A' e' => h ρ' H' σ' (g13.trans g') A' e'
          | some (.ex k fs, env', st'), h => simp only [q3] at h; exact fun ρ' H' σ' g' A' e' => h ρ' H' σ' (g13.trans g') A' e'

/-! ### what is walked -/
theorem src_list {K : PySem.W.Frag} {ρ0 : List Addr} {H0 : Hp} {n : Nat} {p : Addr} (hp : ρ0[n]? = some p) : SrcOk K cl (.live n) (Itl K p) ρ0 H0 := by
  have at_ : ∀ {ρ H st}, Grow ρ0 H0 ρ H → At K cl ρ H st → ∀ {l}, st[n]? = some (.lst l) → ∃ vs, H p = some (.lst vs) ∧ RvL K H ρ vs l := fun {ρ H st} g A {l} e1 => by
    have hp' : ρ[n]? = some p := by obtain ⟨x, rfl⟩ := g.ext; exact getElem?_app hp
    have q1 := A.get hp' e1
    cases q1 with
    | lst z r => exact ⟨_, z, r⟩
  refine ⟨fun ρ H st i d g A h => ?_, fun ρ H st i g A h => ?_⟩
  · unfold srcAt at h
    cases e1 : st[n]? with
    | none => simp only [e1] at h; cases h
    | some o =>
      cases o with
      | lst l =>
        simp only [e1] at h
        obtain ⟨vs, z, r⟩ := at_ g A e1
        obtain ⟨v, hv, rv⟩ := r.get (Option.some.inj h)
        refine ⟨⟨vs, v, SqL.of z, hv⟩, fun x H' y => ?_⟩
        obtain ⟨rfl, y⟩ := y
        have := y vs (SqL.of z)
        rw [hv] at this; cases this
        exact ⟨ρ, .refl, A, rv⟩
      | _ => simp only [e1] at h; cases h
  · unfold srcAt at h
    cases e1 : st[n]? with
    | none => simp only [e1] at h; cases h
    | some o =>
      cases o with
      | lst l =>
        simp only [e1] at h
        obtain ⟨vs, z, r⟩ := at_ g A e1
        refine ⟨vs, SqL.of z, ?_⟩
        rw [r.length]
        exact List.getElem?_eq_none_iff.mp (Option.some.inj h)
      | _ => simp only [e1] at h; cases h
theorem src_tup {K : PySem.W.Frag} {ρ0 : List Addr} {H0 : Hp} {st0 : Stt} {p : Addr} {vs : List V} {l : List D} (A0 : At K cl ρ0 H0 st0) (hs : SqT K H0 p vs) (r : RvL K H0 ρ0 vs l) : SrcOk K cl (.items l) (Itt K p) ρ0 H0 := by
  refine ⟨fun ρ H st i d g A h => ?_, fun ρ H st i g A h => ?_⟩
  · have s1 := (A0.keep g).t _ _ hs
    obtain ⟨v, hv, rv⟩ := (r.grow A0 g).get (Option.some.inj h)
    refine ⟨⟨vs, v, s1, hv⟩, fun x H' y => ?_⟩
    obtain ⟨rfl, y⟩ := y
    have := y vs s1
    rw [hv] at this; cases this
    exact ⟨ρ, .refl, A, rv⟩
  · refine ⟨vs, (A0.keep g).t _ _ hs, ?_⟩
    rw [r.length]
    exact List.getElem?_eq_none_iff.mp (Option.some.inj h)
theorem src_frz {K : PySem.W.Frag} {ρ0 : List Addr} {H0 : Hp} {st0 : Stt} {p : Addr} {vs : List V} {l : List D} (A0 : At K cl ρ0 H0 st0) (hs : FrL K H0 p vs) (r : RvL K H0 ρ0 vs l) : SrcOk K cl (.items l) (Itl K p) ρ0 H0 := by
  refine ⟨fun ρ H st i d g A h => ?_, fun ρ H st i g A h => ?_⟩
  · have s1 := ((A0.keep g).f _ _ hs).seq
    obtain ⟨v, hv, rv⟩ := (r.grow A0 g).get (Option.some.inj h)
    refine ⟨⟨vs, v, s1, hv⟩, fun x H' y => ?_⟩
    obtain ⟨rfl, y⟩ := y
    have := y vs s1
    rw [hv] at this; cases this
    exact ⟨ρ, .refl, A, rv⟩
  · refine ⟨vs, ((A0.keep g).f _ _ hs).seq, ?_⟩
    rw [r.length]
    exact List.getElem?_eq_none_iff.mp (Option.some.inj h)
theorem mi_seq {tg : Expr} (ha : ME X cl E c a ga) : MI_ X cl E c tg a (iSeq ga) := piI (pi_seqA ha) fun σ H R ⟨ρ, env, st, A, e, h⟩ => by
  refine (Rest.step (g := ga c) (rV X.K) A e h).imp fun v1 H1 ⟨ρ1, st1, d1, g1, A1, r1, h1⟩ => ?_
  cases r1 with
  | @tup p vs l hs r => exact ⟨p, rfl, .inr ⟨⟨vs, hs⟩, h1.ok (st' := st1) (d := .items l) rfl .refl A1 (src_tup A1 hs r)⟩⟩
  | @xtup p vs l hs r => exact ⟨p, rfl, .inr ⟨⟨vs, hs.seq⟩, h1.ok (st' := st1) (d := .items l) rfl .refl A1 (src_tup A1 hs.seq r)⟩⟩
  | @frz p vs l hs r => exact ⟨p, rfl, .inl ⟨⟨vs, hs.seq⟩, h1.ok (st' := st1) (d := .items l) rfl .refl A1 (src_frz A1 hs r)⟩⟩
  | @loc p n hp =>
    cases e1 : st1[n]? with
    | none => exact h1.none (by simp [e1])
    | some o =>
      have q1 := A1.get hp e1
      cases q1 with
      | @lst vs l z r => exact ⟨p, rfl, .inl ⟨⟨vs, SqL.of z⟩, h1.ok (st' := st1) (d := .live n) (by simp [e1]) .refl A1 (src_list hp)⟩⟩
      | _ => exact h1.none (by simp [e1])
  | _ => exact h1.none rfl
/-! ### range -/
theorem rangeL_get {lo hi : Int} {i : Nat} : (rangeL lo hi)[i]? = if i < (hi - lo).toNat then some (.int (lo + i)) else none := by
  unfold rangeL
  by_cases h : i < (hi - lo).toNat
  · simp [h]
  · simp [h]
theorem src_range {K : PySem.W.Frag} {ρ0 : List Addr} {H0 : Hp} {lo hi : Int} : SrcOk K cl (.items (rangeL lo hi)) (Itr lo (hi - lo).toNat) ρ0 H0 := by
  refine ⟨fun ρ H st i d g A h => ?_, fun ρ H st i g A h => ?_⟩
  · have h' := Option.some.inj h
    rw [rangeL_get] at h'
    by_cases hi' : i < (hi - lo).toNat
    · rw [if_pos hi'] at h'
      cases h'
      refine ⟨hi', fun x H' y => ?_⟩
      obtain ⟨rfl, rfl⟩ := y
      exact ⟨ρ, .refl, A, .int _⟩
    · rw [if_neg hi'] at h'; cases h'
  · have h' := Option.some.inj h
    rw [rangeL_get] at h'
    by_cases hi' : i < (hi - lo).toNat
    · rw [if_pos hi'] at h'; cases h'
    · exact Nat.le_of_not_lt hi'
theorem lim_eq : (lim : Int) = 16777216 := rfl
theorem mi_range1 {tg : Expr} {p : Pos} (hg : Gl X "range") (hm : X.mg "range" = none) (ha : ME X cl E c a ga) (hs : starEach [a] X.env = [(false, eval a X.env)] := by rfl) : MI_ X cl E c tg (.Call (.Name "range" p) [a] [] pos) (iRange1 ga) :=
  piI (pi_range1 (ta := tCons (TM X.K cl E (rV X.K) (ga c)) tNil) hg hm (pa_cons ha pa_nil hs) hs) fun σ H R ⟨ρ, env, st, A, e, h⟩ => by
    refine (Rest.step (g := ga c) (rV X.K) A e h).imp fun v1 H1 ⟨ρ1, st1, d1, g1, A1, r1, h1⟩ => ?_
    cases r1 with
    | int n =>
      by_cases hb : -(lim : Int) < n ∧ n < lim
      · have e1 := lim_eq
        refine ⟨n, rfl, by omega, by omega, h1.ok (st' := st1) (d := .items (rangeL 0 n)) (by show (if -(lim : Int) < n ∧ n < lim then MI.ret (Src.items (rangeL 0 n)) else MI.fail) st1 = _; rw [if_pos hb]; rfl) .refl A1 ?_⟩
        have := src_range (K := X.K) (cl := cl) (ρ0 := ρ1) (H0 := H1) (lo := 0) (hi := n)
        simpa using this
      · exact h1.none (by show (if -(lim : Int) < n ∧ n < lim then MI.ret (Src.items (rangeL 0 n)) else MI.fail) st1 = _; rw [if_neg hb]; rfl)
    | _ => exact h1.none rfl
theorem mi_range2 {tg : Expr} {p : Pos} (hg : Gl X "range") (hm : X.mg "range" = none) (ha : ME X cl E c a ga) (hb : ME X cl E c b gb) (hs : starEach [a, b] X.env = [(false, eval a X.env), (false, eval b X.env)] := by rfl) (hs2 : starEach [b] X.env = [(false, eval b X.env)] := by rfl) : MI_ X cl E c tg (.Call (.Name "range" p) [a, b] [] pos) (iRange2 ga gb) :=
  piI (pi_range2 (ta := tCons (TM X.K cl E (rV X.K) (ga c)) (tCons (TM X.K cl E (rV X.K) (gb c)) tNil)) hg hm (pa_cons ha (pa_cons hb pa_nil hs2) (by rw [hs, hs2])) hs hs2) fun σ H R ⟨ρ, env, st, A, e, h⟩ => by
    refine (Rest.step (g := ga c) (rV X.K) A e h).imp fun v1 H1 ⟨ρ1, st1, d1, g1, A1, r1, h1⟩ => ?_
    refine (Rest.step (g := gb c) (rV X.K) A1 (e.grow A g1) h1).imp fun v2 H2 ⟨ρ2, st2, d2, g2, A2, r2, h2⟩ => ?_
    cases r1 with
    | int m =>
      cases r2 with
      | int n =>
        have e1 := lim_eq
        by_cases hb : -(lim : Int) < m ∧ m < lim ∧ -(lim : Int) < n ∧ n < lim
        · refine ⟨m, n, rfl, by omega, h2.ok (st' := st2) (d := .items (rangeL m n)) (by show (if -(lim : Int) < m ∧ m < lim ∧ -(lim : Int) < n ∧ n < lim then MI.ret (Src.items (rangeL m n)) else MI.fail) st2 = _; rw [if_pos hb]; rfl) .refl A2 src_range⟩
        · exact h2.none (by show (if -(lim : Int) < m ∧ m < lim ∧ -(lim : Int) < n ∧ n < lim then MI.ret (Src.items (rangeL m n)) else MI.fail) st2 = _; rw [if_neg hb]; rfl)
      | _ => exact h2.none rfl
    | _ => exact h2.none (by cases r2 <;> rfl)
theorem everyOther_get {α : Type} : ∀ (l : List α) (i : Nat), (everyOther l)[i]? = l[2 * i]?
  | [], _ => rfl
  | [x], 0 => rfl
  | [x], i + 1 => by simp [everyOther]
  | x :: y :: r, 0 => rfl
  | x :: y :: r, i + 1 => by
    have e : 2 * (i + 1) = (2 * i + 1) + 1 := by omega
    rw [e]
    simp only [everyOther, List.getElem?_cons_succ]
    exact everyOther_get r i
theorem mi_range3 {tg : Expr} {p p1 p2 : Pos} {j1 j2 : Nat} (hg : Gl X "range") (hm : X.mg "range" = none) (ha : ME X cl E c a ga)
    (hs : starEach [Expr.Constant (.int 0) j1 p1, a, .Constant (.int 2) j2 p2] X.env = (false, eval (Expr.Constant (.int 0) j1 p1) X.env) :: starEach [a, .Constant (.int 2) j2 p2] X.env := by rfl)
    (hs2 : starEach [a, Expr.Constant (.int 2) j2 p2] X.env = (false, eval a X.env) :: starEach [Expr.Constant (.int 2) j2 p2] X.env := by rfl)
    (hs3 : starEach [Expr.Constant (.int 2) j2 p2] X.env = (false, eval (Expr.Constant (.int 2) j2 p2) X.env) :: starEach [] X.env := by rfl) (hpl : (backTo pos (starEach [a, Expr.Constant (.int 2) j2 p2] X.env)).any (·.1) = false := by rfl) :
    MI_ X cl E c tg (.Call (.Name "range" p) [.Constant (.int 0) j1 p1, a, .Constant (.int 2) j2 p2] [] pos) (iRange3 ga) :=
  piI (pi_range3 (ta := tCons (tC (.int 0)) (tCons (TM X.K cl E (rV X.K) (ga c)) (tCons (tC (.int 2)) tNil))) hg hm (pa_cons pe_int (pa_cons ha (pa_cons pe_int pa_nil hs3) hs2) hs) hs hpl) fun σ H R ⟨ρ, env, st, A, e, h⟩ => by
    show TM X.K cl E (rV X.K) (ga c) σ H _
    refine (Rest.step (g := ga c) (rV X.K) A e h).imp fun v1 H1 ⟨ρ1, st1, d1, g1, A1, r1, h1⟩ => ?_
    cases r1 with
    | int n =>
      have e1 := lim_eq
      by_cases hb : -(lim : Int) < n ∧ n < lim
      · have hsz : Builtin.Range.rangeSize 0 n 2 = (((n + 1) / 2).toNat : Nat) := by
          unfold Builtin.Range.rangeSize
          simp only [show (2 : Int) > 0 by decide, if_true]
          split <;> omega
        refine ⟨0, n, 2, ((n + 1) / 2).toNat, rfl, ⟨by decide, by decide, ?_, hsz⟩, h1.ok (st' := st1) (d := .items (everyOther (rangeL 0 n))) (by show (if -(lim : Int) < n ∧ n < lim then MI.ret (Src.items (everyOther (rangeL 0 n))) else MI.fail) st1 = _; rw [if_pos hb]; rfl) .refl A1 ?_⟩
        · unfold Builtin.Range.small
          rw [hsz]
          simp only [Builtin.Range.rangeFitsLong, Bool.and_eq_true, Bool.or_eq_true, decide_eq_true_eq, beq_iff_eq, show (2 : Int) > 0 by decide, if_true]
          omega
        · refine ⟨fun ρ H st i d g A h => ?_, fun ρ H st i g A h => ?_⟩
          · have h' := Option.some.inj h
            rw [everyOther_get, rangeL_get] at h'
            by_cases hi' : 2 * i < (n - 0).toNat
            · rw [if_pos hi'] at h'
              cases h'
              refine ⟨(show i < ((n + 1) / 2).toNat by omega), fun x H' y => ?_⟩
              obtain ⟨rfl, rfl⟩ := y
              refine ⟨ρ, .refl, A, ?_⟩
              have : (0 : Int) + (2 * i : Nat) = 0 + (i : Nat) * 2 := by omega
              rw [this]; exact .int _
            · rw [if_neg hi'] at h'; cases h'
          · have h' := Option.some.inj h
            rw [everyOther_get, rangeL_get] at h'
            by_cases hi' : 2 * i < (n - 0).toNat
            · rw [if_pos hi'] at h'; cases h'
            · show ((n + 1) / 2).toNat ≤ i
              omega
      · exact h1.none (by show (if -(lim : Int) < n ∧ n < lim then MI.ret (Src.items (everyOther (rangeL 0 n))) else MI.fail) st1 = _; rw [if_neg hb]; rfl)
    | _ => exact h1.none rfl

/-! ### list(range(..)), tuple(range(..)) -/
theorem rg_rel {K : PySem.W.Frag} {H : Hp} {ρ : List Addr} (lo hi : Int) : RvL K H ρ (rgV lo hi) (rangeL lo hi) := by
  unfold rgV rangeL
  generalize List.range (hi - lo).toNat = l
  induction l with
  | nil => exact .nil
  | cons x xs ih => exact .cons (.int _) ih
theorem rangeL_length (lo hi : Int) : (rangeL lo hi).length = (hi - lo).toNat := by unfold rangeL; simp
theorem bnd_assoc {α β γ : Type} (x : MI.R α) (f : α → MI.R β) (g : β → MI.R γ) : bnd (bnd x f) g = bnd x fun a => bnd (f a) g := by
  funext st
  unfold bnd
  cases x st with
  | none => rfl
  | some p =>
    obtain ⟨rs, st1⟩ := p
    cases rs <;> rfl
theorem tm_rg1 {σ : L2.St} {H : Hp} {Q : VK} {k : Src → MI.R D} (h : TM X.K cl E (rV X.K) (fun env => bnd (iRange1 ga c env) k) σ H Q) :
    tRg1 (TM X.K cl E (rV X.K) (ga c)) σ H fun lo hi H1 => (-(lim : Int) < lo ∧ lo < lim ∧ -(lim : Int) < hi ∧ hi < lim) ∧ ∃ ρ1 st1, At X.K cl ρ1 H1 st1 ∧ Rest X.K cl E (rV X.K) σ Q (k (.items (rangeL lo hi))) ρ1 H1 st1 := by
  obtain ⟨ρ, env, st, A, e, h⟩ := h
  have h' : Rest X.K cl E (rV X.K) σ Q (bnd (ga c env) fun x => bnd (match x with | .int n => if -(lim : Int) < n ∧ n < lim then MI.ret (Src.items (rangeL 0 n)) else MI.fail | _ => MI.fail) k) ρ H st := by
    rw [← bnd_assoc]; exact h
  refine (Rest.step (g := ga c) (rV X.K) A e h').imp fun v1 H1 ⟨ρ1, st1, d1, g1, A1, r1, h1⟩ => ?_
  cases r1 with
  | int n =>
    by_cases hb : -(lim : Int) < n ∧ n < lim
    · refine ⟨n, rfl, ⟨by decide, by decide, hb.1, hb.2⟩, ρ1, st1, A1, h1.eq ?_⟩
      show bnd (if -(lim : Int) < n ∧ n < lim then MI.ret (Src.items (rangeL 0 n)) else MI.fail) k st1 = _
      rw [if_pos hb]; rfl
    · refine h1.none ?_
      show bnd (if -(lim : Int) < n ∧ n < lim then MI.ret (Src.items (rangeL 0 n)) else MI.fail) k st1 = _
      rw [if_neg hb]; rfl
  | _ => exact h1.none rfl
theorem tm_rg2 {σ : L2.St} {H : Hp} {Q : VK} {k : Src → MI.R D} (h : TM X.K cl E (rV X.K) (fun env => bnd (iRange2 ga gb c env) k) σ H Q) :
    tRg2 (TM X.K cl E (rV X.K) (ga c)) (TM X.K cl E (rV X.K) (gb c)) σ H fun lo hi H1 => (-(lim : Int) < lo ∧ lo < lim ∧ -(lim : Int) < hi ∧ hi < lim) ∧ ∃ ρ1 st1, At X.K cl ρ1 H1 st1 ∧ Rest X.K cl E (rV X.K) σ Q (k (.items (rangeL lo hi))) ρ1 H1 st1 := by
  obtain ⟨ρ, env, st, A, e, h⟩ := h
  have h' : Rest X.K cl E (rV X.K) σ Q (bnd (ga c env) fun x => bnd (gb c env) fun y => bnd (match x, y with | .int m, .int n => if -(lim : Int) < m ∧ m < lim ∧ -(lim : Int) < n ∧ n < lim then MI.ret (Src.items (rangeL m n)) else MI.fail | _, _ => MI.fail) k) ρ H st := by
    have h2 : Rest X.K cl E (rV X.K) σ Q (bnd (bnd (ga c env) fun x => bnd (gb c env) fun y => match x, y with | .int m, .int n => if -(lim : Int) < m ∧ m < lim ∧ -(lim : Int) < n ∧ n < lim then MI.ret (Src.items (rangeL m n)) else MI.fail | _, _ => MI.fail) k) ρ H st := h
    rw [bnd_assoc] at h2
    have e3 : ∀ (x : D), bnd (bnd (gb c env) fun y => match x, y with | .int m, .int n => if -(lim : Int) < m ∧ m < lim ∧ -(lim : Int) < n ∧ n < lim then MI.ret (Src.items (rangeL m n)) else MI.fail | _, _ => MI.fail) k = bnd (gb c env) fun y => bnd (match x, y with | .int m, .int n => if -(lim : Int) < m ∧ m < lim ∧ -(lim : Int) < n ∧ n < lim then MI.ret (Src.items (rangeL m n)) else MI.fail | _, _ => MI.fail) k := fun x => bnd_assoc _ _ _
    simp only [e3] at h2
    exact h2
  refine (Rest.step (g := ga c) (rV X.K) A e h').imp fun v1 H1 ⟨ρ1, st1, d1, g1, A1, r1, h1⟩ => ?_
  refine (Rest.step (g := gb c) (rV X.K) A1 (e.grow A g1) h1).imp fun v2 H2 ⟨ρ2, st2, d2, g2, A2, r2, h2⟩ => ?_
  cases r1 with
  | int m =>
    cases r2 with
    | int n =>
      by_cases hb : -(lim : Int) < m ∧ m < lim ∧ -(lim : Int) < n ∧ n < lim
      · refine ⟨m, n, rfl, rfl, hb, ρ2, st2, A2, h2.eq ?_⟩
        show bnd (if -(lim : Int) < m ∧ m < lim ∧ -(lim : Int) < n ∧ n < lim then MI.ret (Src.items (rangeL m n)) else MI.fail) k st2 = _
        rw [if_pos hb]; rfl
      · refine h2.none ?_
        show bnd (if -(lim : Int) < m ∧ m < lim ∧ -(lim : Int) < n ∧ n < lim then MI.ret (Src.items (rangeL m n)) else MI.fail) k st2 = _
        rw [if_neg hb]; rfl
    | _ => exact h2.none rfl
  | _ => exact h2.none (by cases r2 <;> rfl)
theorem rgok {lo hi : Int} (h : -(lim : Int) < lo ∧ lo < lim ∧ -(lim : Int) < hi ∧ hi < lim) (hl : (rangeL lo hi).length < lim) : RgOk lo hi := by
  have e1 := lim_eq
  rw [rangeL_length] at hl
  have e2 : lim = 16777216 := rfl
  exact ⟨by omega, by omega, by omega, by omega, by omega⟩
theorem end_lstRg {σ : L2.St} {Q : VK} {lo hi : Int} {ρ : List Addr} {H : Hp} {st : Stt} (hb : -(lim : Int) < lo ∧ lo < lim ∧ -(lim : Int) < hi ∧ hi < lim) (A : At X.K cl ρ H st)
    (h : Rest X.K cl E (rV X.K) σ Q (if (rangeL lo hi).length < lim then MI.new (.lst (rangeL lo hi)) else MI.fail) ρ H st) : RgOk lo hi ∧ ∀ q, H q = none → Q (.ref q) (upd H q (.lst (rgV lo hi))) := by
  by_cases hl : (rangeL lo hi).length < lim
  · rw [if_pos hl] at h
    exact ⟨rgok hb hl, fun q n => rest_lst A (rg_rel lo hi) h rfl q n⟩
  · rw [if_neg hl] at h; exact h.none rfl
theorem end_lstRgF {σ : L2.St} {Q : VK} {lo hi : Int} {ρ : List Addr} {H : Hp} {st : Stt} (hb : -(lim : Int) < lo ∧ lo < lim ∧ -(lim : Int) < hi ∧ hi < lim) (A : At X.K cl ρ H st)
    (h : Rest X.K cl E (rV X.K) σ Q (if (rangeL lo hi).length < lim then MI.ret (.frz (rangeL lo hi)) else MI.fail) ρ H st) : RgOk lo hi ∧ ∀ q, H q = none → fz Q (.ref q) (upd H q (.lst (rgV lo hi))) := by
  by_cases hl : (rangeL lo hi).length < lim
  · rw [if_pos hl] at h
    exact ⟨rgok hb hl, fun q n => rest_frz A (rg_rel lo hi) h rfl q n⟩
  · rw [if_neg hl] at h; exact h.none rfl
theorem end_tupRg {σ : L2.St} {Q : VK} {lo hi : Int} {ρ : List Addr} {H : Hp} {st : Stt} (hb : -(lim : Int) < lo ∧ lo < lim ∧ -(lim : Int) < hi ∧ hi < lim) (A : At X.K cl ρ H st)
    (h : Rest X.K cl E (rV X.K) σ Q (if (rangeL lo hi).length < lim then MI.ret (.tup (rangeL lo hi)) else MI.fail) ρ H st) : RgOk lo hi ∧ ∀ q, H q = none → Q (.ref q) (upd H q (.tup (rgV lo hi))) := by
  by_cases hl : (rangeL lo hi).length < lim
  · rw [if_pos hl] at h
    exact ⟨rgok hb hl, fun q n => rest_tup A (rg_rel lo hi) h rfl q n⟩
  · rw [if_neg hl] at h; exact h.none rfl
end
section
variable {X : Cx} {cl : Nat → Addr} {E : EX} {c : MI.Ctx} {a b e : Expr} {ga gb ge : SE} {pos p q qos : Pos}
theorem prgI {e : Expr} {t t' : L2.St → Hp → (Int → Int → Hp → Prop) → Prop} (h : PRg X e t) : PRg X e t := h
theorem me_lstRg1 (hc : X.calm = true) (hg : Gl X "list") (hm : X.mg "list" = none) (hg' : Gl X "range") (hm' : X.mg "range" = none) (ha : ME X cl E c a ga) (na : starEach [a] X.env = (false, eval a X.env) :: starEach [] X.env := by rfl)
    (nb : starEach [Expr.Call (.Name "range" q) [a] [] qos] X.env = (false, eval (Expr.Call (.Name "range" q) [a] [] qos) X.env) :: starEach [] X.env := by rfl) : ME X cl E c (.Call (.Name "list" p) [.Call (.Name "range" q) [a] [] qos] [] pos) (eListOf (iRange1 ga)) :=
  peI (pe_listRg hc hg hm (prg_1 hg' hm' ha na) nb) fun σ H Q h => by
    obtain ⟨ρ, env, st, A, e, h⟩ := tm_rg1 h
    exact ⟨ρ, env, st, A, e, h.imp fun v1 H1 ⟨n, e1, hb, ρ1, st1, A1, h1⟩ => ⟨n, e1, end_lstRg hb A1 h1⟩⟩
theorem me_lstRg2 (hc : X.calm = true) (hg : Gl X "list") (hm : X.mg "list" = none) (hg' : Gl X "range") (hm' : X.mg "range" = none) (ha : ME X cl E c a ga) (hb : ME X cl E c b gb) (na : starEach [a, b] X.env = (false, eval a X.env) :: starEach [b] X.env := by rfl) (na2 : starEach [b] X.env = (false, eval b X.env) :: starEach [] X.env := by rfl)
    (hpl : (backTo qos (starEach [b] X.env)).any (·.1) = false := by rfl) (nb : starEach [Expr.Call (.Name "range" q) [a, b] [] qos] X.env = (false, eval (Expr.Call (.Name "range" q) [a, b] [] qos) X.env) :: starEach [] X.env := by rfl) : ME X cl E c (.Call (.Name "list" p) [.Call (.Name "range" q) [a, b] [] qos] [] pos) (eListOf (iRange2 ga gb)) :=
  peI (pe_listRg hc hg hm (prg_2 hg' hm' ha hb na na2 hpl) nb) fun σ H Q h => by
    obtain ⟨ρ, env, st, A, e, h⟩ := tm_rg2 h
    exact ⟨ρ, env, st, A, e, h.imp fun v1 H1 h1 => h1.imp fun v2 H2 ⟨m, n, e1, e2, hb, ρ1, st1, A1, h1⟩ => ⟨m, n, e1, e2, end_lstRg hb A1 h1⟩⟩
theorem me_lstRgF1 (hc : X.calm = true) (hg : Gl X "list") (hm : X.mg "list" = none) (hg' : Gl X "range") (hm' : X.mg "range" = none) (ha : ME X cl E c a ga) (na : starEach [a] X.env = (false, eval a X.env) :: starEach [] X.env := by rfl)
    (nb : starEach [Expr.Call (.Name "range" q) [a] [] qos] X.env = (false, eval (Expr.Call (.Name "range" q) [a] [] qos) X.env) :: starEach [] X.env := by rfl) : ME X cl E c (.Call (.Name "list" p) [.Call (.Name "range" q) [a] [] qos] [] pos) (eListOfF (iRange1 ga)) :=
  peI (pe_fz (pe_listRg hc hg hm (prg_1 hg' hm' ha na) nb)) fun σ H Q h => by
    obtain ⟨ρ, env, st, A, e, h⟩ := tm_rg1 h
    exact ⟨ρ, env, st, A, e, h.imp fun v1 H1 ⟨n, e1, hb, ρ1, st1, A1, h1⟩ => ⟨n, e1, end_lstRgF hb A1 h1⟩⟩
theorem me_lstRgF2 (hc : X.calm = true) (hg : Gl X "list") (hm : X.mg "list" = none) (hg' : Gl X "range") (hm' : X.mg "range" = none) (ha : ME X cl E c a ga) (hb : ME X cl E c b gb) (na : starEach [a, b] X.env = (false, eval a X.env) :: starEach [b] X.env := by rfl) (na2 : starEach [b] X.env = (false, eval b X.env) :: starEach [] X.env := by rfl)
    (hpl : (backTo qos (starEach [b] X.env)).any (·.1) = false := by rfl) (nb : starEach [Expr.Call (.Name "range" q) [a, b] [] qos] X.env = (false, eval (Expr.Call (.Name "range" q) [a, b] [] qos) X.env) :: starEach [] X.env := by rfl) : ME X cl E c (.Call (.Name "list" p) [.Call (.Name "range" q) [a, b] [] qos] [] pos) (eListOfF (iRange2 ga gb)) :=
  peI (pe_fz (pe_listRg hc hg hm (prg_2 hg' hm' ha hb na na2 hpl) nb)) fun σ H Q h => by
    obtain ⟨ρ, env, st, A, e, h⟩ := tm_rg2 h
    exact ⟨ρ, env, st, A, e, h.imp fun v1 H1 h1 => h1.imp fun v2 H2 ⟨m, n, e1, e2, hb, ρ1, st1, A1, h1⟩ => ⟨m, n, e1, e2, end_lstRgF hb A1 h1⟩⟩
theorem me_tupRg1 (hc : X.calm = true) (hg : Gl X "tuple") (hm : X.mg "tuple" = none) (hg' : Gl X "range") (hm' : X.mg "range" = none) (ha : ME X cl E c a ga) (na : starEach [a] X.env = (false, eval a X.env) :: starEach [] X.env := by rfl)
    (nb : starEach [Expr.Call (.Name "range" q) [a] [] qos] X.env = (false, eval (Expr.Call (.Name "range" q) [a] [] qos) X.env) :: starEach [] X.env := by rfl) : ME X cl E c (.Call (.Name "tuple" p) [.Call (.Name "range" q) [a] [] qos] [] pos) (eTupleOf (iRange1 ga)) :=
  peI (pe_tupRg hc hg hm (prg_1 hg' hm' ha na) nb) fun σ H Q h => by
    obtain ⟨ρ, env, st, A, e, h⟩ := tm_rg1 h
    exact ⟨ρ, env, st, A, e, h.imp fun v1 H1 ⟨n, e1, hb, ρ1, st1, A1, h1⟩ => ⟨n, e1, end_tupRg hb A1 h1⟩⟩
theorem me_tupRg2 (hc : X.calm = true) (hg : Gl X "tuple") (hm : X.mg "tuple" = none) (hg' : Gl X "range") (hm' : X.mg "range" = none) (ha : ME X cl E c a ga) (hb : ME X cl E c b gb) (na : starEach [a, b] X.env = (false, eval a X.env) :: starEach [b] X.env := by rfl) (na2 : starEach [b] X.env = (false, eval b X.env) :: starEach [] X.env := by rfl)
    (hpl : (backTo qos (starEach [b] X.env)).any (·.1) = false := by rfl) (nb : starEach [Expr.Call (.Name "range" q) [a, b] [] qos] X.env = (false, eval (Expr.Call (.Name "range" q) [a, b] [] qos) X.env) :: starEach [] X.env := by rfl) : ME X cl E c (.Call (.Name "tuple" p) [.Call (.Name "range" q) [a, b] [] qos] [] pos) (eTupleOf (iRange2 ga gb)) :=
  peI (pe_tupRg hc hg hm (prg_2 hg' hm' ha hb na na2 hpl) nb) fun σ H Q h => by
    obtain ⟨ρ, env, st, A, e, h⟩ := tm_rg2 h
    exact ⟨ρ, env, st, A, e, h.imp fun v1 H1 h1 => h1.imp fun v2 H2 ⟨m, n, e1, e2, hb, ρ1, st1, A1, h1⟩ => ⟨m, n, e1, e2, end_tupRg hb A1 h1⟩⟩

/-! ### enumerate -/
theorem enumD_get : ∀ (l : List D) (k i : Nat), (enumD k l)[i]? = l[i]?.map fun x => D.tup [.int ((k + i : Nat) : Int), x]
  | [], _, _ => rfl
  | x :: r, k, 0 => rfl
  | x :: r, k, i + 1 => by
    simp only [enumD, List.getElem?_cons_succ]
    rw [enumD_get r (k + 1) i]
    have : k + 1 + i = k + (i + 1) := by omega
    rw [this]
theorem mi_enum {elts : List Expr} {kk : Nat} {tpos : Pos} (hg : Gl X "enumerate") (hm : X.mg "enumerate" = none) (ha : ME X cl E c a ga) (hs : starEach [a] X.env = [(false, eval a X.env)] := by rfl) : MI_ X cl E c (.Tuple elts kk tpos) (.Call (.Name "enumerate" p) [a] [] pos) (MI.iEnum ga) :=
  piI (pi_enumA (ta := tCons (TM X.K cl E (rV X.K) (ga c)) tNil) hg hm (pa_cons ha pa_nil hs) hs) fun σ H R ⟨ρ, env, st, A, e, h⟩ => by
    refine (Rest.step (g := ga c) (rV X.K) A e h).imp fun v1 H1 ⟨ρ1, st1, d1, g1, A1, r1, h1⟩ => ?_
    cases r1 with
    | @tup p vs l hs r =>
      by_cases hl : l.length < lim
      · refine ⟨p, rfl, .inr ⟨⟨vs, hs⟩, h1.ok (st' := st1) (d := .items (enumD 0 l)) (by simp [hl]) .refl A1 ⟨fun ρ H st i d g A h => ?_, fun ρ H st i g A h => ?_⟩⟩⟩
        · have s1 := (A1.keep g).t _ _ hs
          have h' := Option.some.inj h
          rw [enumD_get] at h'
          obtain ⟨y, hy, rfl⟩ := Option.map_eq_some_iff.mp h'
          obtain ⟨v, hv, rv⟩ := (r.grow A1 g).get hy
          refine ⟨⟨vs, v, s1, hv⟩, fun x H' z => ?_⟩
          obtain ⟨T, x1, rfl, hn, rfl, z⟩ := z
          have := z vs s1
          rw [hv] at this; cases this
          obtain ⟨A', g'⟩ := A.side (o := .tup [.int (i : Nat), v]) hn
          refine ⟨ρ, g', A', .tup (SqT.of upd_same) (.cons ?_ (.cons (rv.grow A g') .nil))⟩
          rw [Nat.zero_add]; exact .int _
        · refine ⟨vs, (A1.keep g).t _ _ hs, ?_⟩
          have h' := Option.some.inj h
          rw [enumD_get] at h'
          rw [r.length]
          exact List.getElem?_eq_none_iff.mp (Option.map_eq_none_iff.mp h')
      · exact h1.none (by simp [hl])
    | @frz p vs l hs r =>
      by_cases hl : l.length < lim
      · refine ⟨p, rfl, .inl ⟨⟨vs, hs.seq⟩, h1.ok (st' := st1) (d := .items (enumD 0 l)) (by simp [hl]) .refl A1 ⟨fun ρ H st i d g A h => ?_, fun ρ H st i g A h => ?_⟩⟩⟩
        · have s1 := ((A1.keep g).f _ _ hs).seq
          have h' := Option.some.inj h
          rw [enumD_get] at h'
          obtain ⟨y, hy, rfl⟩ := Option.map_eq_some_iff.mp h'
          obtain ⟨v, hv, rv⟩ := (r.grow A1 g).get hy
          refine ⟨⟨vs, v, s1, hv⟩, fun x H' z => ?_⟩
          obtain ⟨T, x1, rfl, hn, rfl, z⟩ := z
          have := z vs s1
          rw [hv] at this; cases this
          obtain ⟨A', g'⟩ := A.side (o := .tup [.int (i : Nat), v]) hn
          refine ⟨ρ, g', A', .tup (SqT.of upd_same) (.cons ?_ (.cons (rv.grow A g') .nil))⟩
          rw [Nat.zero_add]; exact .int _
        · refine ⟨vs, ((A1.keep g).f _ _ hs).seq, ?_⟩
          have h' := Option.some.inj h
          rw [enumD_get] at h'
          rw [r.length]
          exact List.getElem?_eq_none_iff.mp (Option.map_eq_none_iff.mp h')
      · exact h1.none (by simp [hl])
    | @loc p n hp =>
      cases e1 : st1[n]? with
      | none => exact h1.none (by simp [e1])
      | some o =>
        have q1 := A1.get hp e1
        cases q1 with
        | @lst vs l z r =>
          refine ⟨p, rfl, .inl ⟨⟨vs, SqL.of z⟩, h1.ok (st' := st1) (d := .liveE n) (by simp [e1]) .refl A1 ?_⟩⟩
          have at_ : ∀ {ρ H st}, Grow ρ1 H1 ρ H → At X.K cl ρ H st → ∀ {l}, st[n]? = some (.lst l) → ∃ vs, H p = some (.lst vs) ∧ RvL X.K H ρ vs l := fun {ρ H st} g A {l} e1 => by
            have hp' : ρ[n]? = some p := by obtain ⟨x, rfl⟩ := g.ext; exact getElem?_app hp
            have q1 := A.get hp' e1
            cases q1 with
            | lst z r => exact ⟨_, z, r⟩
          refine ⟨fun ρ H st i d g A h => ?_, fun ρ H st i g A h => ?_⟩
          · unfold srcAt at h
            cases e2 : st[n]? with
            | none => simp only [e2] at h; cases h
            | some o =>
              cases o with
              | lst l =>
                simp only [e2] at h
                obtain ⟨vs, z, r⟩ := at_ g A e2
                obtain ⟨y, hy, rfl⟩ := Option.map_eq_some_iff.mp (Option.some.inj h)
                obtain ⟨v, hv, rv⟩ := r.get hy
                refine ⟨⟨vs, v, SqL.of z, hv⟩, fun x H' w => ?_⟩
                obtain ⟨T, x1, rfl, hn, rfl, w⟩ := w
                have := w vs (SqL.of z)
                rw [hv] at this; cases this
                obtain ⟨A', g'⟩ := A.side (o := .tup [.int (i : Nat), v]) hn
                exact ⟨ρ, g', A', .tup (SqT.of upd_same) (.cons (.int _) (.cons (rv.grow A g') .nil))⟩
              | _ => simp only [e2] at h; cases h
          · unfold srcAt at h
            cases e2 : st[n]? with
            | none => simp only [e2] at h; cases h
            | some o =>
              cases o with
              | lst l =>
                simp only [e2] at h
                obtain ⟨vs, z, r⟩ := at_ g A e2
                refine ⟨vs, SqL.of z, ?_⟩
                rw [r.length]
                exact List.getElem?_eq_none_iff.mp (Option.map_eq_none_iff.mp (Option.some.inj h))
              | _ => simp only [e2] at h; cases h
        | _ => exact h1.none (by simp [e1])
    | _ => exact h1.none rfl
end
end MS

set_option Elab.async false
set_option linter.all false
set_option maxRecDepth 100000
set_option maxHeartbeats 4000000
/-! MSR6: rules of our own: zip(t, u, strict=True) of two tuples. -/
namespace PySem
open Sem (wp)
open AutoSeq1 (wpAny_loadPart')
namespace F
theorem typeCall_zip_strict (a b c : Value) : checkTypeCall "zip" ⟨[a, b], [(Str.ofString "strict", c)]⟩ = pure () := by kernel_rfl
theorem newCall_zip_strict (a b c : Value) : checkBuiltinCall "zip.__new__" ⟨[.type "zip", a, b], [(Str.ofString "strict", c)]⟩ = pure () := by kernel_rfl
theorem args_object_init_strict (obj a b c : Value) : argsOk "object.__init__" ⟨[obj, a, b], [(Str.ofString "strict", c)]⟩ := by unfold argsOk; kernel_rfl
end F
theorem wpAny_iteNo {M : Model} {A : Around} {E : Value → Shared → Prop} {s : Shared} {α : Type} {c : Prop} [Decidable c] {t e : Sem α} {Q : α → Shared → Prop} (h : ¬ c) (k : wpAny M A e Q E s) : wpAny M A (if c then t else e) Q E s := by
  rw [if_neg h]; exact k
abbrev IsZipS (h : Heap) (z TI TO : Addr) (f0 : Value) : Prop :=
  h.get? z = some { cls := .type "zip", dict := none, data := .fields #[f0, .bool false, .bool true, .ref TI, .ref TO], slots := #[] }
section
variable {prog : Program} {w : World} {A : Around} {E : Value → Shared → Prop} {s : Shared}
theorem zipS_next_item {z TI TO i1 i2 l1 l2 : Addr} {k1 k2 : Nat} {xs ys : Array Value} {x y a b : Value} {Q : Value → Shared → Prop} (D : ZipApart z TI TO i1 i2 l1 l2)
    (hz : IsZipS s.heap z TI TO .none) (hTI : IsPair s.heap TI (.ref i1) (.ref i2)) (hTO : IsPair s.heap TO a b)
    (h1 : s.heap.IsTupleIter i1 l1 k1) (h2 : s.heap.IsTupleIter i2 l2 k2) (hl1 : s.heap.IsTuple l1 xs) (hl2 : s.heap.IsTuple l2 ys) (hx : xs[k1]? = some x) (hy : ys[k2]? = some y)
    (hQ : ∀ h', IsZipS h' z TI TO (rawInt s.heap.objs.size) → IsPair h' TO x y → h'.IsTupleIter i1 l1 (k1 + 1) → h'.IsTupleIter i2 l2 (k2 + 1) → IsPair h' s.heap.objs.size x y → h'.objs.size = s.heap.objs.size + 1 →
      (∀ c o, c ≠ z → c ≠ TO → c ≠ i1 → c ≠ i2 → s.heap.get? c = some o → h'.get? c = some o) → Q (.ref s.heap.objs.size) { s with heap := h' }) :
    wpAny (model prog w) A (Builtin.«zip.__next__» ⟨[.ref z], []⟩) (fun fin s' => ∃ v, fin = .done (.ret v) ∧ Q v s') E s := by
  show wpAny _ _ (field (.ref z) 2 >>= _) _ _ _
  refine wpAny_bind (wpAny_field hz rfl (x := .bool true) rfl ?_)
  show wpAny _ _ (field (.ref z) 3 >>= _) _ _ _
  refine wpAny_bind (wpAny_field hz rfl (x := .ref TI) rfl ?_)
  refine wpAny_bind (wpAny_seqItems hTI rfl ?_)
  show wpAny _ _ (Builtin.SmallTypes.ownedTupleIsFree (.ref z) >>= _) _ _ _
  refine wpAny_bind ?_
  unfold Builtin.SmallTypes.ownedTupleIsFree
  refine wpAny_bind (wpAny_field hz rfl (x := .none) rfl (wpAny_pure ?_))
  simp only [if_true]
  refine wpAny_bind (wpAny_rule ?_)
  refine wpAny_bind (wpAny_field hz rfl (x := .ref TO) rfl ?_)
  refine wpAny_bind (wpAny_setField_rec hz (by simp) fun h₁ hz₁ hs₁ => ?_)
  replace hz₁ : IsZipS h₁ z TI TO .ellipsis := hz₁
  refine wpAny_bind ?_
  simp only [List.zipIdx_cons, List.zipIdx_nil, List.forIn_cons, List.forIn_nil]

  refine wpAny_bind (wpAny_bind (wpAny_onRaise ?_))
  show wpAny _ _ (Builtin.SmallTypes.nextOrEnd (.ref i1)) _ _ _
  unfold Builtin.SmallTypes.nextOrEnd
  refine wpAny_bind (wpAny_attempt (wpAny_nextOf_tuple_item (h1.extBut hs₁.extBut D.i1z) (hl1.extBut hs₁.extBut D.l1z) hx fun h₂ h1₂ hs₂ => wpAny_pure ?_))
  have hTO₂ : IsPair h₂ TO a b := hs₂.extBut _ _ D.TOi1 (hs₁.extBut _ _ D.TOz hTO)
  refine wpAny_bind (wpAny_seqItems hTO₂ rfl ?_)
  refine wpAny_bind (wpAny_updateSeq_pair hTO₂ fun h₃ hTO₃ hs₃ => ?_)
  replace hTO₃ : IsPair h₃ TO x b := hTO₃
  refine wpAny_bind (wpAny_letGo (wpAny_pure ?_))

  refine wpAny_bind (wpAny_bind (wpAny_onRaise ?_))
  show wpAny _ _ (Builtin.SmallTypes.nextOrEnd (.ref i2)) _ _ _
  unfold Builtin.SmallTypes.nextOrEnd
  refine wpAny_bind (wpAny_attempt (wpAny_nextOf_tuple_item (((h2.extBut hs₁.extBut D.i2z).extBut hs₂.extBut D.i12.symm).extBut hs₃.extBut D.TOi2.symm)
    (((hl2.extBut hs₁.extBut D.l2z).extBut hs₂.extBut D.l2i1).extBut hs₃.extBut D.l2TO) hy fun h₄ h2₄ hs₄ => wpAny_pure ?_))
  have hTO₄ : IsPair h₄ TO x b := hs₄.extBut _ _ D.TOi2 hTO₃
  refine wpAny_bind (wpAny_seqItems hTO₄ rfl ?_)
  refine wpAny_bind (wpAny_updateSeq_pair hTO₄ fun h₅ hTO₅ hs₅ => ?_)
  replace hTO₅ : IsPair h₅ TO x y := hTO₅
  refine wpAny_bind (wpAny_letGo (wpAny_pure (wpAny_pure ?_)))

  refine wpAny_bind (wpAny_seqItems hTO₅ rfl ?_)
  refine wpAny_bind (wpAny_newTuple ?_)
  have hsz : h₅.objs.size = s.heap.objs.size := by rw [hs₅.1, hs₄.1, hs₃.1, hs₂.1, hs₁.1]
  have hz₅ : IsZipS h₅ z TI TO .ellipsis := hs₅.extBut _ _ D.TOz.symm (hs₄.extBut _ _ D.i2z.symm (hs₃.extBut _ _ D.TOz.symm (hs₂.extBut _ _ D.i1z.symm hz₁)))
  have hk₅ : ∀ c o, c ≠ z → c ≠ TO → c ≠ i1 → c ≠ i2 → s.heap.get? c = some o → h₅.get? c = some o := fun c o c1 c2 c3 c4 e =>
    hs₅.extBut _ _ c2 (hs₄.extBut _ _ c4 (hs₃.extBut _ _ c2 (hs₂.extBut _ _ c3 (hs₁.extBut _ _ c1 e))))
  have h1₅ : h₅.IsTupleIter i1 l1 (k1 + 1) := ((h1₂.extBut hs₃.extBut D.TOi1.symm).extBut hs₄.extBut D.i12).extBut hs₅.extBut D.TOi1.symm
  have h2₅ : h₅.IsTupleIter i2 l2 (k2 + 1) := h2₄.extBut hs₅.extBut D.TOi2.symm
  have hzlt : z < h₅.objs.size := Heap.lt_size hz₅
  have hTOlt : TO < h₅.objs.size := Heap.lt_size hTO₅
  have hi1lt : i1 < h₅.objs.size := by obtain ⟨_, e, _⟩ := h1₅; exact Heap.lt_size e
  have hi2lt : i2 < h₅.objs.size := by obtain ⟨_, e, _⟩ := h2₅; exact Heap.lt_size e
  show wpAny _ _ (Builtin.SmallTypes.ownedTupleHandOut (.ref z) (.ref h₅.objs.size) >>= _) _ _ _
  refine wpAny_bind ?_
  unfold Builtin.SmallTypes.ownedTupleHandOut
  have hz₆ : IsZipS (h₅.push { cls := .type "tuple", data := .seq #[x, y] }) z TI TO .ellipsis := Heap.get?_push_of_some _ hz₅
  refine wpAny_bind (wpAny_setField_rec hz₆ (by simp) fun h₇ hz₇ hs₇ => ?_)
  replace hz₇ : IsZipS h₇ z TI TO (rawInt h₅.objs.size) := hz₇
  refine wpAny_setField_rec hz₇ (by simp) fun h₈ hz₈ hs₈ => ?_
  replace hz₈ : IsZipS h₈ z TI TO (rawInt h₅.objs.size) := hz₈
  have up : ∀ c o, c ≠ z → h₅.get? c = some o → h₈.get? c = some o := fun c o c1 e => hs₈.extBut _ _ c1 (hs₇.extBut _ _ c1 (Heap.get?_push_of_some _ e))
  have hT₈ : IsPair h₈ h₅.objs.size x y := hs₈.extBut _ _ (Nat.ne_of_gt hzlt) (hs₇.extBut _ _ (Nat.ne_of_gt hzlt) (Heap.get?_push_size _ rfl))
  have hz8 : h₈.objs.size = h₅.objs.size + 1 := by rw [hs₈.1, hs₇.1, Heap.size_push]
  rw [hsz] at hz₈ hT₈ hz8
  refine wpAny_pure ⟨_, rfl, ?_⟩
  show Q (.ref h₅.objs.size) _
  rw [hsz]
  exact hQ h₈ hz₈ (up _ _ D.TOz hTO₅) (h1₅.at fun o e => up _ o D.i1z e) (h2₅.at fun o e => up _ o D.i2z e) hT₈ hz8 fun c o c1 c2 c3 c4 e => up c o c1 (hk₅ c o c1 c2 c3 c4 e)


theorem zipS_next_end {z TI TO i1 i2 l1 l2 : Addr} {k1 k2 : Nat} {xs ys : Array Value} {a b : Value} {Q : Fin → Shared → Prop} (hh : A.handled = none) (D : ZipApart z TI TO i1 i2 l1 l2)
    (hz : IsZipS s.heap z TI TO .none) (hTI : IsPair s.heap TI (.ref i1) (.ref i2)) (hTO : IsPair s.heap TO a b)
    (h1 : s.heap.IsTupleIter i1 l1 k1) (h2 : s.heap.IsTupleIter i2 l2 k2) (hl1 : s.heap.IsTuple l1 xs) (hl2 : s.heap.IsTuple l2 ys) (hx : xs[k1]? = none) (hy : ys[k2]? = none)
    (hE : ∀ h' e, (∀ c o, c ≠ z → c ≠ TO → c ≠ i1 → c ≠ i2 → s.heap.get? c = some o → h'.get? c = some o) → (∃ o, h'.get? e = some o ∧ o.cls = .type "StopIteration") → E (.ref e) { s with heap := h' }) :
    wpAny (model prog w) A (Builtin.«zip.__next__» ⟨[.ref z], []⟩) Q E s := by
  show wpAny _ _ (field (.ref z) 2 >>= _) _ _ _
  refine wpAny_bind (wpAny_field hz rfl (x := .bool true) rfl ?_)
  show wpAny _ _ (field (.ref z) 3 >>= _) _ _ _
  refine wpAny_bind (wpAny_field hz rfl (x := .ref TI) rfl ?_)
  refine wpAny_bind (wpAny_seqItems hTI rfl ?_)
  show wpAny _ _ (Builtin.SmallTypes.ownedTupleIsFree (.ref z) >>= _) _ _ _
  refine wpAny_bind ?_
  unfold Builtin.SmallTypes.ownedTupleIsFree
  refine wpAny_bind (wpAny_field hz rfl (x := .none) rfl (wpAny_pure ?_))
  simp only [if_true]
  refine wpAny_bind (wpAny_rule ?_)
  refine wpAny_bind (wpAny_field hz rfl (x := .ref TO) rfl ?_)
  refine wpAny_bind (wpAny_setField_rec hz (by simp) fun h₁ hz₁ hs₁ => ?_)
  replace hz₁ : IsZipS h₁ z TI TO .ellipsis := hz₁
  refine wpAny_bind ?_
  simp only [List.zipIdx_cons, List.zipIdx_nil, List.forIn_cons, List.forIn_nil]
  refine wpAny_bind (wpAny_bind (wpAny_onRaise ?_))
  show wpAny _ _ (Builtin.SmallTypes.nextOrEnd (.ref i1)) _ _ _
  unfold Builtin.SmallTypes.nextOrEnd
  refine wpAny_bind (wpAny_attempt (wpAny_nextOf_tuple_end hh (h1.extBut hs₁.extBut D.i1z) (hl1.extBut hs₁.extBut D.l1z) hx fun h₂ e hs₂ he => ?_))
  obtain ⟨oe, hoe, hce⟩ := he
  refine wpAny_bind (wpAny_isInstance (T := "StopIteration") (b := true) ⟨oe, hoe, hce⟩ isSubtype_stop ?_)
  refine wpAny_pure ?_
  have hz₂ : IsZipS h₂ z TI TO .ellipsis := hs₂ _ _ D.i1z.symm hz₁
  refine wpAny_bind (wpAny_setField_rec hz₂ (by simp) fun h₃ _ hs₃ => ?_)
  have h2₃ : h₃.IsTupleIter i2 l2 k2 := (h2.at fun o q => hs₁.extBut _ _ D.i2z q).at fun o q => hs₃.extBut _ _ D.i2z (hs₂ _ _ D.i12.symm q)
  have hl2₃ : h₃.IsTuple l2 ys := (hl2.at fun o q => hs₁.extBut _ _ D.l2z q).at fun o q => hs₃.extBut _ _ D.l2z (hs₂ _ _ D.l2i1 q)
  refine wpAny_bind ?_
  refine wpAny_bind ?_
  simp only [List.drop_succ_cons, List.drop_zero, List.zipIdx_cons, List.zipIdx_nil, List.forIn_cons, List.forIn_nil]
  refine wpAny_bind (wpAny_bind ?_)
  unfold Builtin.SmallTypes.nextOrEnd
  refine wpAny_bind (wpAny_attempt (wpAny_nextOf_tuple_end hh h2₃ hl2₃ hy fun h₄ e' hs₄ he' => ?_))
  obtain ⟨oe', hoe', hce'⟩ := he'
  refine wpAny_bind (wpAny_isInstance (T := "StopIteration") (b := true) ⟨oe', hoe', hce'⟩ isSubtype_stop ?_)
  refine wpAny_pure (wpAny_pure (wpAny_pure (wpAny_bind (wpAny_rule ?_))))
  unfold Builtin.SmallTypes.stopIteration
  show wpAny _ _ (newExc (.type "StopIteration") [] >>= _) _ _ _
  refine wpAny_bind ?_
  simp only [newExc, newTuple]
  refine wpAny_bind (wpAny_newObj_type ?_ (by size_fits))
  refine wpAny_bind (m := firstArgMember _ _) (wpAny_of_eq (a := Value.none) (by first | rfl | (simp only [firstArgMember]; rfl)) ?_)
  refine wpAny_newObj_type ?_ (by size_fits)
  simp only [raiseNew]
  refine wpAny_bind (wpAny_handled ?_)
  first | rw [show A.in1.handled = none from hh] | rw [hh]
  refine wpAny_bind (wpAny_pure (wpAny_throw ?_))
  have up : ∀ c o, c ≠ z → c ≠ TO → c ≠ i1 → c ≠ i2 → s.heap.get? c = some o → h₄.get? c = some o := fun c o c1 c2 c3 c4 q => hs₄ _ _ c4 (hs₃.extBut _ _ c1 (hs₂ _ _ c3 (hs₁.extBut _ _ c1 q)))
  exact hE _ _ (fun c o c1 c2 c3 c4 q => Heap.get?_push_of_some _ (Heap.get?_push_of_some _ (up c o c1 c2 c3 c4 q))) ⟨_, Heap.get?_push_size _ rfl, rfl⟩

theorem wpAny_pyNext_zipS_item {z TI TO i1 i2 l1 l2 : Addr} {k1 k2 : Nat} {xs ys : Array Value} {x y a b : Value} {Q : Option Value → Shared → Prop} (D : ZipApart z TI TO i1 i2 l1 l2)
    (hz : IsZipS s.heap z TI TO .none) (hTI : IsPair s.heap TI (.ref i1) (.ref i2)) (hTO : IsPair s.heap TO a b)
    (h1 : s.heap.IsTupleIter i1 l1 k1) (h2 : s.heap.IsTupleIter i2 l2 k2) (hl1 : s.heap.IsTuple l1 xs) (hl2 : s.heap.IsTuple l2 ys) (hx : xs[k1]? = some x) (hy : ys[k2]? = some y)
    (hQ : ∀ h', IsZipS h' z TI TO (rawInt s.heap.objs.size) → IsPair h' TO x y → h'.IsTupleIter i1 l1 (k1 + 1) → h'.IsTupleIter i2 l2 (k2 + 1) → IsPair h' s.heap.objs.size x y → h'.objs.size = s.heap.objs.size + 1 →
      (∀ c o, c ≠ z → c ≠ TO → c ≠ i1 → c ≠ i2 → s.heap.get? c = some o → h'.get? c = some o) → Q (some (.ref s.heap.objs.size)) { s with heap := h' }) :
    wpAny (model prog w) A (pyNext (.ref z)) Q E s := by
  have hT : s.TypeIs (.ref z) "zip" := ⟨_, hz, rfl⟩
  unfold pyNext
  exact wpAny_bind (wpAny_attempt (wpAny_callSpecial?_slot (name := Str.ofString "__next__") hT F.slot_zip_next
    (wpAny_call_entry F.slot_zip_next hT F.entry_zip_next
      (zipS_next_item D hz hTI hTO h1 h2 hl1 hl2 hx hy fun h' a1 a2 a3 a4 a5 a6 a7 => wpAny_pure (hQ h' a1 a2 a3 a4 a5 a6 a7)) (F.args_zip_next_1 _))))
theorem wpAny_pyNext_zipS_end {z TI TO i1 i2 l1 l2 : Addr} {k1 k2 : Nat} {xs ys : Array Value} {a b : Value} {Q : Option Value → Shared → Prop} (hh : A.handled = none) (D : ZipApart z TI TO i1 i2 l1 l2)
    (hz : IsZipS s.heap z TI TO .none) (hTI : IsPair s.heap TI (.ref i1) (.ref i2)) (hTO : IsPair s.heap TO a b)
    (h1 : s.heap.IsTupleIter i1 l1 k1) (h2 : s.heap.IsTupleIter i2 l2 k2) (hl1 : s.heap.IsTuple l1 xs) (hl2 : s.heap.IsTuple l2 ys) (hx : xs[k1]? = none) (hy : ys[k2]? = none)
    (hQ : ∀ h', (∀ c o, c ≠ z → c ≠ TO → c ≠ i1 → c ≠ i2 → s.heap.get? c = some o → h'.get? c = some o) → Q none { s with heap := h' }) : wpAny (model prog w) A (pyNext (.ref z)) Q E s := by
  have hT : s.TypeIs (.ref z) "zip" := ⟨_, hz, rfl⟩
  unfold pyNext
  refine wpAny_bind (wpAny_attempt (wpAny_callSpecial?_slot (name := Str.ofString "__next__") hT F.slot_zip_next
    (wpAny_call_entry F.slot_zip_next hT F.entry_zip_next (zipS_next_end hh D hz hTI hTO h1 h2 hl1 hl2 hx hy fun h' e hk he => ?_) (F.args_zip_next_1 _))))
  obtain ⟨o, ho, hc⟩ := he
  refine wpAny_bind (wpAny_isInstance (T := "StopIteration") (b := true) ⟨o, ho, hc⟩ isSubtype_stop ?_)
  exact wpAny_pure (hQ _ hk)
theorem wpAny_letOwnedTupleGo_zipS {elts : List Expr} {x1} {pos : Pos} {z TI TO T : Addr} {Q : Unit → Shared → Prop} (hz : IsZipS s.heap z TI TO (rawInt T))
    (hQ : ∀ h', IsZipS h' z TI TO .none → Heap.SameBut z s.heap h' → Q () { s with heap := h' }) :
    wpAny (model prog w) A (letOwnedTupleGo (.Tuple elts x1 pos) (.ref z) (.ref T)) Q E s := by
  unfold letOwnedTupleGo
  refine wpAny_bind (wpAny_load hz ?_)
  show wpAny _ _ (if (["enumerate", "zip", "dict_itemiterator", "dict_reverseitemiterator", "odict_iterator", "itertools.zip_longest", "itertools.pairwise"].contains "zip" &&
      (#[rawInt T, .bool false, .bool true, .ref TI, .ref TO] : Array Value)[0]? == some (rawInt T)) = true then _ else _) Q E s
  rw [if_pos (by simp)]
  refine wpAny_bind (wpAny_rule ?_)
  show wpAny _ _ (setField (.ref z) 0 .none) Q E s
  exact wpAny_setField_rec hz (by simp) fun h' hz' hs' => hQ h' hz' hs'
theorem wpAny_pyIter_zipS {z TI TO : Addr} {f0 : Value} {Q : Value → Shared → Prop} (hz : IsZipS s.heap z TI TO f0) (h : Q (.ref z) s) : wpAny (model prog w) A (pyIter (.ref z)) Q E s := by
  have hT : s.TypeIs (.ref z) "zip" := ⟨_, hz, rfl⟩
  refine wpAny_pyIter_slot hT F.slot_zip_iter (wpAny_call_entry F.slot_zip_iter hT F.entry_zip_iter ?_ (F.args_zip_iter_1 _))
  show wpAny _ _ (ret (.ref z)) _ _ s
  exact wpAny_pure ⟨_, rfl, "zip", _, hT, F.slot_zip_next.lookup, h⟩
end
abbrev zipS1 (h : Heap) (l1 : Addr) : Heap := h.push { cls := .type "tuple_iterator", data := .fields #[.ref l1, .int 0 0] }
abbrev zipS2 (h : Heap) (l1 l2 : Addr) : Heap := (zipS1 h l1).push { cls := .type "tuple_iterator", data := .fields #[.ref l2, .int 0 0] }
abbrev zipS3 (h : Heap) (l1 l2 : Addr) : Heap := (zipS2 h l1 l2).push { cls := .type "tuple", data := .seq #[.ref h.objs.size, .ref (zipS1 h l1).objs.size] }
abbrev zipS4 (h : Heap) (l1 l2 : Addr) : Heap := (zipS3 h l1 l2).push { cls := .type "tuple", data := .seq #[.none, .none] }
abbrev zipS5 (h : Heap) (l1 l2 : Addr) : Heap := (zipS4 h l1 l2).push { cls := .type "zip", data := .fields #[.none, .bool false, .bool true, .ref (zipS2 h l1 l2).objs.size, .ref (zipS3 h l1 l2).objs.size] }
theorem meets_zipS_new (l1 l2 : Addr) (xs ys : Array Value) :
    Meets (Builtin.«zip.__new__» ⟨[.type "zip", .ref l1, .ref l2], [(Str.ofString "strict", .bool true)]⟩) (fun _ R s => s.heap.IsTuple l1 xs ∧ s.heap.IsTuple l2 ys ∧
      R (.ok (.ret (.ref (zipS4 s.heap l1 l2).objs.size))) { s with heap := zipS5 s.heap l1 l2 }) :=
  .of_wp fun prog w A R s h => by
    obtain ⟨hp, g, d, tk, os⟩ := s; obtain ⟨hl1, hl2, h⟩ := h
    have hsub := sub_zip
    have hL1 : Heap.IsTuple (Shared.heap ⟨hp, g, d, tk, os⟩) l1 xs := hl1
    have hL2 : Heap.IsTuple (Shared.heap ⟨hp.push { cls := .type "tuple_iterator", data := .fields #[.ref l1, .int 0 0] }, g, d, tk, os⟩) l2 ys := hl2.at fun o q => Heap.get?_push_of_some _ q
    have e1 : (Str.ofString "strict" == ("strict" : Str)) = true := by decide +kernel
    have e2 : (Str.ofString "strict" != ("strict" : Str)) = false := by decide +kernel
    wp_walk using wpAny_pyIter_tuple hL1, wpAny_pyIter_tuple hL2
    exact ⟨_, rfl, h⟩
section
variable {prog : Program} {w : World} {A : Around} {E : Value → Shared → Prop} {s : Shared}
theorem call_zipS_2 {l1 l2 : Addr} {xs ys : Array Value} {Q : Value → Shared → Prop} (hl1 : s.heap.IsTuple l1 xs) (hl2 : s.heap.IsTuple l2 ys)
    (h : ∀ h', IsZipS h' (s.heap.objs.size + 4) (s.heap.objs.size + 2) (s.heap.objs.size + 3) .none → IsPair h' (s.heap.objs.size + 2) (.ref s.heap.objs.size) (.ref (s.heap.objs.size + 1)) →
      IsPair h' (s.heap.objs.size + 3) .none .none → h'.IsTupleIter s.heap.objs.size l1 0 → h'.IsTupleIter (s.heap.objs.size + 1) l2 0 → h'.objs.size = s.heap.objs.size + 5 →
      (∀ c o, s.heap.get? c = some o → h'.get? c = some o) → Q (.ref (s.heap.objs.size + 4)) { s with heap := h' }) :
    wpAny (model prog w) A (call (.type "zip") [.ref l1, .ref l2] [(Str.ofString "strict", .bool true)]) Q E s := by
  refine callType_newKw F.called_zip (by decide) (F.typeCall_zip_strict _ _ _) (F.newCall_zip_strict _ _ _) (fun obj => F.args_object_init_strict obj _ _ _) F.entry_zip_new
    (meets_zipS_new l1 l2 xs ys) ⟨hl1, hl2, ?_⟩
  have z1 : (zipS1 s.heap l1).objs.size = s.heap.objs.size + 1 := Heap.size_push ..
  have z2 : (zipS2 s.heap l1 l2).objs.size = s.heap.objs.size + 2 := by rw [Heap.size_push, z1]
  have z3 : (zipS3 s.heap l1 l2).objs.size = s.heap.objs.size + 3 := by rw [Heap.size_push, z2]
  have z4 : (zipS4 s.heap l1 l2).objs.size = s.heap.objs.size + 4 := by rw [Heap.size_push, z3]
  have z5 : (zipS5 s.heap l1 l2).objs.size = s.heap.objs.size + 5 := by rw [Heap.size_push, z4]
  have g5 : (zipS5 s.heap l1 l2).get? (zipS4 s.heap l1 l2).objs.size = some _ := Heap.get?_push_size _ rfl
  have g4 : (zipS5 s.heap l1 l2).get? (zipS3 s.heap l1 l2).objs.size = some _ := Heap.get?_push_of_some _ (Heap.get?_push_size _ rfl)
  have g3 : (zipS5 s.heap l1 l2).get? (zipS2 s.heap l1 l2).objs.size = some _ := Heap.get?_push_of_some _ (Heap.get?_push_of_some _ (Heap.get?_push_size _ rfl))
  have g2 : (zipS5 s.heap l1 l2).get? (zipS1 s.heap l1).objs.size = some _ := Heap.get?_push_of_some _ (Heap.get?_push_of_some _ (Heap.get?_push_of_some _ (Heap.get?_push_size _ rfl)))
  have g1 : (zipS5 s.heap l1 l2).get? s.heap.objs.size = some _ := Heap.get?_push_of_some _ (Heap.get?_push_of_some _ (Heap.get?_push_of_some _ (Heap.get?_push_of_some _ (Heap.get?_push_size _ rfl))))
  show _ ∧ _
  rw [z2, z3, z4] at g5
  rw [z1, z2] at g3
  rw [z3] at g4
  rw [z1] at g2
  rw [z4]
  exact ⟨⟨_, g5, rfl⟩, h _ g5 g3 g4 ⟨_, g1, rfl, rfl⟩ ⟨_, g2, rfl, rfl⟩ z5 fun c o x =>
    Heap.get?_push_of_some _ (Heap.get?_push_of_some _ (Heap.get?_push_of_some _ (Heap.get?_push_of_some _ (Heap.get?_push_of_some _ x))))⟩
theorem callWith_typeKW {env : Env} {pos : Pos} {T : String} {e : Expr} {rest : List Expr} {kws : List Keyword} {Q : Value → Shared → Prop} {M : Model}
    (h : wpAny M A (spliced (backTo pos (starEach (e :: rest) env))) (fun vs s₁ => wpAny M A (evalAll ((backToKw pos (keywordEach kws env)).map (·.2)))
      (fun kvs s₂ => wpAny M A (call (.type T) vs (((backToKw pos (keywordEach kws env)).filterMap (·.1)).zip kvs)) Q E s₂) E s₁) E s)
    (he : backTo pos (starEach (e :: rest) env) = (false, eval e env) :: backTo pos (starEach rest env) := by rfl)
    (hplain : (backTo pos (starEach (e :: rest) env)).any (·.1) = false := by rfl)
    (hall : (backToKw pos (keywordEach kws env)).all (·.1.isSome) = true := by rfl)
    (hkw : (backToKw pos (keywordEach kws env)).any (·.1.isNone) = false := by rfl) :
    wpAny M A (callWith pos (.type T) [] (backTo pos (starEach (e :: rest) env)) (backToKw pos (keywordEach kws env))) Q E s := by
  have h' : wpAny M A (evalArgs (.type T) true (backTo pos (starEach (e :: rest) env)) (backToKw pos (keywordEach kws env))) (fun a s₁ => wpAny M A (call (.type T) ([] ++ a.pos) a.kw) Q E s₁) E s := by
    rw [he] at h ⊢
    exact PyProof.Rows.evalArgs_kwB hall h
  unfold callWith
  refine wpAny_bind (wpAny_holding (wpAny_mono h' (fun a s₁ h₁ => wpAny_bind (wpAny_standAt ?_)) fun _ _ x => x))
  simp only [hplain, hkw, Bool.or_false]
  refine wpAny_bind (wpAny_pure ?_)
  exact wpAny_bind (wpAny_mono h₁ (fun r s₂ hr => wpAny_bind (wpAny_holding (wpAny_point (wpAny_pure hr)))) fun _ _ x => x)
end
end PySem
namespace MS
open PySem PySem.Spec PyProof.Rows L2
/-- two tuples, the items in new pairs -/
def ItzT (K : PySem.W.Frag) (a b : Addr) : It :=
  ⟨fun i H => ∃ (xs ys : List V) (x y : V), SqT K H a xs ∧ SqT K H b ys ∧ xs[i]? = some x ∧ ys[i]? = some y,
    fun i H v H' => ∃ T x y, v = .ref T ∧ H T = none ∧ H' = upd H T (.tup [x, y]) ∧ (∀ xs, SqT K H a xs → xs[i]? = some x) ∧ ∀ ys, SqT K H b ys → ys[i]? = some y,
    fun i H => ∃ xs ys : List V, SqT K H a xs ∧ SqT K H b ys ∧ xs.length ≤ i ∧ ys.length ≤ i⟩
theorem turn_zipS {P : Program} {w : World} {K : PySem.W.Frag} {elts : List Expr} {kk : Nat} {tpos : Pos} {a b z TI TO i1 i2 : Addr} (D : ZipApart z TI TO i1 i2 a b) :
    Turn P w K (.Tuple elts kk tpos) (ItzT K a b) [z, TI, TO, i1, i2] z (fun i h => IsZipS h z TI TO .none ∧ IsPair h TI (.ref i1) (.ref i2) ∧ (∃ x y, IsPair h TO x y) ∧ h.IsTupleIter i1 a i ∧ h.IsTupleIter i2 b i) where
  mem := by simp
  obj := fun i h st c hc => by
    obtain ⟨hz, hTI, ⟨x, y, hTO⟩, ⟨o1, e1, _, d1⟩, ⟨o2, e2, _, d2⟩⟩ := st
    have e' : c = z ∨ c = TI ∨ c = TO ∨ c = i1 ∨ c = i2 := by simpa using hc
    rcases e' with q | q | q | q | q
    · rw [q]; exact ⟨_, hz, fun v q => nomatch q⟩
    · rw [q]; exact ⟨_, hTI, fun v q => nomatch q⟩
    · rw [q]; exact ⟨_, hTO, fun v q => nomatch q⟩
    · rw [q]; exact ⟨o1, e1, fun v q => by rw [d1] at q; cases q⟩
    · rw [q]; exact ⟨o2, e2, fun v q => by rw [d2] at q; cases q⟩
  keep := fun i h h' st k => by
    obtain ⟨hz, hTI, ⟨x, y, hTO⟩, h1, h2⟩ := st
    exact ⟨k z (by simp) _ hz, k TI (by simp) _ hTI, ⟨x, y, k TO (by simp) _ hTO⟩, h1.at fun o q => k i1 (by simp) o q, h2.at fun o q => k i2 (by simp) o q⟩
  item := by
    intro X hP hw hK hc i pins s σ H E I hf st hg
    subst hP hw hK
    obtain ⟨hz, hTI, ⟨x0, y0, hTO⟩, h1, h2⟩ := st
    obtain ⟨xs, ys, x, y, hqx, hqy, hx, hy⟩ := hg
    obtain ⟨its, rv, p, _⟩ := I.tuple hqx
    obtain ⟨its2, rv2, p2, _⟩ := I.tuple hqy
    obtain ⟨u, hu, ru⟩ := rv.get hx
    obtain ⟨u2, hu2, ru2⟩ := rv2.get hy
    have hzl : z < s.heap.objs.size := Heap.lt_size hz
    refine wpAny_pyNext_zipS_item D hz hTI hTO h1 h2 (show s.heap.IsTuple a its.toArray from p) (show s.heap.IsTuple b its2.toArray from p2) (x := u) (y := u2) (by simpa using hu) (by simpa using hu2) fun h' z' TO' h1' h2' hT hsz hk => ?_
    refine ⟨_, rfl, wpAny_letOwnedTupleGo_zipS (s := { s with heap := h' }) z' fun h'' z'' sb => ?_⟩
    have hT2 : h''.get? s.heap.objs.size = some { cls := .type "tuple", data := .seq #[u, u2] } := (sb.2 _ (Nat.ne_of_gt hzl)).trans hT
    have new : ObjOk X.prog X.w (upd H s.heap.objs.size (.tup [x, y])) h'' s.heap.objs.size (.tup [x, y]) :=
      ⟨by show 2 ≤ sizeLine; decide, [u, u2], .cons ru (.cons ru2 .nil), ⟨_, hT2, rfl, _, rfl⟩⟩
    have I1 : Inv X pins σ (upd H s.heap.objs.size (.tup [x, y])) { s with heap := h'' } :=
      I.turnedNew (t' := s.toks) (ch := [z, TI, TO, i1, i2]) (fun c o hb q => (sb.2 c (fun q' => hb (by simp [q']))).trans (hk c o (fun q' => hb (by simp [q'])) (fun q' => hb (by simp [q'])) (fun q' => hb (by simp [q'])) (fun q' => hb (by simp [q'])) q)) hf (Nat.le_refl _) new
    refine ⟨.ref s.heap.objs.size, _, I1, rfl, ⟨_, x, y, rfl, I.hok.fresh (Nat.le_refl _), rfl, fun l hl => by rw [I.tuple_inj hl hqx]; exact hx, fun l hl => by rw [I.tuple_inj hl hqy]; exact hy⟩, ⟨z'', ?_, ⟨u, u2, ?_⟩, ?_, ?_⟩, fun c hcm => ?_⟩
    · exact (sb.2 _ D.TIz).trans (hk _ _ D.TIz D.TITO D.TIi1 D.TIi2 hTI)
    · exact (sb.2 _ D.TOz).trans TO'
    · exact h1'.at fun o q => (sb.2 _ D.i1z).trans q
    · exact h2'.at fun o q => (sb.2 _ D.i2z).trans q
    · have hlt : c < s.heap.objs.size := by
        have e' : c = z ∨ c = TI ∨ c = TO ∨ c = i1 ∨ c = i2 := by simpa using hcm
        rcases e' with q | q | q | q | q
        · rw [q]; exact hzl
        · rw [q]; exact Heap.lt_size hTI
        · rw [q]; exact Heap.lt_size hTO
        · rw [q]; obtain ⟨_, e1, _⟩ := h1; exact Heap.lt_size e1
        · rw [q]; obtain ⟨_, e2, _⟩ := h2; exact Heap.lt_size e2
      rw [upd_ne (Nat.ne_of_lt hlt)]
      exact (hf c hcm).1
  done := by
    intro X hP hw hK hc i pins s σ H E I hf st hg
    subst hP hw hK
    obtain ⟨hz, hTI, ⟨x0, y0, hTO⟩, h1, h2⟩ := st
    obtain ⟨xs, ys, hqx, hqy, he1, he2⟩ := hg
    obtain ⟨its, rv, p, _⟩ := I.tuple hqx
    obtain ⟨its2, rv2, p2, _⟩ := I.tuple hqy
    have l1 := rv.length
    have l2 := rv2.length
    exact wpAny_pyNext_zipS_end (I.ok.hd hc) D hz hTI hTO h1 h2 (show s.heap.IsTuple a its.toArray from p) (show s.heap.IsTuple b its2.toArray from p2) (by simp; omega) (by simp; omega) fun h' hk => ⟨rfl, I.turnedL (t' := s.toks) (ch := [z, TI, TO, i1, i2]) (fun c o hb q =>
      hk c o (fun q' => hb (by simp [q'])) (fun q' => hb (by simp [q'])) (fun q' => hb (by simp [q'])) (fun q' => hb (by simp [q'])) q) hf⟩
  self := fun A i s Q E st h => wpAny_pyIter_zipS st.1 h
def iZipS (K : PySem.W.Frag) (ta : TA) : TI := fun σ H R => ta σ H fun vs H1 => ∃ a b xs ys, vs = [.ref a, .ref b] ∧ SqT K H1 a xs ∧ SqT K H1 b ys ∧ R (ItzT K a b) H1
theorem pi_zipS {X : Cx} {e e2 : Expr} {ta : TA} {p pos tpos kp cp : Pos} {cj : Nat} {elts : List Expr} {kk : Nat} (hg : Gl X "zip") (hm : X.mg "zip" = none) (ha : PA X [e, e2] ta)
    (he : backTo pos (starEach [e, e2] X.env) = (false, eval e X.env) :: backTo pos (starEach [e2] X.env) := by rfl) (hpl : (backTo pos (starEach [e, e2] X.env)).any (·.1) = false := by rfl) :
    PI X (.Tuple elts kk tpos) (.Call (.Name "zip" p) [e, e2] [⟨some "strict", .Constant (.bool true) cj cp, kp⟩] pos) (iZipS X.K ta) := by
  refine ⟨fun pins s σ H R I h => ?_⟩
  refine wpAny_Call_Name_kw (ld_blt I hg hm PyProof.Rows.boot_zip ?_)
  refine callWith_typeKW (thn (ha.run pos pins s σ H _ I h) fun us s1 ⟨vs, H1, I1, r1, q1⟩ => ?_) he hpl
  obtain ⟨a, b, xs, ys, ex, hqx, hqy, q⟩ := q1
  subst ex
  refine PyProof.Rows.kws_cons (PyProof.Rows.Constant_bool (PyProof.Rows.kws_nil ?_))
  cases r1 with
  | cons r rr =>
    cases rr with
    | cons r' rr =>
      cases rr
      cases r
      cases r'
      obtain ⟨its, rv, p1, _⟩ := I1.tuple hqx
      obtain ⟨its2, rv2, p2, _⟩ := I1.tuple hqy
      have la : a < s1.heap.objs.size := by obtain ⟨_, q, _⟩ := p1; exact Heap.lt_size q
      have lb : b < s1.heap.objs.size := by obtain ⟨_, q, _⟩ := p2; exact Heap.lt_size q
      refine call_zipS_2 (show s1.heap.IsTuple a its.toArray from p1) (show s1.heap.IsTuple b its2.toArray from p2) fun h' hz hTI hTO h1 h2 hsz hk => wpAny_pyIter_zipS hz ?_
      have I2 : Inv X pins σ H1 { s1 with heap := h' } := I1.kept (t' := s1.toks) hk
      refine ⟨s1.heap.objs.size + 4, [s1.heap.objs.size + 4, s1.heap.objs.size + 2, s1.heap.objs.size + 3, s1.heap.objs.size, s1.heap.objs.size + 1], _, _, H1, rfl, I2, turn_zipS (PySem.W.ktu_apart s1.heap.objs.size a b la lb), ⟨hz, hTI, ⟨_, _, hTO⟩, h1, h2⟩, fun c hcm => ?_, q⟩
      have e' : c = s1.heap.objs.size + 4 ∨ c = s1.heap.objs.size + 2 ∨ c = s1.heap.objs.size + 3 ∨ c = s1.heap.objs.size ∨ c = s1.heap.objs.size + 1 := by simpa using hcm
      have hle : s1.heap.objs.size ≤ c := by
        rcases e' with z | z | z | z | z
        · rw [z]; exact Nat.le_add_right _ _
        · rw [z]; exact Nat.le_add_right _ _
        · rw [z]; exact Nat.le_add_right _ _
        · rw [z]; exact Nat.le_refl _
        · rw [z]; exact Nat.le_add_right _ _
      exact I1.fpOk hle (I1.hok.fresh hle)
end MS

set_option Elab.async false
set_option linter.all false
set_option maxRecDepth 100000
set_option maxHeartbeats 4000000
/-! MS11: comprehensions, zip, a written dict's get. -/
namespace MS
open PySem PySem.Spec PyProof.Rows L2 MI

section
variable {X : Cx} {cl : Nat → Addr} {E : EX} {c : MI.Ctx} {a b e : Expr} {ga gb ge : SE} {pos p : Pos}
theorem zipD_get : ∀ (l m : List D) (i : Nat) (x y : D), l[i]? = some x → m[i]? = some y → (zipD l m)[i]? = some (.tup [x, y])
  | _ :: _, _ :: _, 0, _, _, h1, h2 => by simp at h1 h2; subst h1 h2; rfl
  | _ :: l, _ :: m, i + 1, x, y, h1, h2 => by
    simp only [zipD, List.getElem?_cons_succ] at h1 h2 ⊢
    exact zipD_get l m i x y h1 h2
  | [], _, _, _, _, h1, _ => by simp at h1
  | _ :: _, [], _, _, _, _, h2 => by simp at h2
theorem zipD_len : ∀ (l m : List D), (zipD l m).length = min l.length m.length
  | [], _ => by simp [zipD]
  | _ :: _, [] => by simp [zipD]
  | _ :: l, _ :: m => by simp [zipD, zipD_len l m]
theorem mi_zip {tpos kp cp : Pos} {cj : Nat} {elts : List Expr} {kk : Nat} (hg : Gl X "zip") (hm : X.mg "zip" = none) (ha : ME X cl E c a ga) (hb : ME X cl E c b gb)
    (he : starEach [a, b] X.env = (false, eval a X.env) :: starEach [b] X.env := by rfl) (he2 : starEach [b] X.env = (false, eval b X.env) :: starEach [] X.env := by rfl)
    (hb1 : backTo pos (starEach [a, b] X.env) = (false, eval a X.env) :: backTo pos (starEach [b] X.env) := by rfl) (hpl : (backTo pos (starEach [a, b] X.env)).any (·.1) = false := by rfl) :
    MI_ X cl E c (.Tuple elts kk tpos) (.Call (.Name "zip" p) [a, b] [⟨some "strict", .Constant (.bool true) cj cp, kp⟩] pos) (MI.iZip ga gb) :=
  piI (pi_zipS (ta := tCons (TM X.K cl E (rV X.K) (ga c)) (tCons (TM X.K cl E (rV X.K) (gb c)) tNil)) hg hm (pa_cons ha (pa_cons hb pa_nil he2) he) hb1 hpl) fun σ H R ⟨ρ, env, st, A, e, h⟩ => by
    refine (Rest.step (g := ga c) (rV X.K) A e h).imp fun v1 H1 ⟨ρ1, st1, d1, g1, A1, r1, h1⟩ => ?_
    refine (Rest.step (g := gb c) (rV X.K) A1 (e.grow A g1) h1).imp fun v2 H2 ⟨ρ2, st2, d2, g2, A2, r2, h2⟩ => ?_
    have r1' := r1.grow A1 g2
    cases r1' with
    | @tup p vs l hs r =>
      cases r2 with
      | @tup q ws m hs' r' =>
        by_cases hl : l.length = m.length
        · refine ⟨p, q, vs, ws, rfl, hs, hs', h2.ok (st' := st2) (d := .items (zipD l m)) (by simp [hl, MI.ret]) .refl A2 ⟨fun ρ H st i d g A h => ?_, fun ρ H st i g A h => ?_⟩⟩
          · have s1 := (A2.keep g).t _ _ hs
            have s2 := (A2.keep g).t _ _ hs'
            have h' := Option.some.inj h
            have hlt : i < (zipD l m).length := (List.getElem?_eq_some_iff.mp h').1
            rw [zipD_len] at hlt
            have hi1 : i < l.length := by omega
            have hi2 : i < m.length := by omega
            have z1 : l[i]? = some l[i] := List.getElem?_eq_getElem hi1
            have z2 : m[i]? = some m[i] := List.getElem?_eq_getElem hi2
            rw [zipD_get l m i _ _ z1 z2] at h'
            cases h'
            obtain ⟨v, hv, rv⟩ := (r.grow A2 g).get z1
            obtain ⟨w, hw, rw'⟩ := (r'.grow A2 g).get z2
            refine ⟨⟨vs, ws, v, w, s1, s2, hv, hw⟩, fun x H' z => ?_⟩
            obtain ⟨T, x1, y1, rfl, hn, rfl, z, z'⟩ := z
            have q1 := z vs s1
            have q2 := z' ws s2
            rw [hv] at q1; cases q1
            rw [hw] at q2; cases q2
            obtain ⟨A', g'⟩ := A.side (o := .tup [v, w]) hn
            exact ⟨ρ, g', A', .tup (SqT.of upd_same) (.cons (rv.grow A g') (.cons (rw'.grow A g') .nil))⟩
          · have h' := Option.some.inj h
            have hge := List.getElem?_eq_none_iff.mp h'
            rw [zipD_len] at hge
            exact ⟨vs, ws, (A2.keep g).t _ _ hs, (A2.keep g).t _ _ hs', by rw [r.length]; omega, by rw [r'.length]; omega⟩
        · exact h2.none (by simp [hl, MI.fail])
      | _ => exact h2.none rfl
    | _ => exact h2.none (by cases r2 <;> rfl)
end

/-! ### comprehensions -/
theorem wipe_idem (σ : L2.St) : ∀ vs : List Nat, L2.wipe (L2.wipe σ vs) vs = L2.wipe σ vs := by
  have key : ∀ (us vs : List Nat), (∀ v ∈ us, v ∈ vs) → L2.wipe (L2.wipe σ vs) us = L2.wipe σ vs := by
    intro us
    induction us with
    | nil => intro vs _; rfl
    | cons u us ih =>
      intro vs h
      show (L2.wipe (L2.wipe σ vs) us).set u none = _
      rw [ih vs fun v hv => h v (List.mem_cons_of_mem _ hv)]
      have hu := h u List.mem_cons_self
      clear ih h
      induction vs with
      | nil => cases hu
      | cons v vs ih =>
        show ((L2.wipe σ vs).set v none).set u none = (L2.wipe σ vs).set v none
        by_cases e : v = u
        · subst e; rw [List.set_set]
        · rcases List.mem_cons.mp hu with q | q
          · exact absurd q.symm e
          · rw [List.set_comm _ _ e, ih q]
  exact fun vs => key vs vs fun _ h => h
theorem wipe_set {σ : L2.St} {x : Option V} {i : Nat} : ∀ {vs : List Nat}, i ∈ vs → L2.wipe (σ.set i x) vs = L2.wipe σ vs
  | [], h => by cases h
  | v :: vs, h => by
    show (L2.wipe (σ.set i x) vs).set v none = (L2.wipe σ vs).set v none
    by_cases e : i ∈ vs
    · rw [wipe_set e]
    · have hv : i = v := by
        rcases List.mem_cons.mp h with q | q
        · exact q
        · exact absurd q e
      subst hv
      have out : ∀ (us : List Nat) (τ : L2.St), i ∉ us → L2.wipe (τ.set i x) us = (L2.wipe τ us).set i x := by
        intro us
        induction us with
        | nil => intro τ _; rfl
        | cons u us ih =>
          intro τ hn
          have hn1 : i ∉ us := fun q => hn (List.mem_cons_of_mem _ q)
          have hn2 : i ≠ u := fun q => hn (q ▸ List.mem_cons_self)
          show (L2.wipe (τ.set i x) us).set u none = ((L2.wipe τ us).set u none).set i x
          rw [ih τ hn1, List.set_comm _ _ hn2]
      rw [out vs σ e, List.set_set]
section
variable (K : PySem.W.Frag) (cl : Nat → Addr)
/-- a target of a comprehension's own names -/
def TGw (vs : List Nat) (g : D → MI.Env → Stt → Option (MI.Env × Stt)) : TG := fun v σ H Q => ∃ ρ env st d, At K cl ρ H st ∧ RvE K H ρ σ env ∧ Rv K H ρ v d ∧ RestG K cl (fun σ' H' => L2.wipe σ' vs = L2.wipe σ vs → Q σ' H') (g d env st) ρ H
def TGws (vs : List Nat) (g : List D → MI.Env → Stt → Option (MI.Env × Stt)) : TGs := fun us σ H Q => ∃ ρ env st ds, At K cl ρ H st ∧ RvE K H ρ σ env ∧ RvL K H ρ us ds ∧ RestG K cl (fun σ' H' => L2.wipe σ' vs = L2.wipe σ vs → Q σ' H') (g ds env st) ρ H
end
section
variable {X : Cx} {cl : Nat → Addr} {c : MI.Ctx} {vs : List Nat} {pos : Pos} {e : Expr} {es : List Expr} {g : SG} {gg : SGs}
theorem mw_name {i : Nat} {x : Str} (hN : X.N.Nodup) (hm : i ∈ vs := by decide) (hi : X.N[i]? = some x := by rfl) (hx : Loc X.env.scope x := by first | exact Or.inl rfl | exact Or.inr rfl) (hf : X.fn x = true ∨ X.env.scope.names.lookup x = some .local := by first | exact .inl rfl | exact .inr rfl | assumption) : PG X (.Name x pos) (TGw X.K cl vs (gVar i c)) :=
  pgI (pg_name hN hi hx hf) fun v σ H Q ⟨ρ, env, st, d, A, e, r, h⟩ => by
    unfold gVar at h
    by_cases hl : i < env.length
    · rw [if_pos hl] at h
      exact h ρ H _ .refl A (RvE.set r i e) (wipe_set hm)
    · rw [if_neg hl] at h; exact h.elim
theorem mws_nil : PGs X [] (TGws X.K cl vs (MI.gNil c)) := pgsI pgs_nil fun us σ H Q ⟨ρ, env, st, ds, A, e, r, h⟩ => by
  cases r with
  | nil => exact ⟨rfl, h ρ H σ .refl A e rfl⟩
  | cons _ _ => exact h.elim
theorem mws_cons (h1 : PG X e (TGw X.K cl vs (g c))) (h2 : PGs X es (TGws X.K cl vs (gg c))) (hs : (assignEach (e :: es) X.env).map (·.2) = assign e X.env :: (assignEach es X.env).map (·.2) := by rfl) : PGs X (e :: es) (TGws X.K cl vs (MI.gCons g gg c)) :=
  pgsI (pgs_cons h1 h2 hs) fun us σ H Q ⟨ρ, env, st, ds, A, e, r, h⟩ => by
    cases r with
    | nil => exact h.elim
    | @cons v us d ds r rr =>
      refine ⟨v, us, rfl, ρ, env, st, d, A, e, r, ?_⟩
      match q : g c d env st, h with
      | none, h => simp only [MI.gCons, q] at h; exact h.elim
      | some (env', st'), h =>
        simp only [MI.gCons, q] at h
        refine fun ρ' H' σ' g' A' e' hw => ⟨ρ', env', st', ds, A', e', rr.grow A g', ?_⟩
        revert h
        cases gg c ds env' st' with
        | none => exact fun h => h.elim
        | some p =>
          obtain ⟨env2, st2⟩ := p
          exact fun h ρ2 H2 σ2 g2 A2 e2 hw2 => h ρ2 H2 σ2 (g'.trans g2) A2 e2 (hw2.trans hw)
theorem mw_tup {k n : Nat} (hc : X.calm = true) (h : PGs X es (TGws X.K cl vs (gg c))) (hn : (assignEach es X.env).length = n := by rfl) (hst : (assignEach es X.env).findIdx? (·.1) = none := by rfl) : PG X (.Tuple es k pos) (TGw X.K cl vs (MI.gTup n gg c)) :=
  pgI (pg_tup hc h hn hst) fun v σ H Q ⟨ρ, env, st, d, A, e, r, h⟩ => by
    cases r with
    | @tup a us l hs r =>
      have h : RestG X.K cl (fun σ' H' => L2.wipe σ' vs = L2.wipe σ vs → Q σ' H') (if l.length = n then gg c l env st else none) ρ H := h
      by_cases hl : l.length = n
      · rw [if_pos hl] at h
        exact ⟨a, us, rfl, hs, by rw [r.length]; exact hl, ρ, env, st, l, A, e, r, h⟩
      · rw [if_neg hl] at h; exact h.elim
    | _ => exact h.elim
end
theorem takesF {X : Cx} : Takes X (fun _ _ _ _ => False) := fun _ _ x => by
  obtain ⟨_, _, _, _, _, _, _, _, _, _, _, _, _, _, _, _, z⟩ := x
  exact z.elim
theorem Good.blk {X : Cx} {W : WX} {cl : Nat → Addr} {c : MI.Ctx} {lv : Nat} (G : Good X W cl c lv) (s : Shared) (H : Hp) (scope : Scope) (ce : PySem.Env) (fp : List Addr) : Good (X.blk s H scope ce fp) (fun _ _ _ _ => False) cl c lv :=
  ⟨takesF, G.room, G.calm, G.gd, G.nd, G.flds, G.meth⟩
/-! ### the tests of a comprehension -/
section
variable {X : Cx} {cl : Nat → Addr} {E : EX} {c : MI.Ctx} {e : Expr} {t : MI.ST}
theorem ptsI {ifs : List Expr} {t t' : TT} (h : PTs X ifs t) (i : ∀ σ H Q, t' σ H Q → t σ H Q) : PTs X ifs t' := ⟨fun pins s σ H Q I q => h.run pins s σ H Q I (i σ H Q q)⟩
theorem mts_nil : PTs X [] (TM X.K cl E rB (cYes c)) := ptsI pts_nil fun σ H Q ⟨ρ, env, st, A, e, h⟩ => h.ok (st' := st) (d := true) rfl .refl A rfl
theorem mts_one (h : MT X cl E c e t) : PTs X [e] (TM X.K cl E rB (t c)) := pts_one h
end
theorem compL_noexc (s : Src) (T : D → MI.R (Option D)) : ∀ (m i : Nat) (acc : List D) (st : Stt) k fs st', compL s T m i acc st ≠ some (.exc k fs, st')
  | 0, _, _, _, _, _, _ => by simp [compL, MI.fail]
  | m + 1, i, acc, st, k, fs, st' => by
    intro h
    unfold compL at h
    split at h
    · cases h
    · cases h
    · split at h
      · split at h
        · exact compL_noexc s T m _ _ _ k fs st' h
        · cases h
      · exact compL_noexc s T m _ _ _ k fs st' h
      · cases h
theorem compL_step {s : Src} {T : D → MI.R (Option D)} {m i : Nat} {acc l : List D} {st st' : Stt} (h : compL s T (m + 1) i acc st = some (.ok l, st')) :
    (srcAt s i st = some none ∧ l = acc ∧ st' = st) ∨ ∃ d o st2, srcAt s i st = some (some d) ∧ T d st = some (.ok o, st2) ∧ (o = none → compL s T m (i + 1) acc st2 = some (.ok l, st')) ∧ ∀ x, o = some x → acc.length < lim - 1 ∧ compL s T m (i + 1) (acc ++ [x]) st2 = some (.ok l, st') := by
  unfold compL at h
  split at h
  · cases h
  · rename_i q
    cases h
    exact .inl ⟨q, rfl, rfl⟩
  · rename_i d q
    split at h
    · rename_i x st2 q2
      by_cases hl : acc.length < lim - 1
      · rw [if_pos hl] at h
        exact .inr ⟨d, some x, st2, q, q2, (fun z => nomatch z), (fun y z => by cases z; exact ⟨hl, h⟩)⟩
      · rw [if_neg hl] at h; cases h
    · rename_i st2 q2
      exact .inr ⟨d, none, st2, q, q2, (fun _ => h), (fun y z => nomatch z)⟩
    · cases h
theorem compT_step {g : SG} {t : MI.ST} {ge : SE} {c : MI.Ctx} {env : MI.Env} {d : D} {st st2 : Stt} {o : Option D} (h : compT g t ge c env d st = some (.ok o, st2)) :
    ∃ env' st3 b st4, g c d env st = some (env', st3) ∧ t c env' st3 = some (.ok b, st4) ∧ (b = false → o = none ∧ st2 = st4) ∧ (b = true → ∃ y, ge c env' st4 = some (.ok y, st2) ∧ o = some y) := by
  unfold compT at h
  split at h
  · rename_i env' st3 q
    unfold bnd at h
    split at h
    · rename_i b st4 q2
      refine ⟨env', st3, b, st4, q, q2, fun hb => ?_, fun hb => ?_⟩
      · subst hb
        simp only [Bool.false_eq_true, if_false, MI.ret] at h
        cases h; exact ⟨rfl, rfl⟩
      · subst hb
        simp only [if_true] at h
        split at h
        · rename_i y st5 q3
          cases h
          exact ⟨y, q3, rfl⟩
        · cases h
        · cases h
    · cases h
    · cases h
  · cases h
section
variable {K : PySem.W.Frag} {cl : Nat → Addr}
/-- a list laid beside ours becomes ours -/
theorem At.adopt {ρ : List Addr} {H : Hp} {st : Stt} {p : Addr} {vs : List V} {ds : List D} (A : At K cl ρ H st) (np : p ∉ ρ) (h : H p = some (.lst vs)) (r : RvL K H ρ vs ds) : At K cl (ρ ++ [p]) H (st ++ [.lst ds]) := by
  have k : Keep K H H := ⟨fun _ _ h => h, fun _ _ h => h, fun _ _ h => h⟩
  refine ⟨by simp [A.len], ?_, fun i a u h1 h2 => ?_⟩
  · rw [List.nodup_append]
    refine ⟨A.nd, by simp, fun a ha b hb => ?_⟩
    have : b = p := by simpa using hb
    subst this; exact fun e => np (e ▸ ha)
  · by_cases hi : i < ρ.length
    · rw [List.getElem?_append_left hi] at h1
      rw [List.getElem?_append_left (by rw [← A.len]; exact hi)] at h2
      exact (A.obj i a u h1 h2).keep k [p] rfl
    · have hi' : i = ρ.length := by
        have := (List.getElem?_eq_some_iff.mp h1).1
        simp at this; omega
      subst hi'
      simp at h1
      rw [A.len] at h2; simp at h2
      subst h1 h2; exact .lst h (r.keep k [p])
/-- a write beside ours -/
theorem At.beside {ρ : List Addr} {H : Hp} {st : Stt} {p : Addr} {vs ws : List V} (A : At K cl ρ H st) (np : p ∉ ρ) (h : H p = some (.lst vs)) : At K cl ρ (upd H p (.lst ws)) st ∧ Keep K H (upd H p (.lst ws)) := by
  have k : Keep K H (upd H p (.lst ws)) := ⟨fun b us h' => by
      rcases h' with (h' | ⟨o, h'⟩) | h'
      · exact .inl (.inl (by rw [upd_ne (fun e => by rw [e, h] at h'; cases h')]; exact h'))
      · exact .inl (.inr ⟨o, by rw [upd_ne (fun e => by rw [e, h] at h'; cases h')]; exact h'⟩)
      · exact .inr h', fun b us h' => by
      rcases h' with ⟨o, h'⟩ | h'
      · exact .inl ⟨o, by rw [upd_ne (fun e => by rw [e, h] at h'; cases h')]; exact h'⟩
      · exact .inr h', fun b us ⟨o, h', q⟩ => ⟨o, by rw [upd_ne (fun e => by rw [e, h] at h'; cases h')]; exact h', q⟩⟩
  refine ⟨⟨A.len, A.nd, fun i a u h1 h2 => ?_⟩, k⟩
  have := (A.obj i a u h1 h2).keep k [] (upd_ne fun e => np (e ▸ List.mem_of_getElem? h1))
  simpa using this
/-- a lock beside ours -/
theorem At.besideF {ρ : List Addr} {H : Hp} {st : Stt} {p : Addr} {vs : List V} {od : Obj} (A : At K cl ρ H st) (np : p ∉ ρ) (h : H p = some (.lst vs)) : At K cl ρ (upd H p (.frz od (.lst vs))) st ∧ Keep K H (upd H p (.frz od (.lst vs))) := by
  have k : Keep K H (upd H p (.frz od (.lst vs))) := ⟨fun b us h' => by
      rcases h' with (h' | ⟨o, h'⟩) | h'
      · exact .inl (.inl (by rw [upd_ne (fun e => by rw [e, h] at h'; cases h')]; exact h'))
      · exact .inl (.inr ⟨o, by rw [upd_ne (fun e => by rw [e, h] at h'; cases h')]; exact h'⟩)
      · exact .inr h', fun b us h' => by
      rcases h' with ⟨o, h'⟩ | h'
      · exact .inl ⟨o, by rw [upd_ne (fun e => by rw [e, h] at h'; cases h')]; exact h'⟩
      · exact .inr h', fun b us ⟨o, h', q⟩ => ⟨o, by rw [upd_ne (fun e => by rw [e, h] at h'; cases h')]; exact h', q⟩⟩
  refine ⟨⟨A.len, A.nd, fun i a u h1 h2 => ?_⟩, k⟩
  have := (A.obj i a u h1 h2).keep k [] (upd_ne fun e => np (e ▸ List.mem_of_getElem? h1))
  simpa using this
end
section
variable {X : Cx} {W : WX} {cl : Nat → Addr} {E : EX} {c : MI.Ctx} {lv : Nat} {pos : Pos} {elt tg iter : Expr} {ifs : List Expr} {scope : Scope} {own : List (Str × Nat)} {gi : SI} {g : SG} {t : MI.ST} {ge : SE}
theorem tm_comp {E' : EX} {vs : List Nat} {σ : L2.St} {H : Hp} {Q : VK} (h : TM X.K cl E (rV X.K) (eComp vs g gi t ge c) σ H Q) :
    tLc (TM X.K cl E (rS X.K cl) (gi c)) (TGw X.K cl vs (g c)) (TM X.K cl E' rB (t c)) (TM X.K cl E' (rV X.K) (ge c)) vs σ H Q := by
  obtain ⟨ρ, env, st, A, e, h⟩ := h
  refine (Rest.step (g := gi c) (rS X.K cl) A e h).imp fun J H1 ⟨ρ1, st1, s, g1, A1, S, h1⟩ => ?_
  have e1 := e.grow A g1
  have ew : RvE X.K H1 ρ1 (L2.wipe σ vs) (wipeE env vs) := RvE.wipe vs e1
  intro D hD
  have nD : D ∉ ρ1 := fun hm => A1.there hm hD
  obtain ⟨l, st', run, K1⟩ : ∃ l st', compL s (compT g t ge c (wipeE env vs)) c.fuel 0 [] st1 = some (.ok l, st') ∧ ∀ ρ' H' v, Grow ρ1 H1 ρ' H' → At X.K cl ρ' H' (st' ++ [.lst l]) → Rv X.K H' ρ' v (.loc st'.length) → Q v H' := by
    rcases h1 with ⟨d, st2, q, k⟩ | ⟨kc, fs, st2, q, k⟩
    · unfold bnd at q
      cases qq : compL s (compT g t ge c (wipeE env vs)) c.fuel 0 [] st1 with
      | none => rw [qq] at q; cases q
      | some pr =>
        obtain ⟨rs, st3⟩ := pr
        cases rs with
        | exc kc fs => exact absurd qq (compL_noexc _ _ _ _ _ _ _ _ _)
        | ok l =>
          rw [qq] at q
          cases q
          exact ⟨l, st3, rfl, k⟩
    · unfold bnd at q
      cases qq : compL s (compT g t ge c (wipeE env vs)) c.fuel 0 [] st1 with
      | none => rw [qq] at q; cases q
      | some pr =>
        obtain ⟨rs, st3⟩ := pr
        cases rs with
        | exc kc fs => exact absurd qq (compL_noexc _ _ _ _ _ _ _ _ _)
        | ok l => rw [qq] at q; cases q
  obtain ⟨A2, g2⟩ := A1.side (o := .lst []) hD
  refine ⟨fun i m H => ∃ ρ st acc us, Grow ρ1 H1 ρ H ∧ At X.K cl ρ H st ∧ RvE X.K H ρ (L2.wipe σ vs) (wipeE env vs) ∧ H D = some (.lst us) ∧ D ∉ ρ ∧ RvL X.K H ρ us acc ∧ compL s (compT g t ge c (wipeE env vs)) m i acc st = some (.ok l, st'),
    ⟨c.fuel, ρ1, st1, [], [], g2, A2, ew.grow A1 g2, upd_same, nD, .nil, run⟩, ?_⟩
  rintro i m H ⟨ρ, st, acc, us, gg, A, ee, hDu, nD, rl, run⟩
  cases m with
  | zero => cases run
  | succ m =>
    rcases compL_step run with ⟨q, z1, z2⟩ | ⟨d, o, stE, q, runT, runN, runS⟩
    · subst z1 z2
      refine .inl ⟨S.stop ρ H _ i gg A q, ?_⟩
      refine K1 (ρ ++ [D]) H (.ref D) ?_ (A.adopt nD hDu rl) (.loc (by rw [← A.len]; simp))
      refine ⟨?_, fun x hx => ?_, fun x o ho hn => gg.frame x o ho hn⟩
      · obtain ⟨z, rfl⟩ := gg.ext
        exact ⟨z ++ [D], by rw [List.append_assoc]⟩
      · rcases List.mem_append.mp hx with hx | hx
        · exact gg.new x hx
        · have : x = D := by simpa using hx
          subst this; exact .inr hD
    · obtain ⟨env', st3, b, st4, qg, qt, hf, ht⟩ := compT_step runT
      obtain ⟨go, yl⟩ := S.go ρ H st i d gg A q
      refine .inr ⟨go, fun H => ∃ ρ st acc us, Grow ρ1 H1 ρ H ∧ At X.K cl ρ H st ∧ RvE X.K H ρ (L2.wipe σ vs) (wipeE env vs) ∧ H D = some (.lst us) ∧ D ∉ ρ ∧ RvL X.K H ρ us acc ∧ compL s (compT g t ge c (wipeE env vs)) m (i + 1) acc st = some (.ok l, st'), fun H' w => ⟨m, Nat.lt_succ_self m, w⟩, fun x H' y => ?_⟩
      obtain ⟨ρ2, g2, A2, r2⟩ := yl x H' y
      have out : ∀ {ρ H ρ' H'}, Grow ρ H ρ' H' → H D ≠ none → D ∉ ρ → D ∉ ρ' := fun {ρ H ρ' H'} g h n m => by
        rcases g.new D m with z | z
        · exact n z
        · exact h z
      have e2 := ee.grow A g2
      have nD2 := out g2 (by rw [hDu]; simp) nD
      have hD2 := g2.frame D _ hDu nD
      refine ⟨ρ2, wipeE env vs, st, d, A2, e2, r2, ?_⟩
      rw [qg]
      refine fun ρ3 H3 σ3 g3 A3 e3 hw => ⟨by rw [hw, wipe_idem], ?_⟩
      have nD3 := out g3 (by rw [hD2]; simp) nD2
      have hD3 := g3.frame D _ hD2 nD2
      refine ⟨ρ3, env', st3, A3, e3, .inl ⟨b, st4, qt, fun ρ4 H4 b' g4 A4 rb => ?_⟩⟩
      have rb' : b' = b := rb
      subst rb'
      have nD4 := out g4 (by rw [hD3]; simp) nD3
      have hD4 := g4.frame D _ hD3 nD3
      have e4 := e3.grow A3 g4
      cases b' with
      | false =>
        obtain ⟨z1, z2⟩ := hf rfl
        subst z2
        exact iteF ⟨ρ4, stE, acc, us, gg.trans (g2.trans (g3.trans g4)), A4, (e2.grow A2 (g3.trans g4)), hD4, nD4, rl.grow A (g2.trans (g3.trans g4)), runN z1⟩
      | true =>
        obtain ⟨y, qe, z1⟩ := ht rfl
        obtain ⟨hl, run'⟩ := runS y z1
        refine iteT ⟨ρ4, env', st4, A4, e4, .inl ⟨y, stE, qe, fun ρ5 H5 v5 g5 A5 r5 => ?_⟩⟩
        have nD5 := out g5 (by rw [hD4]; simp) nD4
        have hD5 := g5.frame D _ hD4 nD4
        have g25 := g2.trans (g3.trans (g4.trans g5))
        refine ⟨us, hD5, by rw [rl.length]; have := sizeLine_eq; have e2 : lim = 16777216 := rfl; omega, ?_⟩
        obtain ⟨A6, k6⟩ := A5.beside (ws := us ++ [v5]) nD5 hD5
        have lift : ∀ {v : V} {d : MI.D}, Rv X.K H5 ρ5 v d → Rv X.K (upd H5 D (.lst (us ++ [v5]))) ρ5 v d := fun h => by
          have := h.keep k6 []; simpa using this
        have liftL : ∀ {v : List V} {d : List MI.D}, RvL X.K H5 ρ5 v d → RvL X.K (upd H5 D (.lst (us ++ [v5]))) ρ5 v d := fun h => by
          have := h.keep k6 []; simpa using this
        have liftE : ∀ {v : L2.St} {d : MI.Env}, RvE X.K H5 ρ5 v d → RvE X.K (upd H5 D (.lst (us ++ [v5]))) ρ5 v d := fun h => by
          have := h.keep k6 []; simpa using this
        have g15 := gg.trans g25
        refine ⟨ρ5, stE, acc ++ [y], us ++ [v5], ⟨g15.ext, g15.new, fun x o ho hn => ?_⟩, A6, liftE (ee.grow A g25), upd_same, nD5, (liftL (rl.grow A g25)).append (.cons (lift r5) .nil), run'⟩
        rw [upd_ne fun z => by rw [z, hD] at ho; cases ho]
        exact g15.frame x o ho hn
theorem me_comp {E' : EX} (vs : List Nat) (hv : own.map (·.2) = vs) (hc : X.calm = true) (hN : X.N.Nodup) (ok : BlkOk X.N X.env.scope scope own) (hi : MI_ X cl E c tg iter gi)
    (hg : ∀ (s : Shared) (H : Hp) (C : Addr) (cls : List (Str × Addr)) (fp : List Addr), PG (X.blk s H scope (compEnvC scope cls C X.env) fp) tg (TGw X.K cl vs (g c)))
    (ht : ∀ (s : Shared) (H : Hp) (C : Addr) (cls : List (Str × Addr)) (fp : List Addr), PTs (X.blk s H scope (compEnvC scope cls C X.env) fp) ifs (TM X.K cl E' rB (t c)))
    (he : ∀ (s : Shared) (H : Hp) (C : Addr) (cls : List (Str × Addr)) (fp : List Addr), PE (X.blk s H scope (compEnvC scope cls C X.env) fp) elt (TM X.K cl E' (rV X.K) (ge c)))
    (hs : ∀ x, foldedSetIterable iter X.env x = pure x := by intro _; rfl) : ME X cl E c (.ListComp elt [⟨tg, iter, ifs, 0⟩] scope pos) (eComp vs g gi t ge) :=
  peI (pe_lc hc hN hi ok hg ht he hs) fun σ H Q h => by
    subst hv
    exact tm_comp h
theorem tm_compF {E' : EX} {vs : List Nat} {σ : L2.St} {H : Hp} {Q : VK} (h : TM X.K cl E (rV X.K) (eCompF vs g gi t ge c) σ H Q) :
    tLc (TM X.K cl E (rS X.K cl) (gi c)) (TGw X.K cl vs (g c)) (TM X.K cl E' rB (t c)) (TM X.K cl E' (rV X.K) (ge c)) vs σ H (fz Q) := by
  obtain ⟨ρ, env, st, A, e, h⟩ := h
  refine (Rest.step (g := gi c) (rS X.K cl) A e h).imp fun J H1 ⟨ρ1, st1, s, g1, A1, S, h1⟩ => ?_
  have e1 := e.grow A g1
  have ew : RvE X.K H1 ρ1 (L2.wipe σ vs) (wipeE env vs) := RvE.wipe vs e1
  intro D hD
  have nD : D ∉ ρ1 := fun hm => A1.there hm hD
  obtain ⟨l, st', run, K1⟩ : ∃ l st', compL s (compT g t ge c (wipeE env vs)) c.fuel 0 [] st1 = some (.ok l, st') ∧ ∀ ρ' H' v, Grow ρ1 H1 ρ' H' → At X.K cl ρ' H' st' → Rv X.K H' ρ' v (.frz l) → Q v H' := by
    rcases h1 with ⟨d, st2, q, k⟩ | ⟨kc, fs, st2, q, k⟩
    · unfold bnd at q
      cases qq : compL s (compT g t ge c (wipeE env vs)) c.fuel 0 [] st1 with
      | none => rw [qq] at q; cases q
      | some pr =>
        obtain ⟨rs, st3⟩ := pr
        cases rs with
        | exc kc fs => exact absurd qq (compL_noexc _ _ _ _ _ _ _ _ _)
        | ok l =>
          rw [qq] at q
          cases q
          exact ⟨l, _, rfl, k⟩
    · unfold bnd at q
      cases qq : compL s (compT g t ge c (wipeE env vs)) c.fuel 0 [] st1 with
      | none => rw [qq] at q; cases q
      | some pr =>
        obtain ⟨rs, st3⟩ := pr
        cases rs with
        | exc kc fs => exact absurd qq (compL_noexc _ _ _ _ _ _ _ _ _)
        | ok l => rw [qq] at q; cases q
  obtain ⟨A2, g2⟩ := A1.side (o := .lst []) hD
  refine ⟨fun i m H => ∃ ρ st acc us, Grow ρ1 H1 ρ H ∧ At X.K cl ρ H st ∧ RvE X.K H ρ (L2.wipe σ vs) (wipeE env vs) ∧ H D = some (.lst us) ∧ D ∉ ρ ∧ RvL X.K H ρ us acc ∧ compL s (compT g t ge c (wipeE env vs)) m i acc st = some (.ok l, st'),
    ⟨c.fuel, ρ1, st1, [], [], g2, A2, ew.grow A1 g2, upd_same, nD, .nil, run⟩, ?_⟩
  rintro i m H ⟨ρ, st, acc, us, gg, A, ee, hDu, nD, rl, run⟩
  cases m with
  | zero => cases run
  | succ m =>
    rcases compL_step run with ⟨q, z1, z2⟩ | ⟨d, o, stE, q, runT, runN, runS⟩
    · subst z1 z2
      refine .inl ⟨S.stop ρ H _ i gg A q, ?_⟩
      refine .inr ⟨D, us, rfl, hDu, fun od => ?_⟩
      obtain ⟨A6, k6⟩ := A.besideF (od := od) nD hDu
      refine K1 ρ _ (.ref D) ⟨gg.ext, gg.new, fun x o ho hn => ?_⟩ A6 (.frz (.inl ⟨od, upd_same⟩) (by have := rl.keep k6 []; simpa using this))
      rw [upd_ne fun z => by rw [z, hD] at ho; cases ho]
      exact gg.frame x o ho hn
    · obtain ⟨env', st3, b, st4, qg, qt, hf, ht⟩ := compT_step runT
      obtain ⟨go, yl⟩ := S.go ρ H st i d gg A q
      refine .inr ⟨go, fun H => ∃ ρ st acc us, Grow ρ1 H1 ρ H ∧ At X.K cl ρ H st ∧ RvE X.K H ρ (L2.wipe σ vs) (wipeE env vs) ∧ H D = some (.lst us) ∧ D ∉ ρ ∧ RvL X.K H ρ us acc ∧ compL s (compT g t ge c (wipeE env vs)) m (i + 1) acc st = some (.ok l, st'), fun H' w => ⟨m, Nat.lt_succ_self m, w⟩, fun x H' y => ?_⟩
      obtain ⟨ρ2, g2, A2, r2⟩ := yl x H' y
      have out : ∀ {ρ H ρ' H'}, Grow ρ H ρ' H' → H D ≠ none → D ∉ ρ → D ∉ ρ' := fun {ρ H ρ' H'} g h n m => by
        rcases g.new D m with z | z
        · exact n z
        · exact h z
      have e2 := ee.grow A g2
      have nD2 := out g2 (by rw [hDu]; simp) nD
      have hD2 := g2.frame D _ hDu nD
      refine ⟨ρ2, wipeE env vs, st, d, A2, e2, r2, ?_⟩
      rw [qg]
      refine fun ρ3 H3 σ3 g3 A3 e3 hw => ⟨by rw [hw, wipe_idem], ?_⟩
      have nD3 := out g3 (by rw [hD2]; simp) nD2
      have hD3 := g3.frame D _ hD2 nD2
      refine ⟨ρ3, env', st3, A3, e3, .inl ⟨b, st4, qt, fun ρ4 H4 b' g4 A4 rb => ?_⟩⟩
      have rb' : b' = b := rb
      subst rb'
      have nD4 := out g4 (by rw [hD3]; simp) nD3
      have hD4 := g4.frame D _ hD3 nD3
      have e4 := e3.grow A3 g4
      cases b' with
      | false =>
        obtain ⟨z1, z2⟩ := hf rfl
        subst z2
        exact iteF ⟨ρ4, stE, acc, us, gg.trans (g2.trans (g3.trans g4)), A4, (e2.grow A2 (g3.trans g4)), hD4, nD4, rl.grow A (g2.trans (g3.trans g4)), runN z1⟩
      | true =>
        obtain ⟨y, qe, z1⟩ := ht rfl
        obtain ⟨hl, run'⟩ := runS y z1
        refine iteT ⟨ρ4, env', st4, A4, e4, .inl ⟨y, stE, qe, fun ρ5 H5 v5 g5 A5 r5 => ?_⟩⟩
        have nD5 := out g5 (by rw [hD4]; simp) nD4
        have hD5 := g5.frame D _ hD4 nD4
        have g25 := g2.trans (g3.trans (g4.trans g5))
        refine ⟨us, hD5, by rw [rl.length]; have := sizeLine_eq; have e2 : lim = 16777216 := rfl; omega, ?_⟩
        obtain ⟨A6, k6⟩ := A5.beside (ws := us ++ [v5]) nD5 hD5
        have lift : ∀ {v : V} {d : MI.D}, Rv X.K H5 ρ5 v d → Rv X.K (upd H5 D (.lst (us ++ [v5]))) ρ5 v d := fun h => by
          have := h.keep k6 []; simpa using this
        have liftL : ∀ {v : List V} {d : List MI.D}, RvL X.K H5 ρ5 v d → RvL X.K (upd H5 D (.lst (us ++ [v5]))) ρ5 v d := fun h => by
          have := h.keep k6 []; simpa using this
        have liftE : ∀ {v : L2.St} {d : MI.Env}, RvE X.K H5 ρ5 v d → RvE X.K (upd H5 D (.lst (us ++ [v5]))) ρ5 v d := fun h => by
          have := h.keep k6 []; simpa using this
        have g15 := gg.trans g25
        refine ⟨ρ5, stE, acc ++ [y], us ++ [v5], ⟨g15.ext, g15.new, fun x o ho hn => ?_⟩, A6, liftE (ee.grow A g25), upd_same, nD5, (liftL (rl.grow A g25)).append (.cons (lift r5) .nil), run'⟩
        rw [upd_ne fun z => by rw [z, hD] at ho; cases ho]
        exact g15.frame x o ho hn
theorem me_compF {E' : EX} (vs : List Nat) (hv : own.map (·.2) = vs) (hc : X.calm = true) (hN : X.N.Nodup) (ok : BlkOk X.N X.env.scope scope own) (hi : MI_ X cl E c tg iter gi)
    (hg : ∀ (s : Shared) (H : Hp) (C : Addr) (cls : List (Str × Addr)) (fp : List Addr), PG (X.blk s H scope (compEnvC scope cls C X.env) fp) tg (TGw X.K cl vs (g c)))
    (ht : ∀ (s : Shared) (H : Hp) (C : Addr) (cls : List (Str × Addr)) (fp : List Addr), PTs (X.blk s H scope (compEnvC scope cls C X.env) fp) ifs (TM X.K cl E' rB (t c)))
    (he : ∀ (s : Shared) (H : Hp) (C : Addr) (cls : List (Str × Addr)) (fp : List Addr), PE (X.blk s H scope (compEnvC scope cls C X.env) fp) elt (TM X.K cl E' (rV X.K) (ge c)))
    (hs : ∀ x, foldedSetIterable iter X.env x = pure x := by intro _; rfl) : ME X cl E c (.ListComp elt [⟨tg, iter, ifs, 0⟩] scope pos) (eCompF vs g gi t ge) :=
  peI (pe_fz (pe_lc hc hN hi ok hg ht he hs)) fun σ H Q h => by
    subst hv
    exact tm_compF h
theorem ps_fz {X : Cx} {s : Stmt} {t : TS} (h : PS X s t) : PS X s (fun D σ H => t { D with nx := fun σ' H' => D.nx σ' H' ∨ ∃ a vs, H' a = some (.lst vs) ∧ ∀ od, D.nx σ' (upd H' a (.frz od (.lst vs))) } σ H) := ⟨fun pins s σ H D I q => thn (h.run pins s σ H _ I q) fun f s1 z => by
  cases f with
  | next =>
    obtain ⟨σ', H', I', q | ⟨a, vs, hl, q⟩⟩ := z
    · exact ⟨σ', H', I', q⟩
    · obtain ⟨od, I2⟩ := I'.lock hl trivial
      exact ⟨σ', _, I2, q od⟩
  | ret v => exact z
  | brk => exact z
  | cont => exact z⟩
theorem tLc_imp {wi : TI} {g : TG} {tt : TT} {te : TE} {vs : List Nat} {σ : L2.St} {H : Hp} {Q Q' : VK} (h : tLc wi g tt te vs σ H Q) (mono : ∀ σ H (R R' : It → Hp → Prop), (∀ J H, R J H → R' J H) → wi σ H R → wi σ H R') (i : ∀ v H, Q v H → Q' v H) : tLc wi g tt te vs σ H Q' := by
  refine mono _ _ _ _ (fun J H1 q => ?_) h
  intro D hD
  obtain ⟨W, w0, turn⟩ := q D hD
  refine ⟨W, w0, fun k m H w => ?_⟩
  rcases turn k m H w with ⟨a, b⟩ | r
  · exact .inl ⟨a, i _ _ b⟩
  · exact .inr r
theorem ms_setLc {E' : EX} {i : Nat} {y : Str} {py spos : Pos} (vs : List Nat) (hv : own.map (·.2) = vs) (hc : X.calm = true) (hN : X.N.Nodup) (ok : BlkOk X.N X.env.scope scope own) (hi : MI_ X cl E c tg iter gi)
    (hg : ∀ (s : Shared) (H : Hp) (C : Addr) (cls : List (Str × Addr)) (fp : List Addr), PG (X.blk s H scope (compEnvC scope cls C X.env) fp) tg (TGw X.K cl vs (g c)))
    (ht : ∀ (s : Shared) (H : Hp) (C : Addr) (cls : List (Str × Addr)) (fp : List Addr), PTs (X.blk s H scope (compEnvC scope cls C X.env) fp) ifs (TM X.K cl E' rB (t c)))
    (he : ∀ (s : Shared) (H : Hp) (C : Addr) (cls : List (Str × Addr)) (fp : List Addr), PE (X.blk s H scope (compEnvC scope cls C X.env) fp) elt (TM X.K cl E' (rV X.K) (ge c)))
    (hsw : swapsWith (.ListComp elt [⟨tg, iter, ifs, 0⟩] scope pos) (some (.Name y py)) spos.line X.env = pure true) (hy : X.N[i]? = some y := by rfl) (hyl : X.env.scope.names.lookup y = some .local := by rfl)
    (hs : ∀ x, foldedSetIterable iter X.env x = pure x := by intro _; rfl) : MST X cl E c (.Assign [.Name y py] (.ListComp elt [⟨tg, iter, ifs, 0⟩] scope pos) spos) (sSet i (eComp vs g gi t ge)) :=
  psI (ps_setLc hc hN hy hyl hsw hi ok hg ht he hs) fun D σ H ⟨ρ, env, st, A, e, h⟩ => by
    subst hv
    refine tm_comp ((RestS.step (x := eComp (own.map (·.2)) g gi t ge c) (rV X.K) A e h).imp fun v1 H1 ⟨ρ1, st1, d1, g1, A1, r1, h1⟩ => ?_)
    by_cases hl : i < env.length
    · rw [if_pos hl] at h1
      exact h1 ρ1 H1 _ .refl A1 (RvE.set r1 i (e.grow A g1))
    · rw [if_neg hl] at h1; exact h1.elim
theorem ms_setLcF {E' : EX} {i : Nat} {y : Str} {py spos : Pos} (vs : List Nat) (hv : own.map (·.2) = vs) (hc : X.calm = true) (hN : X.N.Nodup) (ok : BlkOk X.N X.env.scope scope own) (hi : MI_ X cl E c tg iter gi)
    (hg : ∀ (s : Shared) (H : Hp) (C : Addr) (cls : List (Str × Addr)) (fp : List Addr), PG (X.blk s H scope (compEnvC scope cls C X.env) fp) tg (TGw X.K cl vs (g c)))
    (ht : ∀ (s : Shared) (H : Hp) (C : Addr) (cls : List (Str × Addr)) (fp : List Addr), PTs (X.blk s H scope (compEnvC scope cls C X.env) fp) ifs (TM X.K cl E' rB (t c)))
    (he : ∀ (s : Shared) (H : Hp) (C : Addr) (cls : List (Str × Addr)) (fp : List Addr), PE (X.blk s H scope (compEnvC scope cls C X.env) fp) elt (TM X.K cl E' (rV X.K) (ge c)))
    (hsw : swapsWith (.ListComp elt [⟨tg, iter, ifs, 0⟩] scope pos) (some (.Name y py)) spos.line X.env = pure true) (hy : X.N[i]? = some y := by rfl) (hyl : X.env.scope.names.lookup y = some .local := by rfl)
    (hs : ∀ x, foldedSetIterable iter X.env x = pure x := by intro _; rfl) : MST X cl E c (.Assign [.Name y py] (.ListComp elt [⟨tg, iter, ifs, 0⟩] scope pos) spos) (sSet i (eCompF vs g gi t ge)) :=
  psI (ps_fz (ps_setLc hc hN hy hyl hsw hi ok hg ht he hs)) fun D σ H ⟨ρ, env, st, A, e, h⟩ => by
    subst hv
    have h' : tLc _ _ _ _ (own.map (·.2)) σ H (fz fun v1 H1 => D.nx (σ.set i (some v1)) H1) := tm_compF (E' := E') ((RestS.step (x := eCompF (own.map (·.2)) g gi t ge c) (rV X.K) A e h).imp fun v1 H1 ⟨ρ1, st1, d1, g1, A1, r1, h1⟩ => by
      by_cases hl : i < env.length
      · rw [if_pos hl] at h1
        exact h1 ρ1 H1 _ .refl A1 (RvE.set r1 i (e.grow A g1))
      · rw [if_neg hl] at h1; exact h1.elim)
    refine tLc_imp h' (fun σ H R R' im w => w.imp im) fun v H1 q => ?_
    rcases q with q | ⟨a, us, rfl, hl, q⟩
    · exact .inl q
    · exact .inr ⟨a, us, hl, q⟩
end
end MS

set_option Elab.async false
set_option linter.all false
set_option maxRecDepth 100000
set_option maxHeartbeats 4000000
/-! MS12: a written dict's get; a def does what its text does. -/
namespace MS
open PySem PySem.Spec PyProof.Rows L2 MI

section
variable {X : Cx} {cl : Nat → Addr} {E : EX} {c : MI.Ctx} {a b e : Expr} {ga gb ge : SE} {pos dpos apos cpos : Pos}
/-! ### {'a': 1, ..}.get(x, y) -/
def kvT (kvs : List (List Nat × Int)) : List (TE × TE) := kvs.map fun p => (tC (.str (sD p.1)), tC (.int p.2))
def kvK (kvs : List (List Nat × Int)) : List (Key × V) := kvs.map fun p => (.inr (sD p.1), .int p.2)
theorem pairs_const (kvs : List (List Nat × Int)) : ∀ (σ : L2.St) (H : Hp) (Q : List (V × V) → Hp → Prop), Q (kvs.map fun p => (.str (sD p.1), .int p.2)) H → tPairs (kvT kvs) σ H Q := by
  induction kvs with
  | nil => exact fun _ _ _ q => q
  | cons p r ih => exact fun σ H Q q => ih σ H _ q
theorem valV_merge (k : Key) : ∀ (more acc : List (Key × V)), (more.map (·.1)).Nodup → valV (mergeK acc more) k = (valV more k).or (valV acc k)
  | [], acc, _ => by show valV acc k = _; rw [valV_nil]; rfl
  | p :: r, acc, h => by
    rw [List.map_cons, List.nodup_cons] at h
    show valV (mergeK (putK acc p.1 p.2) r) k = _
    rw [valV_merge k r _ h.2, valV_put]
    by_cases e : p.1 = k
    · have hn : valV r k = none := by
        unfold valV
        rw [Option.map_eq_none_iff, List.find?_eq_none]
        intro q hq hk
        have : q.1 = k := by simpa using hk
        exact h.1 (List.mem_map.mpr ⟨q, hq, this.trans e.symm⟩)
      rw [hn, valV_pos e, if_pos e.symm]; rfl
    · rw [valV_neg e, if_neg (fun z => e z.symm)]
theorem valV_kvK (s : List Nat) : ∀ kvs : List (List Nat × Int), valV (kvK kvs) (.inr (sD s)) = (lookI kvs s).map V.int
  | [] => rfl
  | p :: r => by
    show valV ((.inr (sD p.1), .int p.2) :: kvK r) (.inr (sD s)) = _
    by_cases e : p.1 = s
    · rw [valV_pos (by rw [e])]
      simp [lookI, e]
    · rw [valV_neg (fun z => e (sD_inj (Sum.inr.inj z))), valV_kvK s r]
      unfold lookI
      rw [List.find?_cons_of_neg (by simpa using e)]
theorem kvK_nodup {kvs : List (List Nat × Int)} (h : (kvs.map (·.1)).Nodup) : ((kvK kvs).map (·.1)).Nodup := by
  unfold kvK
  rw [List.map_map]
  have : (kvs.map ((fun p : Key × V => p.1) ∘ fun p : List Nat × Int => ((Sum.inr (sD p.1) : Key), V.int p.2))) = (kvs.map (·.1)).map fun s => (Sum.inr (sD s) : Key) := by
    rw [List.map_map]; rfl
  rw [this]
  exact List.Pairwise.map (fun s => (Sum.inr (sD s) : Key)) (fun x y n z => n (sD_inj (Sum.inr.inj z))) h
theorem tm_dget {kvs : List (List Nat × Int)} (nd : (kvs.map (·.1)).Nodup) (hl : kvs.length ≤ 15) {σ : L2.St} {H : Hp} {Q : VK} (h : TM X.K cl E (rV X.K) (eDGet kvs ga gb c) σ H Q) :
    tDGet2 (tDisp (kvT kvs)) (TM X.K cl E (rV X.K) (ga c)) (TM X.K cl E (rV X.K) (gb c)) σ H Q := by
  obtain ⟨ρ, env, st, A, e, h⟩ := h
  intro p hn
  refine pairs_const kvs σ _ _ ⟨upd_same, kvK kvs, ?_, by unfold kvK; rw [List.length_map]; exact hl, ?_⟩
  · unfold kvK; rw [List.map_map]; rfl
  rw [L2.upd_upd]
  obtain ⟨A', g'⟩ := A.side (o := .dK (mergeK [] (kvK kvs))) hn
  have np : p ∉ ρ := fun m => A.there m hn
  refine ⟨p, rfl, .inl ⟨_, .inl upd_same⟩, ?_⟩
  refine (Rest.step (g := ga c) (rV X.K) A' (e.grow A g') (h.base g')).imp fun v1 H1 ⟨ρ1, st1, d1, g1, A1, r1, h1⟩ => ?_
  refine (Rest.step (g := gb c) (rV X.K) A1 ((e.grow A g').grow A' g1) h1).imp fun v2 H2 ⟨ρ2, st2, d2, g2, A2, r2, h2⟩ => ?_
  have hp2 : H2 p = some (.dK (mergeK [] (kvK kvs))) := (g1.trans g2).frame p _ upd_same np
  have r1' := r1.grow A1 g2
  cases r1' with
  | str s =>
    refine ⟨(lookI kvs s).map V.int, .inl ⟨_, .inr (sD s), .inl hp2, rfl, ?_⟩, ?_⟩
    · rw [valV_merge _ _ _ (kvK_nodup nd), valV_kvK, valV_nil, Option.or_none]
    · cases q : lookI kvs s with
      | none => exact h2.ok (st' := st2) (d := d2) (by simp [q, MI.ret]) .refl A2 r2
      | some i => exact h2.ok (st' := st2) (d := .int i) (by simp [q, MI.ret]) .refl A2 (.int i)
  | _ => exact h2.none rfl
theorem me_dget (kvs : List (List Nat × Int)) {keys : List (Option Expr)} {values : List Expr} (hu : X.A.units + 1 < cLine) (hk : PPs X dpos keys values (kvT kvs)) (ha : ME X cl E c a ga) (hb : ME X cl E c b gb)
    (m : M2 X (.Dict keys values dpos) "get" apos a b cpos) (nd : (kvs.map (·.1)).Nodup := by decide +kernel) (hl : kvs.length ≤ 15 := by decide) (hall : keys.all (·.isSome) = true := by rfl) (hlen : keys.length = values.length := by rfl) (h0 : keys ≠ [] := by simp) (h15 : keys.length ≤ 15 := by decide) :
    ME X cl E c (.Call (.Attribute (.Dict keys values dpos) "get" apos) [a, b] [] cpos) (eDGet kvs ga gb) :=
  peI (pe_dget2 hu (pe_disp hk hall hlen h0 h15) ha hb m) fun σ H Q h => tm_dget nd hl h
theorem tm_dix {kvs : List (List Nat × Int)} (nd : (kvs.map (·.1)).Nodup) (hl : kvs.length ≤ 15) {σ : L2.St} {H : Hp} {Q : VK} (h : TM X.K cl E (rV X.K) (eDIx kvs ga c) σ H Q) :
    tDGet (tDisp (kvT kvs)) (TM X.K cl E (rV X.K) (ga c)) σ H Q := by
  obtain ⟨ρ, env, st, A, e, h⟩ := h
  intro p hn
  refine pairs_const kvs σ _ _ ⟨upd_same, kvK kvs, ?_, by unfold kvK; rw [List.length_map]; exact hl, ?_⟩
  · unfold kvK; rw [List.map_map]; rfl
  rw [L2.upd_upd]
  obtain ⟨A', g'⟩ := A.side (o := .dK (mergeK [] (kvK kvs))) hn
  have np : p ∉ ρ := fun m => A.there m hn
  refine (Rest.step (g := ga c) (rV X.K) A' (e.grow A g') (h.base g')).imp fun v1 H1 ⟨ρ1, st1, d1, g1, A1, r1, h1⟩ => ?_
  have hp2 : H1 p = some (.dK (mergeK [] (kvK kvs))) := g1.frame p _ upd_same np
  cases r1 with
  | str s =>
    cases q : lookI kvs s with
    | none => exact h1.none (by simp [q, MI.fail])
    | some i =>
      refine ⟨p, .int i, rfl, .inl ⟨_, .inr (sD s), .inl hp2, rfl, ?_⟩, h1.ok (st' := st1) (d := .int i) (by simp [q, MI.ret]) .refl A1 (.int i)⟩
      rw [valV_merge _ _ _ (kvK_nodup nd), valV_kvK, valV_nil, Option.or_none, q]; rfl
  | _ => exact h1.none rfl
theorem me_dix (kvs : List (List Nat × Int)) {keys : List (Option Expr)} {values : List Expr} (hu : X.A.units + 1 < cLine) (hk : PPs X dpos keys values (kvT kvs)) (ha : ME X cl E c a ga) (hs : NoSl a)
    (nd : (kvs.map (·.1)).Nodup := by decide +kernel) (hl : kvs.length ≤ 15 := by decide) (hall : keys.all (·.isSome) = true := by rfl) (hlen : keys.length = values.length := by rfl) (h0 : keys ≠ [] := by simp) (h15 : keys.length ≤ 15 := by decide) :
    ME X cl E c (.Subscript (.Dict keys values dpos) a pos) (eDIx kvs ga) :=
  peI (pe_dget hu (pe_disp hk hall hlen h0 h15) ha hs) fun σ H Q h => tm_dix nd hl h
end

/-! ### defs -/
section
variable {P : Program} {w : World} {K : PySem.W.Frag} {mg : Str → Option Value} {base : Heap} {cl : Nat → Addr}
/-- nothing is promised of the depth 0 -/
theorem fnT_fail {x qual : Str} {params : Arguments} {body : List Stmt} {scope : Scope} {f : Addr} {fd : FuncData} {ps N : List Str} (F : FunD K x qual params body scope [] [] f fd) (S : FnScope N ps scope) (hb : Binds K fd ps []) : FnT P w K mg base cl 0 f (fun _ => MI.fail) := by
  refine ⟨fd, ps, ⟨fun vs H Q E h => h.1, fun A outer s H args us vs Q E _ _ _ _ _ h => ?_⟩, hb, F.kp, fun ds st r h => by cases h⟩
  obtain ⟨_, ρ, ds, st, A, r, h⟩ := h
  exact h.none rfl
theorem rve_start {H : Hp} {ρ : List Addr} : ∀ {vs : List V} {ds : List D}, RvL K H ρ vs ds → ∀ n, RvE K H ρ (vs.map some ++ List.replicate n none) (ds.map some ++ List.replicate n none)
  | _, _, .nil, n => by
    simp only [List.map_nil, List.nil_append]
    induction n with
    | zero => exact .nil
    | succ n ih => exact .hole ih
  | _, _, .cons h r, n => .val h (rve_start r n)
theorem fnOk_body {x qual : Str} {params : Arguments} {body : List Stmt} {scope : Scope} {f : Addr} {fd : FuncData} {ps N : List Str} {lv : Nat} {c : MI.Ctx} (fn : MI.Fn) (F : FunD K x qual params body scope [] [] f fd) (S : FnScope N ps scope) (hb : Binds K fd ps []) (hp : fn.pars = ps.length) (hs : fn.slots = N.length)
    (flds : ∀ k f, c.flds k f = true → NoAttr K (cl k) (sD f) ∧ Cls K (cl k)) (meth : ∀ k m f, c.meth k m = some f → ∃ fA, Meth K (cl k) (sD m) fA ∧ FnT P w K mg base cl lv fA (c.call f))
    (hbody : ∀ (cdv : Value) (A : Around) (outer : List PySem.Env) (s : Shared) (H : Hp) (E : XK), Good (cxOf (L2.CX P w) P w K mg base N qual scope f cdv A outer s H E) (fun cls d _ H => E cls d H) cl c lv →
      PassesOwn (model P w) (cxOf (L2.CX P w) P w K mg base N qual scope f cdv A outer s H E).A (cxOf (L2.CX P w) P w K mg base N qual scope f cdv A outer s H E).env (cxOf (L2.CX P w) P w K mg base N qual scope f cdv A outer s H E).xe →
      MSS (cxOf (L2.CX P w) P w K mg base N qual scope f cdv A outer s H E) cl (EXW K cl fun cls d _ H => E cls d H) c body fn.body) : FnOk P w K mg base (L2.CX P w) (lv + 2) f fd ps (spOf K cl ps.length (fn.run c)) := by
  refine FunD.okG F S (fun vs H Q E h => h.1) (fun cdv A outer s H vs Q E hgd hr h => ?_)
  · have G : Good (cxOf (L2.CX P w) P w K mg base N qual scope f cdv A outer s H E) (fun cls d _ H => E cls d H) cl c lv := ⟨takes_of rfl rfl rfl rfl, hr, rfl, hgd, S.nd, flds, meth⟩
    refine ⟨_, hbody cdv A outer s H E G PassesOwn.leaving, ?_⟩
    obtain ⟨hl, ρ, ds, st, A0, r, h⟩ := h
    have hld : ds.length = fn.pars := by rw [hp, ← hl]; exact r.length.symm
    refine ⟨ρ, ds.map some ++ List.replicate (fn.slots - fn.pars) none, st, A0, ?_, ?_⟩
    · have := rve_start r (N.length - vs.length)
      rw [hs, hp, ← hl]
      exact this
    · have run : ∀ rr, fn.run c ds st = some rr → ∃ q, fn.body c (ds.map some ++ List.replicate (fn.slots - fn.pars) none) st = some q ∧ (match q with
          | (.rt d, _, st') => rr = (.ok d, st')
          | (.nx, _, st') => rr = (.ok .non, st')
          | (.ex k fs, _, st') => rr = (.exc k fs, st')
          | _ => False) := fun rr q => by
        unfold MI.Fn.run at q
        rw [if_pos hld] at q
        cases q2 : fn.body c (ds.map some ++ List.replicate (fn.slots - fn.pars) none) st with
        | none => rw [q2] at q; cases q
        | some p =>
          obtain ⟨fl, env', st'⟩ := p
          rw [q2] at q
          refine ⟨_, rfl, ?_⟩
          cases fl <;> first
            | (cases q; rfl)
            | (cases q)
      rcases h with ⟨d, st', q, k⟩ | ⟨kc, fs, st', q, k⟩
      · obtain ⟨q2, e2, m⟩ := run _ q
        rw [e2]
        obtain ⟨fl, env', st2⟩ := q2
        cases fl with
        | rt d' => cases m; exact fun ρ' H' v g A r => k ρ' H' v g A r
        | nx => cases m; exact fun ρ' H' σ' g A r => k ρ' H' .non g A .non
        | bk => exact m.elim
        | ct => exact m.elim
        | ex _ _ => cases m
      · obtain ⟨q2, e2, m⟩ := run _ q
        rw [e2]
        obtain ⟨fl, env', st2⟩ := q2
        cases fl with
        | rt d' => cases m
        | nx => cases m
        | bk => exact m.elim
        | ct => exact m.elim
        | ex k' fs' => cases m; exact fun ρ' H' σ' g A r => fun d x => k ρ' H' g A d x
theorem fnT_body {x qual : Str} {params : Arguments} {body : List Stmt} {scope : Scope} {f : Addr} {fd : FuncData} {ps N : List Str} {lv : Nat} {c : MI.Ctx} (fn : MI.Fn) (F : FunD K x qual params body scope [] [] f fd) (S : FnScope N ps scope) (hb : Binds K fd ps []) (hp : fn.pars = ps.length) (hs : fn.slots = N.length)
    (flds : ∀ k f, c.flds k f = true → NoAttr K (cl k) (sD f) ∧ Cls K (cl k)) (meth : ∀ k m f, c.meth k m = some f → ∃ fA, Meth K (cl k) (sD m) fA ∧ FnT P w K mg base cl lv fA (c.call f))
    (hbody : ∀ (cdv : Value) (A : Around) (outer : List PySem.Env) (s : Shared) (H : Hp) (E : XK), Good (cxOf (L2.CX P w) P w K mg base N qual scope f cdv A outer s H E) (fun cls d _ H => E cls d H) cl c lv →
      PassesOwn (model P w) (cxOf (L2.CX P w) P w K mg base N qual scope f cdv A outer s H E).A (cxOf (L2.CX P w) P w K mg base N qual scope f cdv A outer s H E).env (cxOf (L2.CX P w) P w K mg base N qual scope f cdv A outer s H E).xe →
      MSS (cxOf (L2.CX P w) P w K mg base N qual scope f cdv A outer s H E) cl (EXW K cl fun cls d _ H => E cls d H) c body fn.body) : FnT P w K mg base cl (lv + 2) f (fn.run c) :=
  ⟨fd, ps, fnOk_body fn F S hb hp hs flds meth hbody, hb, F.kp, fun ds st r h => by
    unfold MI.Fn.run at h
    by_cases e : ds.length = fn.pars
    · rw [← hp]; exact e
    · rw [if_neg e] at h; cases h⟩
end
/-! ### the module's names -/
/-- x stands for the value d -/
def ConM (K : PySem.W.Frag) (mg : Str → Option Value) (x : Str) (d : D) : Prop := ∃ u v, mg x = some u ∧ RelV v u ∧ ∀ H ρ, Rv K H ρ v d
structure Mod (P : Program) (w : World) (K : PySem.W.Frag) (mg : Str → Option Value) (base : Heap) (cl : Nat → Addr) (c : MI.Ctx) (lv : Nat) (fns : List (Str × Nat)) (clss : List (Str × Nat × Nat)) (frees : List Str) (cons : List (Str × D)) : Prop where
  fn : ∀ (i : Nat) x f, fns[i]? = some (x, f) → ∃ fA, mg x = some (.ref fA) ∧ FnT P w K mg base cl lv fA (c.call f)
  cl : ∀ (i : Nat) x k f, clss[i]? = some (x, k, f) → mg x = some (.ref (cl k)) ∧ Cls K (cl k) ∧ ∃ fA, Mk K (cl k) fA ∧ FnT P w K mg base cl lv fA (c.call f)
  fr : ∀ (i : Nat) x, frees[i]? = some x → mg x = none
  con : ∀ (i : Nat) x d, cons[i]? = some (x, d) → ConM K mg x d
theorem me_con {X : Cx} {cl : Nat → Addr} {E : EX} {c : MI.Ctx} {x : Str} {d : D} {pos : Pos} (h : ConM X.K X.mg x d) (hg : Gl X x) (hd : (x == ("__debug__" : Str)) = false := by decide +kernel) : ME X cl E c (.Name x pos) (eC d) := by
  obtain ⟨u, v, h1, h2, h3⟩ := h
  exact me_glob hg h1 h2 h3 hd
theorem call_sortedA {X : Cx} : CallR X (.builtin "sorted") (fun vs H Q => rSortedI X.K vs H Q ∨ ∃ (a : Addr) (ns : List Int), vs = [V.ref a] ∧ SqT X.K H a (ns.map V.int) ∧ ∀ (ns' : List Int) (p : Addr), ns'.Perm ns → ns'.Pairwise (· ≤ ·) → H p = none → Q (.ref p) (upd H p (.lst (ns'.map V.int)))) := by
  intro pins s σ H xs us Q I r h
  rcases h with h | h
  · exact cr_sortedI pins s σ H xs us Q I r h
  · exact cr_sortedIT pins s σ H xs us Q I r h
theorem call_sortedAF {X : Cx} : CallR X (.builtin "sorted") (fun vs H Q => rSortedI X.K vs H (fz Q) ∨ ∃ (a : Addr) (ns : List Int), vs = [V.ref a] ∧ SqT X.K H a (ns.map V.int) ∧ ∀ (ns' : List Int) (p : Addr), ns'.Perm ns → ns'.Pairwise (· ≤ ·) → H p = none → fz Q (.ref p) (upd H p (.lst (ns'.map V.int)))) := MS.CallR.fz call_sortedA
theorem call_list_ofF {X : Cx} : CallR X (.type "list") (fun xs H Q => ∃ p ys, xs = [.ref p] ∧ (SqL X.K H p ys ∨ SqT X.K H p ys) ∧ ∀ l, H l = none → fz Q (.ref l) (upd H l (.lst ys))) := MS.CallR.fz call_list_of
theorem B_len : bootBuiltins "len" = some (.builtin "len") := by decide +kernel
theorem B_int : bootBuiltins "int" = some (.type "int") := by decide +kernel
theorem B_abs : bootBuiltins "abs" = some (.builtin "abs") := by decide +kernel
theorem B_tuple : bootBuiltins "tuple" = some (.type "tuple") := by decide +kernel
theorem B_list : bootBuiltins "list" = some (.type "list") := by decide +kernel
theorem B_min : bootBuiltins "min" = some (.builtin "min") := by decide +kernel
theorem B_max : bootBuiltins "max" = some (.builtin "max") := by decide +kernel
theorem B_sum : bootBuiltins "sum" = some (.builtin "sum") := by decide +kernel
theorem B_all : bootBuiltins "all" = some (.builtin "all") := by decide +kernel
theorem B_any : bootBuiltins "any" = some (.builtin "any") := by decide +kernel
theorem B_sorted : bootBuiltins "sorted" = some (.builtin "sorted") := by decide +kernel
/-- the head's Hook: facts, defs, one more word of the written part -/
abbrev AlM : Type := He.AlD × Bool
def obsM (n : Nat) (fa : List He.Fa) (fn : List He.DefD) (ex : PySem.W.Frag → Bool) (g : Addr → Option Obj) : AlM := (He.obsD fa fn (He.frG g (He.asD g n)), ex (He.frG g (He.asD g n)))
def hookM (n : Nat) (fa : List He.Fa) (fn : List He.DefD) (ex : PySem.W.Frag → Bool) : PySem.W.Hook where
  α := AlM
  obs := fun s => obsM n fa fn ex s.heap.get?
  val := fun _ => (He.valD fn, true)
  says := fun _ h => ∃ K : PySem.W.Frag, K.In h ∧ He.SaysD fa fn K ∧ ex K = true
  of := fun _ _ e => ⟨_, He.frG_in, congrArg (fun z : AlM => z.1) e, congrArg (fun z : AlM => z.2) e⟩
  keeps := fun _ _ _ ⟨K, hK, c⟩ k => ⟨K, PySem.W.Frag.In.keeps hK k, c⟩
theorem obsM_eq {n : Nat} {fa : List He.Fa} {fn : List He.DefD} {ex : PySem.W.Frag → Bool} {g : Addr → Option Obj} {s : Shared} (h : ∀ a, g a = s.heap.get? a) : obsM n fa fn ex g = (hookM n fa fn ex).obs s := by
  have e : g = s.heap.get? := funext h
  rw [e] <;> rfl
/-- the script -/
theorem rv_script {K : PySem.W.Frag} {H : Hp} {a : Addr} {ns : List Int} (hO : Only H) (h : SqL K H a (ns.map V.int)) : RvL K H [] [V.ref a] [D.frz (ns.map D.int)] := by
  have hl : ∀ ns : List Int, RvL K H [] (ns.map V.int) (ns.map D.int) := fun ns => by
    induction ns with
    | nil => exact .nil
    | cons x xs ih => exact .cons (.int x) ih
  refine .cons (.frz ?_ (hl ns)) .nil
  rcases h with (h | h) | h
  · rcases hO a with z | ⟨o, xs, z⟩ <;> (rw [z] at h; cases h)
  · exact .inl h
  · exact .inr h
theorem at_none {K : PySem.W.Frag} {cl : Nat → Addr} {H : Hp} : At K cl [] H [] := ⟨rfl, List.nodup_nil, fun n a o h _ => by cases h⟩
/-- the law's promise, from its run -/
theorem sp_law {K : PySem.W.Frag} {cl : Nat → Addr} {g : List D → MI.R D} (pure : ∀ ns : List Int, ns.length ≤ 63 → ∃ st, g [.frz (ns.map D.int)] [] = some (.ok (.bl true), st)) {H : Hp} {a : Addr} {ns : List Int} (hl : ns.length ≤ 63) (hO : Only H) (h : SqL K H a (ns.map V.int)) :
    spOf K cl 1 g [.ref a] H (fun v _ => v = .bl true) fun _ _ _ => False := by
  obtain ⟨st, e⟩ := pure ns hl
  refine ⟨rfl, [], _, [], at_none, rv_script hO h, .inl ⟨_, st, e, fun ρ' H' v _ _ r => ?_⟩⟩
  cases r; rfl
theorem hu1 {X : Cx} {W : WX} {cl : Nat → Addr} {c : MI.Ctx} {lv : Nat} (G : Good X W cl c lv) : X.A.units + 1 < cLine := by
  have := G.hu
  omega
theorem pe_strW {X : Cx} {x : Str} {j : Nat} {pos : Pos} (s : List Nat) (hx : x = sD s := by decide +kernel) : PE X (.Constant (.str x) j pos) (tC (.str (sD s))) := by
  subst hx
  exact pe_str
theorem hu64 {X : Cx} {W : WX} {cl : Nat → Addr} {c : MI.Ctx} {lv : Nat} (G : Good X W cl c lv) : X.A.units + 64 < cLine := by
  have := G.hu
  omega

/-! ### calls that touch no store -/
section
variable {P : Program} {w : World} {K : PySem.W.Frag} {mg : Str → Option Value} {base : Heap} {cl : Nat → Addr}
mutual
theorem rv_lf {H : Hp} {ρ ρ' : List Addr} : ∀ {v : V} {d : D}, D.lf d = true → Rv K H ρ v d → Rv K H ρ' v d
  | _, _, _, .non => .non
  | _, _, _, .bl b => .bl b
  | _, _, _, .int i => .int i
  | _, _, _, .str s => .str s
  | _, _, h, .tup hs r => .tup hs (rvL_lf (by simpa [D.lf] using h) r)
  | _, _, h, .frz hs r => .frz hs (rvL_lf (by simpa [D.lf] using h) r)
  | _, _, h, .xtup hs r => .xtup hs (rvL_lf (by simpa [D.lf] using h) r)
  | _, _, h, .loc _ => by simp [D.lf] at h
theorem rvL_lf {H : Hp} {ρ ρ' : List Addr} : ∀ {vs : List V} {ds : List D}, D.lfL ds = true → RvL K H ρ vs ds → RvL K H ρ' vs ds
  | _, _, _, .nil => .nil
  | _, _, h, .cons r rr => by
    have h' := Bool.and_eq_true_iff.mp (by simpa [D.lfL] using h)
    exact .cons (rv_lf h'.1 r) (rvL_lf h'.2 rr)
end
theorem rvF_lf {H : Hp} {ρ ρ' : List Addr} : ∀ {vs : List (Str × V)} {fs : List (List Nat × D)}, D.lfL (fs.map (·.2)) = true → RvF K H ρ vs fs → RvF K H ρ' vs fs
  | _, _, _, .nil => .nil
  | _, _, h, .cons r rr => by
    have h' := Bool.and_eq_true_iff.mp (by simpa [D.lfL] using h)
    exact .cons (rv_lf h'.1 r) (rvF_lf h'.2 rr)
theorem rvF_nil {H : Hp} {ρ ρ' : List Addr} {fs : List (List Nat × D)} {d : Option Addr} (h : D.lfL (fs.map (·.2)) = true) (x : XD K d H ρ fs) : XD K d H ρ' fs := by
  cases d with
  | none => exact x
  | some a => obtain ⟨vfs, e, r⟩ := x; exact ⟨vfs, e, rvF_lf h r⟩
theorem At.still {ρ : List Addr} {H H' : Hp} {st : Stt} (A : At K cl ρ H st) (fr : ∀ a o, H a = some o → H' a = some o) : At K cl ρ H' st ∧ Grow ρ H ρ H' := by
  have k : Keep K H H' := ⟨fun b vs h => by
      rcases h with (h | ⟨o, h⟩) | h
      · exact .inl (.inl (fr _ _ h))
      · exact .inl (.inr ⟨o, fr _ _ h⟩)
      · exact .inr h, fun b vs h => by
      rcases h with ⟨o, h⟩ | h
      · exact .inl ⟨o, fr _ _ h⟩
      · exact .inr h, fun b vs ⟨o, h, q⟩ => ⟨o, fr _ _ h, q⟩⟩
  refine ⟨⟨A.len, A.nd, fun i a u h1 h2 => ?_⟩, ⟨⟨[], by simp⟩, fun _ h => .inl h, fun a o h _ => fr a o h⟩⟩
  have r := A.obj i a u h1 h2
  have e : H' a = H a := by
    rcases r.mut with ⟨vs, q⟩ | ⟨c, dx, vfs, q⟩ <;> rw [q, fr _ _ q]
  have := r.keep k [] e
  simpa using this
theorem keep_lock {H : Hp} {a : Addr} {vs : List V} {od : Obj} (h : H a = some (.lst vs)) : Keep K H (upd H a (.frz od (.lst vs))) := ⟨fun b us h' => by
    rcases h' with (h' | ⟨o, h'⟩) | h'
    · exact .inl (.inl (by rw [upd_ne (fun e => by rw [e, h] at h'; cases h')]; exact h'))
    · exact .inl (.inr ⟨o, by rw [upd_ne (fun e => by rw [e, h] at h'; cases h')]; exact h'⟩)
    · exact .inr h', fun b us h' => by
    rcases h' with ⟨o, h'⟩ | h'
    · exact .inl ⟨o, by rw [upd_ne (fun e => by rw [e, h] at h'; cases h')]; exact h'⟩
    · exact .inr h', fun b us ⟨o, h', q⟩ => ⟨o, by rw [upd_ne (fun e => by rw [e, h] at h'; cases h')]; exact h', q⟩⟩
theorem hok_lock {H : Hp} {h : Heap} {a : Addr} {vs : List V} (hok : HOk P w H h) (hl : H a = some (.lst vs)) : ∃ od, HOk P w (upd H a (.frz od (.lst vs))) h := by
  have x := hok a _ hl
  obtain ⟨z, its, n, r, e⟩ := id x
  refine ⟨{ cls := .type "list", data := .seq its.toArray n }, fun b o eb => ?_⟩
  by_cases hb : b = a
  · subst hb
    rw [upd_same] at eb
    cases eb
    refine ⟨e, x.stay (fun b v _ q => q) (fun c q => ?_) fun c xs q => ?_⟩
    · rw [upd_ne (fun z => by rw [z, hl] at q; cases q)]; exact q
    · rw [upd_ne (fun z => by rw [z, hl] at q; cases q)]; exact q
  · rw [upd_ne hb] at eb
    refine (hok b o eb).stay (fun b v _ q => q) (fun c q => ?_) fun c xs q => ?_
    · rw [upd_ne (fun z => by rw [z, hl] at q; cases q)]; exact q
    · rw [upd_ne (fun z => by rw [z, hl] at q; cases q)]; exact q
theorem un_lock {fs ex : List Addr} {H H' : Hp} {h h' : Heap} {a : Addr} {vs : List V} {od : Obj} (u : Un fs ex H H' h h') (hl : H' a = some (.lst vs)) : Un fs ex H (upd H' a (.frz od (.lst vs))) h h' where
  keep := u.keep
  slot := u.slot
  free := fun b o q n hx => by
    have z := u.free b o q n hx
    rw [upd_ne (fun e => by rw [e, hl] at z; cases z)]; exact z
  there := u.there
  tups := fun b xs q => by
    have z := u.tups b xs q
    rw [upd_ne (fun e => by rw [e, hl] at z; cases z)]; exact z
  frzs := fun b o v q => by
    have z := u.frzs b o v q
    rw [upd_ne (fun e => by rw [e, hl] at z; cases z)]; exact z
  tbls := fun b ps q => by
    obtain ⟨m, z⟩ := u.tbls b ps q
    exact ⟨m, by rw [upd_ne (fun e => by rw [e, hl] at z; cases z)]; exact z⟩
theorem fn_fz {CX : CXT} {k : Nat} {f : Addr} {fd : FuncData} {ps : List Str} {sp : Sp} (F : FnOk P w K mg base CX k f fd ps sp) : FnOk P w K mg base CX k f fd ps (fun vs H Q E => sp vs H (fz Q) E) :=
  ⟨fun vs H Q E h => F.len _ _ _ _ h, fun A outer s H args us vs Q E hg hr he hb hv h => codeAny_mono (F.run A outer s H args us vs _ E hg hr he hb hv h) fun r s' q => by
    cases r with
    | error e => exact q
    | ok fl =>
      cases fl with
      | ret u =>
        obtain ⟨v, H', e1, e2, un, hok, rv, q | ⟨a, us, rfl, hl, q⟩⟩ := q
        · exact ⟨v, H', e1, e2, un, hok, rv, q⟩
        · obtain ⟨od, hok'⟩ := hok_lock hok hl
          exact ⟨_, _, e1, e2, un_lock un hl, hok', rv, q od⟩
      | next => exact q
      | brk => exact q
      | cont => exact q⟩
theorem optC_pos {g : List D → MI.R D} {ds : List D} {st : Stt} (h : D.lfL ds = true) : optC g ds st = (match g ds [] with
  | some (.ok d, st0) => match d with
    | .loc n => match st0[n]? with
      | some (.lst l) => if D.lfL l = true then some (.ok (.frz l), st) else none
      | _ => none
    | d => if D.lf d = true then some (.ok d, st) else none
  | some (.exc k fs, _) => if D.lfL (fs.map (·.2)) = true then some (.exc k fs, st) else none
  | none => none) := by unfold optC; rw [if_pos h] <;> rfl
theorem optC_neg {g : List D → MI.R D} {ds : List D} {st : Stt} (h : ¬ D.lfL ds = true) : optC g ds st = g ds st := by unfold optC; rw [if_neg h]
theorem fnT_opt {lv : Nat} {f : Addr} {g : List D → MI.R D} (F : FnT P w K mg base cl lv f g) : FnT P w K mg base cl lv f (optC g) := by
  obtain ⟨fd, ps, F, hb, hk, ar⟩ := F
  refine ⟨fd, ps, (fn_fz F).imp fun vs H Q E h => ?_, hb, hk, fun ds st r h => ?_⟩
  · obtain ⟨hl, ρ, ds, st, A, r, h⟩ := h
    by_cases hd : D.lfL ds = true
    · refine ⟨hl, [], ds, [], ⟨rfl, List.nodup_nil, fun n a o h _ => by cases h⟩, rvL_lf hd r, ?_⟩
      have eo := optC_pos (g := g) (st := st) hd
      cases e : g ds [] with
      | none =>
        rw [e] at eo
        exact h.none eo
      | some p =>
        obtain ⟨rs, st0⟩ := p
        rw [e] at eo
        cases rs with
        | ok d =>
          refine .inl ⟨d, st0, e, fun ρ' H' v gr A' r' => ?_⟩
          have fr : ∀ a o, H a = some o → H' a = some o := fun a o h => gr.frame a o h (by simp)
          have plain : (∀ n, d ≠ .loc n) → optC g ds st = (if D.lf d = true then some (.ok d, st) else none) → fz Q v H' := fun _ eo => by
            by_cases hf : D.lf d = true
            · rw [if_pos hf] at eo
              obtain ⟨A2, g2⟩ := A.still fr
              exact .inl (h.ok eo g2 A2 (rv_lf hf r'))
            · rw [if_neg hf] at eo
              exact h.none eo
          cases r' with
          | @loc a n ha =>
            cases e1 : st0[n]? with
            | none => exact h.none (by simpa [e1] using eo)
            | some ob =>
              have q1 := A'.get ha e1
              cases q1 with
              | @lst us l hH rl =>
                by_cases hf : D.lfL l = true
                · have eo' : optC g ds st = some (.ok (.frz l), st) := by simpa [e1, hf] using eo
                  refine .inr ⟨a, us, rfl, hH, fun od => ?_⟩
                  have nH : H a = none := by
                    rcases gr.new a (List.mem_of_getElem? ha) with z | z
                    · simp at z
                    · exact z
                  obtain ⟨A2, g2⟩ := A.still (H' := upd H' a (.frz od (.lst us))) fun b o hb => by
                    rw [upd_ne (fun z => by rw [z, nH] at hb; cases hb)]; exact fr b o hb
                  have kk : Keep K H' (upd H' a (.frz od (.lst us))) := keep_lock hH
                  exact h.ok eo' g2 A2 (.frz (.inl ⟨od, upd_same⟩) (rvL_lf hf (by have := rl.keep kk []; exact this)))
                · exact h.none (by simpa [e1, hf] using eo)
              | _ => exact h.none (by simpa [e1] using eo)
          | non => exact plain (fun _ z => nomatch z) eo
          | bl _ => exact plain (fun _ z => nomatch z) eo
          | int _ => exact plain (fun _ z => nomatch z) eo
          | str _ => exact plain (fun _ z => nomatch z) eo
          | tup _ _ => exact plain (fun _ z => nomatch z) eo
          | frz _ _ => exact plain (fun _ z => nomatch z) eo
          | xtup _ _ => exact plain (fun _ z => nomatch z) eo
        | exc k fs =>
          refine .inr ⟨k, fs, st0, e, fun ρ' H' gr A' => ?_⟩
          have fr : ∀ a o, H a = some o → H' a = some o := fun a o h => gr.frame a o h (by simp)
          replace eo : optC g ds st = (if D.lfL (fs.map (·.2)) = true then some (.exc k fs, st) else none) := eo
          by_cases hf : D.lfL (fs.map (·.2)) = true
          · obtain ⟨A2, g2⟩ := A.still fr
            rw [if_pos hf] at eo
            rcases h with ⟨d, st', e2, _⟩ | ⟨k2, fs2, st', e2, kk⟩
            · rw [eo] at e2; cases e2
            · rw [eo] at e2
              cases e2
              exact fun d x => kk ρ H' g2 A2 d (rvF_nil hf x)
          · rw [if_neg hf] at eo
            exact h.none eo
    · exact ⟨hl, ρ, ds, st, A, r, (h.eq (optC_neg hd)).imp fun v H q => .inl q⟩
  · by_cases hd : D.lfL ds = true
    · rw [optC_pos hd] at h
      cases e : g ds [] with
      | none => rw [e] at h; cases h
      | some p => exact ar _ _ _ e
    · rw [optC_neg hd] at h; exact ar _ _ _ h
end
/-! ### lists of claims -/
def AllI {α : Type} (p : Nat → α → Prop) : Nat → List α → Prop
  | _, [] => True
  | k, x :: l => p k x ∧ AllI p (k + 1) l
theorem AllI.get {α : Type} {p : Nat → α → Prop} : ∀ {l : List α} {k i : Nat} {x : α}, AllI p k l → l[i]? = some x → p (k + i) x
  | [], _, _, _, _, h => by simp at h
  | y :: l, k, 0, x, h, e => by simp at e; subst e; exact h.1
  | y :: l, k, i + 1, x, h, e => by
    have := AllI.get (i := i) h.2 (by simpa using e)
    rw [show k + (i + 1) = k + 1 + i by omega]
    exact this
theorem AllI.mem {α : Type} {p : Nat → α → Prop} {l : List α} {k : Nat} (h : AllI p k l) {x : α} (m : x ∈ l) : ∃ i, p i x := by
  obtain ⟨i, hi, e⟩ := List.getElem_of_mem m
  exact ⟨k + i, h.get (i := i) (by rw [List.getElem?_eq_getElem hi, e])⟩
theorem meth_of {p : MI.Prog} {q : Nat → List Nat → Nat → Prop} (h : AllI (fun _ x => q x.1 x.2.1 x.2.2) 0 p.meths) (k : Nat) (m : List Nat) (f : Nat) (e : p.meth k m = some f) : q k m f := by
  unfold MI.Prog.meth at e
  obtain ⟨x, hx, e2⟩ := Option.map_eq_some_iff.mp e
  obtain ⟨i, hi⟩ := h.mem (List.mem_of_find?_eq_some hx)
  have h1 := List.find?_some hx
  simp only [Bool.and_eq_true, beq_iff_eq] at h1
  rw [← h1.1, ← h1.2, ← e2]; exact hi
theorem fld_of {p : MI.Prog} {q : Nat → List Nat → Prop} (h : AllI (fun _ x => q x.1 x.2) 0 p.flds) (k : Nat) (f : List Nat) (e : p.fld k f = true) : q k f := by
  unfold MI.Prog.fld at e
  obtain ⟨x, hx, e2⟩ := List.any_eq_true.mp e
  obtain ⟨i, hi⟩ := h.mem hx
  simp only [Bool.and_eq_true, beq_iff_eq] at e2
  rw [← e2.1, ← e2.2]; exact hi
theorem call_zero (p : MI.Prog) (fuel f : Nat) : p.call fuel 0 f = fun _ => MI.fail := by unfold MI.Prog.call; rfl
theorem call_some {p : MI.Prog} {fuel n f : Nat} {fn : MI.Fn} (h : p.fns[f]? = some fn) : p.call fuel (n + 1) f = (if p.pures.contains f = true then optC (fn.run ⟨p.call fuel n, p.meth, p.fld, fuel⟩) else fn.run ⟨p.call fuel n, p.meth, p.fld, fuel⟩) := by
  rw [MI.Prog.call, h]
section
variable {P : Program} {w : World} {K : PySem.W.Frag} {mg : Str → Option Value} {base : Heap} {cl : Nat → Addr}
theorem fnT_call {lv fuel n f : Nat} {p : MI.Prog} {fn : MI.Fn} {fA : Addr} (h : p.fns[f]? = some fn) (F : FnT P w K mg base cl lv fA (fn.run ⟨p.call fuel n, p.meth, p.fld, fuel⟩)) : FnT P w K mg base cl lv fA (p.call fuel (n + 1) f) := by
  rw [call_some h]
  by_cases e : p.pures.contains f = true
  · rw [if_pos e]; exact fnT_opt F
  · rw [if_neg e]; exact F
end
theorem cx_none {P : Program} {w : World} {outer : List PySem.Env} {H : Hp} {s : Shared} {e : Value} {s' : Shared} (h : L2.CX P w outer H s (fun _ _ _ => False) e s') : False := by
  obtain ⟨_, _, _, _, _, _, _, _, _, _, _, _, z⟩ := h
  exact z
theorem fnOk_none {P : Program} {w : World} {K : PySem.W.Frag} {mg : Str → Option Value} {base : Heap} {k : Nat} {f : Addr} {fd : FuncData} {ps : List Str} {sp : Sp} (F : FnOk P w K mg base (L2.CX P w) k f fd ps sp) : FnOk P w K mg base CX0 k f fd ps (fun vs H Q _ => sp vs H Q fun _ _ _ => False) :=
  ⟨fun vs H Q E h => F.len _ _ _ _ h, fun A outer s H args us vs Q E hg hr he hb hv h => codeAny_mono (F.run A outer s H args us vs Q _ hg hr he hb hv h) fun r s' q => by
    cases r with
    | error e => exact (cx_none q).elim
    | ok fl => cases fl <;> exact q⟩
end MS

set_option autoImplicit false
set_option maxRecDepth 100000
/-! PL: plain laws of MI. -/
namespace MI
theorem forL_inv {l : List D} {T : D → Env → Stt → Option (Fl × Env × Stt)} {P : Nat → Env → Stt → Prop} (step : ∀ i d env st, l[i]? = some d → P i env st → ∃ env' st', T d env st = some (.nx, env', st') ∧ P (i + 1) env' st') :
    ∀ (fuel i : Nat) (env : Env) (st : Stt), l.length < i + fuel → i ≤ l.length → P i env st → ∃ env' st', forL (.items l) T fuel i env st = some (.nx, env', st') ∧ P l.length env' st'
  | 0, i, env, st, h1, h2, _ => by omega
  | fuel + 1, i, env, st, h1, h2, p => by
    unfold forL
    by_cases hi : i < l.length
    · have e : l[i]? = some l[i] := List.getElem?_eq_getElem hi
      obtain ⟨env', st', q, p'⟩ := step i _ env st e p
      obtain ⟨env2, st2, q2, p2⟩ := forL_inv step fuel (i + 1) env' st' (by omega) (by omega) p'
      exact ⟨env2, st2, by simp only [srcAt, e, q]; exact q2, p2⟩
    · have e : l[i]? = none := List.getElem?_eq_none_iff.mpr (by omega)
      have hi' : i = l.length := by omega
      subst hi'
      exact ⟨env, st, by simp only [srcAt, e], p⟩
end MI

set_option autoImplicit false
set_option maxRecDepth 100000
/-! PL2: the laws' pen. -/
namespace MI
def q_pen : SS :=
  (sRet (eLst (lCons (eUn bListF (eSlc (eVar 0) oNone (oSome (eC (.int 63))))) (lCons (eC (.int 0)) (lCons (eC (.int 0)) lNil)))))
def fresh_body : SS := (sSeq (sSet 4 (eBin opMod (eUn bInt (eBin opAdd (eBin opAdd (eBin opMul (eVar 4) (eVar 4)) (eBin opMul (eBin opMul (eC (.int 69621)) (eBin opAdd (eVar 6) (eC (.int 1)))) (eBin opAdd (eVar 1) (eC (.int 1))))) (eVar 2))) (eVar 3)))
      (sSet 5 (eBin opAdd (eBin opMul (eVar 5) (eVar 3)) (eVar 4))))
def q_fresh : SS :=
  (sSeq (sSet 1 (eBin opIx (eVar 0) (eC (.int 1))))
  (sSeq (sAsg (gSub (eVar 0) (eC (.int 1))) (eBin opAdd (eVar 1) (eC (.int 1))))
  (sSeq (sSet 2 (eC (.int 0)))
  (sSeq (sIf (cB (eBin opNe (eBin opIx (eVar 0) (eC (.int 0))) (eLstF lNil)))
  (sSet 2 (eBin opIx (eBin opIx (eVar 0) (eC (.int 0))) (eBin opMod (eUn bInt (eVar 1)) (eUn bLen (eBin opIx (eVar 0) (eC (.int 0)))))))
  sPass)
  (sSeq (sIf (cAnd (cB (eBin opLt (eVar 1) (eUn bLen (eBin opIx (eVar 0) (eC (.int 0)))))) (cB (eBin opGe (eVar 2) (eBin opPow (eC (.int 10)) (eC (.int 18))))))
  (sRet (eBin opSub (eVar 2) (eBin opPow (eC (.int 10)) (eC (.int 18)))))
  sPass)
  (sSeq (sSet 3 (eC (.int 2305843009213693951)))
  (sSeq (sSet 4 (eBin opMod (eUn bInt (eBin opAdd (eBin opAdd (eBin opMul (eVar 2) (eC (.int 48271))) (eBin opMul (eC (.int 40692)) (eVar 1))) (eC (.int 31)))) (eVar 3)))
  (sSeq (sSet 5 (eVar 4))
  (sSeq (sFor (gVar 6) (iRange1 (eC (.int 6))) fresh_body)
  (sRet (eVar 5)))))))))))
def q_draw (F : Nat) : SS :=
  (sSeq (sIf (cB (eBin opLt (eBin opIx (eVar 0) (eC (.int 2))) (eVar 1)))
  (sAsg (gSub (eVar 0) (eC (.int 2))) (eCall F (lCons (eVar 0) lNil)))
  sPass)
  (sSeq (sSet 2 (eBin opMod (eUn bInt (eBin opIx (eVar 0) (eC (.int 2)))) (eVar 1)))
  (sSeq (sAsg (gSub (eVar 0) (eC (.int 2))) (eBin opDiv (eUn bInt (eBin opIx (eVar 0) (eC (.int 2)))) (eVar 1)))
  (sRet (eVar 2)))))
/-- the pen as it stands -/
def penO (xs : List Int) (a q : Int) : Ob := .lst [.frz (xs.map D.int), .int a, .int q]
theorem seq_nx {a b : SS} {c : Ctx} {env env' : Env} {st st' : Stt} (h : a c env st = some (.nx, env', st')) : sSeq a b c env st = b c env' st' := by unfold sSeq; rw [h]
theorem seq_rt {a b : SS} {c : Ctx} {env env' : Env} {st st' : Stt} {d : D} (h : a c env st = some (.rt d, env', st')) : sSeq a b c env st = some (.rt d, env', st') := by unfold sSeq; rw [h]
theorem okL_ints (n : Nat) : ∀ xs : List Int, D.okL n (xs.map D.int) = true
  | [] => by simp [D.okL]
  | x :: xs => by simp [D.okL, D.ok, okL_ints n xs]
theorem big_eq : big = 18446744073709551616 := rfl
theorem ixN_ofNat {n k : Nat} (h : k < n) : ixN n (k : Int) = some k := by
  unfold ixN
  rw [if_pos (by omega), if_pos (by omega)]; simp
theorem fresh_cell (c : Ctx) (xs : List Int) (hx : xs.length < lim) (a q : Int) (rest : Stt) : ∃ v, (sIf (cB (eBin opNe (eBin opIx (eVar 0) (eC (.int 0))) (eLstF lNil)))
      (sSet 2 (eBin opIx (eBin opIx (eVar 0) (eC (.int 0))) (eBin opMod (eUn bInt (eVar 1)) (eUn bLen (eBin opIx (eVar 0) (eC (.int 0)))))))
      sPass) c [some (.loc 0), some (.int a), some (.int 0), none, none, none, none] (penO xs (a + 1) q :: rest) = some (.nx, [some (.loc 0), some (.int a), some (.int v), none, none, none, none], penO xs (a + 1) q :: rest) := by
    cases xs with
    | nil => exact ⟨0, by simp [sIf, sBnd, bnd, cB, eBin, eVar, eC, ret, opIx, penO, ixN, eLstF, lNil, opNe, eqD, dat, D.ok, D.okL, D.eqv, D.eqvL, sPass]⟩
    | cons x xs =>
      have hl : 0 < ((x :: xs).length : Int) := by simp
      have hm := Int.emod_nonneg a (Int.ne_of_gt hl)
      have hm2 := Int.emod_lt_of_pos a hl
      obtain ⟨k, hk⟩ := Int.eq_ofNat_of_zero_le hm
      have hk2 : k < (x :: xs).length := by omega
      refine ⟨(x :: xs)[k], ?_⟩
      have e1 : ixN ((x :: xs).map D.int).length (a % ((x :: xs).length : Int)) = some k := by
        rw [hk, List.length_map]; exact ixN_ofNat hk2
      have e2 : ((x :: xs).map D.int)[k]? = some (.int (x :: xs)[k]) := by
        rw [List.getElem?_map, List.getElem?_eq_getElem hk2]; rfl
      have e3 : D.okL 39 ((x :: xs).map D.int) = true := okL_ints _ _
      have e4 : (x :: xs).length < lim := hx
      generalize hX : (x :: xs).map D.int = X at *
      have lX : X.length = (x :: xs).length := by rw [← hX, List.length_map]
      have hne : D.eqvL X [] = false := by rw [← hX]; rfl
      have hm0 : 0 < X.length := by rw [lX]; simp
      have hXl : X.length < lim := by rw [lX]; exact e4
      have hp : penO (x :: xs) (a + 1) q = .lst [.frz X, .int (a + 1), .int q] := by unfold penO; rw [hX]
      have e1' : ixN X.length (a % (X.length : Int)) = some k := by rw [lX]; rw [lX] at e1; exact e1
      have t1 : (cB (eBin opNe (eBin opIx (eVar 0) (eC (.int 0))) (eLstF lNil))) c [some (.loc 0), some (.int a), some (.int 0), none, none, none, none] (.lst [.frz X, .int (a + 1), .int q] :: rest) = some (.ok true, .lst [.frz X, .int (a + 1), .int q] :: rest) := by
        simp [bnd, cB, eBin, eVar, eC, ret, opIx, ixN, eLstF, lNil, opNe, eqD, dat, D.ok, e3, D.okL, D.eqv, hne, hXl]
      have t2 : (sSet 2 (eBin opIx (eBin opIx (eVar 0) (eC (.int 0))) (eBin opMod (eUn bInt (eVar 1)) (eUn bLen (eBin opIx (eVar 0) (eC (.int 0))))))) c [some (.loc 0), some (.int a), some (.int 0), none, none, none, none] (.lst [.frz X, .int (a + 1), .int q] :: rest) = some (.nx, [some (.loc 0), some (.int a), some (.int (x :: xs)[k]), none, none, none, none], .lst [.frz X, .int (a + 1), .int q] :: rest) := by
        have e0 : ixN 3 0 = some 0 := rfl
        simp [sSet, sBnd, bnd, eBin, eUn, eVar, eC, ret, opIx, bLen, bInt, opMod, hm0, e0, e1', e2]
      rw [hp]
      unfold sIf sBnd
      rw [t1]
      exact t2
theorem e18 : (10 : Int) ^ 18 = 1000000000000000000 := by decide
theorem pow18 (st : Stt) : opPow (.int 10) (.int 18) st = some (.ok (.int 1000000000000000000), st) := by
  show (if (0 : Int) ≤ 18 ∧ (18 : Int) ≤ 100 ∧ -big < (10 : Int) ∧ (10 : Int) < big then some (Rs.ok (D.int ((10 : Int) ^ (18 : Int).toNat)), st) else none) = _
  rw [if_pos (by decide)]
  show some (Rs.ok (D.int ((10 : Int) ^ 18)), st) = _
  rw [e18]
theorem pow18e (c : Ctx) (env : Env) (st : Stt) : eBin opPow (eC (.int 10)) (eC (.int 18)) c env st = some (.ok (.int 1000000000000000000), st) := pow18 st
theorem and_run {a b : ST} {c : Ctx} {env : Env} {st : Stt} {x y : Bool} (h1 : a c env st = some (.ok x, st)) (h2 : b c env st = some (.ok y, st)) : cAnd a b c env st = some (.ok (x && y), st) := by
  unfold cAnd bnd
  rw [h1]
  cases x with
  | false => rfl
  | true => exact h2
theorem fresh_tst (c : Ctx) (xs : List Int) (a q v : Int) (rest : Stt) : (cAnd (cB (eBin opLt (eVar 1) (eUn bLen (eBin opIx (eVar 0) (eC (.int 0)))))) (cB (eBin opGe (eVar 2) (eBin opPow (eC (.int 10)) (eC (.int 18)))))) c [some (.loc 0), some (.int a), some (.int v), none, none, none, none] (penO xs (a + 1) q :: rest) = some (.ok (decide (a < (xs.length : Int)) && decide ((1000000000000000000 : Int) ≤ v)), penO xs (a + 1) q :: rest) := by
  refine and_run ?_ ?_
  · simp [bnd, cB, eBin, eUn, eVar, eC, ret, opIx, penO, ixN, bLen, opLt]
  · show (bnd (bnd (eVar 2 c _) fun x => bnd (eBin opPow (eC (.int 10)) (eC (.int 18)) c _) fun y => opGe x y) fun x => match x with | .bl b => ret b | _ => fail) _ = _
    have e2 : eVar 2 c [some (.loc 0), some (.int a), some (.int v), none, none, none, none] (penO xs (a + 1) q :: rest) = some (.ok (.int v), penO xs (a + 1) q :: rest) := rfl
    unfold bnd
    rw [e2]
    simp only [pow18e]
    rfl
def fEnv (a v p s f : Int) (t : Option D) : Env := [some (.loc 0), some (.int a), some (.int v), some (.int p), some (.int s), some (.int f), t]
theorem mul_run {x y : Int} (st : Stt) (h : (-big < x ∧ x < big) ∨ (-big < y ∧ y < big)) : opMul (.int x) (.int y) st = some (.ok (.int (x * y)), st) := by
  show (if (-big < x ∧ x < big) ∨ (-big < y ∧ y < big) then _ else _) = _
  rw [if_pos h]
theorem mod_run {x y : Int} (st : Stt) (h : 0 < y) : opMod (.int x) (.int y) st = some (.ok (.int (x % y)), st) := by
  show (if 0 < y then _ else _) = _
  rw [if_pos h]
theorem bnd_ok {α β : Type} {x : R α} {f : α → R β} {st st1 : Stt} {a : α} (h : x st = some (.ok a, st1)) : bnd x f st = f a st1 := by unfold bnd; rw [h]
theorem bin_run {f : D → D → R D} {a b : SE} {c : Ctx} {env : Env} {st st1 st2 : Stt} {x y : D} {r : Option (Rs D × Stt)} (h1 : a c env st = some (.ok x, st1)) (h2 : b c env st1 = some (.ok y, st2)) (h3 : f x y st2 = r) : eBin f a b c env st = r := by
  unfold eBin
  rw [bnd_ok h1, bnd_ok h2]
  exact h3
theorem un_run {f : D → R D} {a : SE} {c : Ctx} {env : Env} {st st1 : Stt} {x : D} {r : Option (Rs D × Stt)} (h1 : a c env st = some (.ok x, st1)) (h3 : f x st1 = r) : eUn f a c env st = r := by
  unfold eUn bnd
  rw [h1]
  exact h3
theorem var_run {i : Nat} {c : Ctx} {env : Env} {st : Stt} {x : D} (h : env[i]? = some (some x)) : eVar i c env st = some (.ok x, st) := by
  unfold eVar
  rw [h]
theorem set_run {i : Nat} {e : SE} {c : Ctx} {env : Env} {st st' : Stt} {x : D} (h : e c env st = some (.ok x, st')) (hi : i < env.length) : sSet i e c env st = some (.nx, env.set i (some x), st') := by
  unfold sSet sBnd
  rw [h]
  show (if i < env.length then _ else _) = _
  rw [if_pos hi]
theorem fresh_turn (c : Ctx) (a v p s f : Int) (i : Nat) (hi : i < 6) (t : Option D) (p0 : 0 < p) (p1 : p < big) (h0 : 0 ≤ s) (h1 : s < p) (st : Stt) :
    turnOf (gVar 6) fresh_body c (.int i) (fEnv a v p s f t) st = some (.nx, fEnv a v p ((s * s + 69621 * ((i : Int) + 1) * (a + 1) + v) % p) (f * p + (s * s + 69621 * ((i : Int) + 1) * (a + 1) + v) % p) (some (.int i)), st) := by
  have hb : big = 18446744073709551616 := rfl
  show fresh_body c (fEnv a v p s f (some (.int i))) st = _
  unfold fresh_body
  refine (seq_nx (set_run (bin_run (un_run (bin_run (bin_run (bin_run (var_run rfl) (var_run rfl) (mul_run _ (.inl (by omega)))) (bin_run (bin_run (st2 := st) (x := .int 69621) rfl (bin_run (x := .int i) (y := .int 1) (var_run rfl) rfl rfl) (mul_run _ (.inl (by omega)))) (bin_run (x := .int a) (y := .int 1) (var_run rfl) rfl rfl) (mul_run _ (.inl (by omega)))) rfl) (var_run rfl) rfl) rfl) (var_run rfl) (mod_run _ p0)) (by show 4 < 7; decide))).trans ?_
  exact set_run (bin_run (bin_run (var_run rfl) (var_run rfl) (mul_run _ (.inr (by omega)))) (var_run rfl) rfl) (by show 5 < 7; decide)
theorem fresh_loop (c : Ctx) (hf : 6 < c.fuel) (a v p s0 f0 : Int) (p0 : 0 < p) (p1 : p < big) (b0 : 0 ≤ s0) (b1 : s0 < p) (t : Option D) (st : Stt) :
    ∃ s f t', sFor (gVar 6) (iRange1 (eC (.int 6))) fresh_body c (fEnv a v p s0 f0 t) st = some (.nx, fEnv a v p s f t', st) := by
  have hsrc : (iRange1 (eC (.int 6))) c (fEnv a v p s0 f0 t) st = some (.ok (.items (rangeL 0 6)), st) := by
    show (if -(lim : Int) < 6 ∧ (6 : Int) < lim then ret (Src.items (rangeL 0 6)) else fail) st = _
    rw [if_pos (by decide)]
    rfl
  unfold sFor sBnd
  rw [hsrc]
  obtain ⟨env', st', e, s, f, t, q1, q2, q3, q4⟩ := forL_inv (l := rangeL 0 6) (P := fun i env st' => ∃ s f t, 0 ≤ s ∧ s < p ∧ env = fEnv a v p s f t ∧ st' = st) (T := turnOf (gVar 6) fresh_body c) (fun i d env st' hd ⟨s, f, t, q1, q2, q3, q4⟩ => by
    subst q3 q4
    have hi : i < 6 := (List.getElem?_eq_some_iff.mp hd).1
    have hdv : d = .int (i : Int) := by
      have : (rangeL 0 6)[i]? = some (.int (i : Int)) := by
        unfold rangeL
        rw [List.getElem?_map]
        simp [hi]
      rw [this] at hd; cases hd; rfl
    subst hdv
    exact ⟨_, _, fresh_turn c a v p s f i hi t p0 p1 q1 q2 _, _, _, _, Int.emod_nonneg _ (by omega), Int.emod_lt_of_pos _ p0, rfl, rfl⟩) c.fuel 0 _ st (by show 6 < 0 + c.fuel; omega) (Nat.zero_le _) ⟨s0, f0, t, b0, b1, rfl, rfl⟩
  subst q3 q4
  exact ⟨s, f, t, e⟩
theorem fresh_run (c : Ctx) (hf : 6 < c.fuel) (xs : List Int) (hx : xs.length < lim) (a q : Int) (rest : Stt) :
    ∃ v env', q_fresh c [some (.loc 0), none, none, none, none, none, none] (penO xs a q :: rest) = some (.rt (.int v), env', penO xs (a + 1) q :: rest) := by
  unfold q_fresh
  rw [seq_nx (env' := [some (.loc 0), some (.int a), none, none, none, none, none]) (st' := penO xs a q :: rest) (by
    simp [sSet, sBnd, bnd, eBin, eVar, eC, ret, opIx, penO, ixN])]
  rw [seq_nx (env' := [some (.loc 0), some (.int a), none, none, none, none, none]) (st' := penO xs (a + 1) q :: rest) (by
    simp [sAsg, gSub, gBnd, putIx, setIx, sBnd, bnd, eBin, eVar, eC, ret, opAdd, penO, ixN])]
  rw [seq_nx (env' := [some (.loc 0), some (.int a), some (.int 0), none, none, none, none]) (st' := penO xs (a + 1) q :: rest) (by
    simp [sSet, sBnd, eC, ret])]
  obtain ⟨v, hv⟩ := fresh_cell c xs hx a q rest
  rw [seq_nx hv]
  have tst := fresh_tst c xs a q v rest
  by_cases hb : (decide (a < (xs.length : Int)) && decide ((1000000000000000000 : Int) ≤ v)) = true
  · refine ⟨v - 1000000000000000000, _, seq_rt (env' := [some (.loc 0), some (.int a), some (.int v), none, none, none, none]) ?_⟩
    unfold sIf sBnd
    rw [tst, hb]
    show sRet _ c _ _ = _
    unfold sRet sBnd eBin bnd
    have e2 : eVar 2 c [some (.loc 0), some (.int a), some (.int v), none, none, none, none] (penO xs (a + 1) q :: rest) = some (.ok (.int v), penO xs (a + 1) q :: rest) := rfl
    rw [e2]
    simp only [eC, ret, pow18]
    rfl
  · have hb' : (decide (a < (xs.length : Int)) && decide ((1000000000000000000 : Int) ≤ v)) = false := by simpa using hb
    rw [seq_nx (env' := [some (.loc 0), some (.int a), some (.int v), none, none, none, none]) (st' := penO xs (a + 1) q :: rest) (by
      unfold sIf sBnd
      rw [tst, hb']
      rfl)]
    rw [seq_nx (env' := [some (.loc 0), some (.int a), some (.int v), some (.int 2305843009213693951), none, none, none]) (st' := penO xs (a + 1) q :: rest) (by
      simp [sSet, sBnd, eC, ret])]
    have p0 : (0 : Int) < 2305843009213693951 := by decide
    have p1 : (2305843009213693951 : Int) < big := by decide
    have hb2 : -big < (48271 : Int) ∧ (48271 : Int) < big := by decide
    have hb3 : -big < (40692 : Int) ∧ (40692 : Int) < big := by decide
    generalize (2305843009213693951 : Int) = p at p0 p1 ⊢
    have b0 := Int.emod_nonneg (v * 48271 + 40692 * a + 31) (Int.ne_of_gt p0)
    have b1 := Int.emod_lt_of_pos (v * 48271 + 40692 * a + 31) p0
    generalize hs0 : (v * 48271 + 40692 * a + 31) % p = s0 at b0 b1
    rw [seq_nx (env' := [some (.loc 0), some (.int a), some (.int v), some (.int p), some (.int s0), none, none]) (st' := penO xs (a + 1) q :: rest) (by
      rw [← hs0]
      exact set_run (bin_run (un_run (bin_run (bin_run (bin_run (y := .int 48271) (var_run rfl) rfl (mul_run _ (.inr hb2))) (bin_run (x := .int 40692) rfl (var_run rfl) (mul_run _ (.inl hb3))) rfl) (y := .int 31) rfl rfl) rfl) (var_run rfl) (mod_run _ p0)) (by show 4 < 7; decide))]
    rw [seq_nx (env' := fEnv a v p s0 s0 none) (st' := penO xs (a + 1) q :: rest) (set_run (var_run rfl) (by show 5 < 7; decide))]
    obtain ⟨s, f, t, hl⟩ := fresh_loop c hf a v p s0 s0 p0 p1 b0 b1 none (penO xs (a + 1) q :: rest)
    rw [seq_nx hl]
    refine ⟨f, fEnv a v p s f t, ?_⟩
    unfold sRet sBnd
    rw [var_run (x := .int f) rfl]
/-- a call of a def: its body, run -/
theorem run_rt {fn : Fn} {c : Ctx} {ds : List D} {st st' : Stt} {d : D} {env' : Env} (hl : ds.length = fn.pars) (h : fn.body c (ds.map some ++ List.replicate (fn.slots - fn.pars) none) st = some (.rt d, env', st')) : fn.run c ds st = some (.ok d, st') := by
  unfold Fn.run
  rw [if_pos hl, h]
theorem draw_run (c : Ctx) (F : Nat) (xs : List Int) (many : Int) (h0 : 0 < many) (h1 : many < 1073741824) (a q : Int) (rest : Stt)
    (hF : ∃ v, c.call F [.loc 0] (penO xs a q :: rest) = some (.ok (.int v), penO xs (a + 1) q :: rest)) :
    ∃ m a' q' env', 0 ≤ m ∧ m < many ∧ q_draw F c [some (.loc 0), some (.int many), none] (penO xs a q :: rest) = some (.rt (.int m), env', penO xs a' q' :: rest) := by
  unfold q_draw
  have first : ∃ a' q', (sIf (cB (eBin opLt (eBin opIx (eVar 0) (eC (.int 2))) (eVar 1)))
      (sAsg (gSub (eVar 0) (eC (.int 2))) (eCall F (lCons (eVar 0) lNil))) sPass) c [some (.loc 0), some (.int many), none] (penO xs a q :: rest) = some (.nx, [some (.loc 0), some (.int many), none], penO xs a' q' :: rest) := by
    by_cases h : q < many
    · obtain ⟨v, hv⟩ := hF
      refine ⟨a + 1, v, ?_⟩
      have t1 : (cB (eBin opLt (eBin opIx (eVar 0) (eC (.int 2))) (eVar 1))) c [some (.loc 0), some (.int many), none] (penO xs a q :: rest) = some (.ok true, penO xs a q :: rest) := by
        simp [bnd, cB, eBin, eVar, eC, ret, opIx, penO, ixN, opLt, h]
      have t2 : (eCall F (lCons (eVar 0) lNil)) c [some (.loc 0), some (.int many), none] (penO xs a q :: rest) = some (.ok (.int v), penO xs (a + 1) q :: rest) := by
        simp [eCall, lCons, lNil, bnd, eVar, ret]
        exact hv
      unfold sIf sBnd
      rw [t1]
      show sAsg _ _ c _ _ = _
      unfold sAsg sBnd
      rw [t2]
      simp [gSub, gBnd, putIx, setIx, eVar, eC, ret, penO, ixN]
    · refine ⟨a, q, ?_⟩
      have t1 : (cB (eBin opLt (eBin opIx (eVar 0) (eC (.int 2))) (eVar 1))) c [some (.loc 0), some (.int many), none] (penO xs a q :: rest) = some (.ok false, penO xs a q :: rest) := by
        simp [bnd, cB, eBin, eVar, eC, ret, opIx, penO, ixN, opLt, h]
      unfold sIf sBnd
      rw [t1]
      rfl
  obtain ⟨a', q', hf⟩ := first
  rw [seq_nx hf]
  rw [seq_nx (env' := [some (.loc 0), some (.int many), some (.int (q' % many))]) (st' := penO xs a' q' :: rest) (by
    simp [sSet, sBnd, bnd, eBin, eUn, eVar, eC, ret, opIx, penO, ixN, bInt, opMod, h0])]
  rw [seq_nx (env' := [some (.loc 0), some (.int many), some (.int (q' % many))]) (st' := penO xs a' (q' / many) :: rest) (by
    simp [sAsg, gSub, gBnd, putIx, setIx, sBnd, bnd, eBin, eUn, eVar, eC, ret, opIx, opDiv, bInt, penO, ixN, h0, h1])]
  exact ⟨q' % many, a', q' / many, [some (.loc 0), some (.int many), some (.int (q' % many))], Int.emod_nonneg _ (by omega), Int.emod_lt_of_pos _ h0, by simp [sRet, sBnd, eVar]⟩
theorem pen_run (c : Ctx) (xs : List Int) (hx : xs.length ≤ 63) : q_pen c [some (.frz (xs.map D.int))] [] = some (.rt (.loc 0), [some (.frz (xs.map D.int))], [penO xs 0 0]) := by
  have e : cut (xs.map D.int) none (some 63) = xs.map D.int := by
    unfold cut clampI
    simp only [Option.map_none, Option.getD_none, Option.map_some, Option.getD_some, List.length_map, List.drop_zero]
    rw [if_neg (by decide)]
    exact List.take_of_length_le (by rw [List.length_map]; show xs.length ≤ min 63 xs.length; omega)
  have hl : xs.length < lim := by have : lim = 16777216 := rfl; omega
  have h3 : 3 < lim := by decide
  simp [q_pen, sRet, sBnd, eLst, lCons, lNil, bnd, eUn, bListF, eSlc, eVar, oNone, oSome, eC, ret, opSlc, e, seqOf, hl, h3, new, penO]
end MI

set_option autoImplicit false
/-! MI1: more of the pure interpreter. -/
namespace MI
def dedI : List Int → List Int
  | [] => []
  | x :: r => if x ∈ r then dedI r else x :: dedI r
/-- sorted(set(ints)), a list that nobody changes -/
def bSorS (x : D) : R D := bnd (seqOf x) fun l => match ints? l with
  | some r => if r.length < 64 then ret (.frz ((sortI (dedI r)).map D.int)) else fail
  | none => fail
theorem mem_dedI {k : Int} : ∀ {l : List Int}, k ∈ dedI l ↔ k ∈ l
  | [] => Iff.rfl
  | x :: r => by
    unfold dedI
    split
    · rename_i h
      rw [mem_dedI, List.mem_cons]
      exact ⟨.inr, fun h' => h'.elim (fun e => e ▸ h) id⟩
    · rw [List.mem_cons, List.mem_cons, mem_dedI]
theorem nodup_dedI : ∀ l : List Int, (dedI l).Nodup
  | [] => List.nodup_nil
  | x :: r => by
    unfold dedI
    split
    · exact nodup_dedI r
    · rename_i h
      exact List.nodup_cons.mpr ⟨fun z => h (mem_dedI.mp z), nodup_dedI r⟩
end MI

set_option autoImplicit false
/-! MI2: texts, kinds, f-strings; what is not covered. -/
namespace MI
/-- the digits of a number -/
def strI (i : Int) : List Nat := (toString i).toList.map Char.toNat
def isStr (x : D) : R Unit := fun st => match x with
  | .str _ => some (.ok (), st)
  | _ => none
def bStr (x : D) : R D := fun st => match x with
  | .int i => if i.natAbs.log2 < 1920 then some (.ok (.str (strI i)), st) else none
  | .str s => some (.ok (.str s), st)
  | _ => none
def strs? : List D → Option (List (List Nat))
  | [] => some []
  | .str s :: r => (strs? r).map (s :: ·)
  | _ => none
def joinN (a : List Nat) : List (List Nat) → List Nat
  | [] => []
  | [x] => x
  | x :: y :: r => x ++ a ++ joinN a (y :: r)
def mJoin (x y : D) : R D := bnd (seqOf y) fun l => match x with
  | .str a => match strs? l with
    | some ys => if (ys.map (·.length)).sum + ys.length * a.length < lim then ret (.str (joinN a ys)) else fail
    | none => fail
  | _ => fail
def splitC (c : Nat) : List Nat → List (List Nat)
  | [] => [[]]
  | x :: r => if x = c then [] :: splitC c r else match splitC c r with
    | p :: q => (x :: p) :: q
    | [] => [[x]]
/-- s.split(c), c one sign: a list that nobody changes -/
def mSplit (x y : D) : R D := fun st => match x, y with
  | .str a, .str [c] => if a.length + 2 < lim then some (.ok (.frz ((splitC c a).map D.str)), st) else none
  | _, _ => none
def mLstrip (x y : D) : R D := fun st => match x, y with
  | .str a, .str b => if a.length < lim then some (.ok (.str (a.dropWhile fun c => b.contains c)), st) else none
  | _, _ => none
/-- s.index(c), c one sign that stands there -/
def mIndexS (x y : D) : R D := fun st => match x, y with
  | .str a, .str [c] => if a.contains c = true then some (.ok (.int (a.idxOf c : Nat)), st) else none
  | _, _ => none
/-- list(text) -/
def bListS (x : D) : R D := fun st => match x with
  | .str a => if a.length < lim then some (.ok (.frz (a.map fun c => .str [c])), st) else none
  | _ => none
/-- the kinds that isinstance is asked for -/
inductive Kd where
  | int
  | bool
  | str
  | tup
def Kd.has (k : Kd) : D → Option Bool
  | .non => some false
  | .bl _ => some (match k with
    | .int => true
    | .bool => true
    | _ => false)
  | .int _ => some (match k with
    | .int => true
    | _ => false)
  | .str _ => some (match k with
    | .str => true
    | _ => false)
  | .tup _ => some (match k with
    | .tup => true
    | _ => false)
  | _ => none
def bIsI (k : Kd) (x : D) : R D := fun st => match k.has x with
  | some b => some (.ok (.bl b), st)
  | none => none
/-- a part of an f-string -/
def opFmt (x : D) : R D := fun st => match x with
  | .int i => if i.natAbs.log2 < 1920 then some (.ok (.str (strI i)), st) else none
  | .str s => if s.length < lim then some (.ok (.str s), st) else none
  | _ => none
/-- the parts one behind another -/
def eFsL : List SE → List Nat → SE
  | [], acc => fun _ _ => ret (.str acc)
  | g :: gs, acc => fun c env => bnd (g c env) fun x => match x with
    | .str y => if acc.length + y.length < lim then eFsL gs (acc ++ y) c env else fail
    | _ => fail
def eFs (gs : List SE) : SE := eFsL gs []
/-- what is not covered -/
def sNone : SS := fun _ _ _ => none
def eNone : SE := fun _ _ _ => none
/-- o.f as a target -/
def gFld (o : SE) (f : List Nat) : SG := fun c d env => gBnd (o c env) fun x st => match x with
  | .loc n => match setFld c n f d st with
    | some st' => some (env, st')
    | none => none
  | _ => none
end MI

set_option autoImplicit false
/-! MI3: repr of data. -/
namespace MI
open PySem
mutual
def toPyN : D → PyData
  | .non => .none
  | .bl b => .bool b
  | .int i => .int i
  | .str s => .str ⟨s.toArray⟩
  | .tup l => .tuple (toPyNs l)
  | .loc _ => .none
  | .frz l => .list (toPyNs l)
  | .xtup l => .tuple (toPyNs l)
def toPyNs : List D → List PyData
  | [] => []
  | x :: xs => toPyN x :: toPyNs xs
end
mutual
/-- no repr is longer than this -/
def D.cost : D → Nat
  | .non => 4
  | .bl _ => 5
  | .int i => i.natAbs.log2 + 2
  | .str s => 10 * s.length + 2
  | .tup l => D.costL l + 3
  | .loc _ => 0
  | .frz l => D.costL l + 3
  | .xtup l => D.costL l + 3
def D.costL : List D → Nat
  | [] => 0
  | x :: xs => D.cost x + 2 + D.costL xs
end
mutual
/-- no number is too great to be written -/
def D.shw : D → Bool
  | .int i => decide (i.natAbs.log2 < 1920)
  | .tup l => D.shwL l
  | .frz l => D.shwL l
  | .xtup l => D.shwL l
  | _ => true
def D.shwL : List D → Bool
  | [] => true
  | x :: xs => D.shw x && D.shwL xs
end
def reprN (d : D) : List Nat := (toPyN d).shown.cps.toList
def reprOk (d : D) : Bool := D.ok deep d && D.shw d && decide (D.cost d ≤ 16777216)
def bRepr (x : D) : R D := fun st => match dat x st with
  | some d => if reprOk d = true then some (.ok (.str (reprN d)), st) else none
  | none => none
end MI

set_option Elab.async false
set_option linter.all false
set_option maxRecDepth 100000
set_option maxHeartbeats 4000000
/-! MS13: three names at once. -/
namespace MS
open PySem PySem.Spec PyProof.Rows L2 MI

theorem sBnd_bnd {α β : Type} (x : MI.R α) (f : α → MI.R β) (env : MI.Env) (g : β → Stt → Option (Fl × MI.Env × Stt)) : sBnd (bnd x f) env g = sBnd x env fun a st => sBnd (f a) env g st := by
  funext st
  simp only [sBnd, bnd]
  cases x st with
  | none => rfl
  | some r => obtain ⟨r, st'⟩ := r; cases r <;> rfl
def tPar3 (i j k : Nat) (ta : TA) : TS := fun D σ H => ta σ H fun vs H1 => ∃ v w u, vs = [v, w, u] ∧ D.nx (((σ.set i (some v)).set j (some w)).set k (some u)) H1
theorem ps_par3 {X : Cx} {i j k : Nat} {x y z : Str} {a b d : Expr} {ta : TA} {pos px py pz pt : Pos} {kt k2 pt2} (hc : X.calm = true) (hN : X.N.Nodup) (hi : X.N[i]? = some x) (hj : X.N[j]? = some y) (hk : X.N[k]? = some z) (hij : i ≠ j) (hik : i ≠ k) (hjk : j ≠ k)
    (hx : X.env.scope.names.lookup x = some .local) (hy : X.env.scope.names.lookup y = some .local) (hz : X.env.scope.names.lookup z = some .local) (ha : PA X [a, b, d] ta)
    (hw : swappedStores [.Tuple [.Name x px, .Name y py, .Name z pz] kt pt] (.Tuple [a, b, d] k2 pt2) X.env = pure (some [x, y, z]))
    (hs : swapsWithSole [.Tuple [.Name x px, .Name y py, .Name z pz] kt pt] (.Tuple [a, b, d] k2 pt2) pos.line X.env = pure false := by rfl) :
    PS X (.Assign [.Tuple [.Name x px, .Name y py, .Name z pz] kt pt] (.Tuple [a, b, d] k2 pt2) pos) (tPar3 i j k ta) := by
  refine ⟨fun pins s σ H D I h => ?_⟩
  rw [exec_Assign_arm]
  refine wpAny_bind (wpAny_standAt ?_)
  rw [hs]
  refine wpAny_bind (wpAny_pure ?_)
  rw [if_neg (by decide)]
  refine wpAny_bind (Tuple_ (thn (ha.run _ pins s σ H _ I h) fun us s1 ⟨vs, H1, I1, r1, q1⟩ => ?_))
  obtain ⟨v, w, u, e1, q1⟩ := q1
  subst e1
  obtain ⟨u1, u2, u3, rfl, rv, rw', ru⟩ : ∃ u1 u2 u3, us = [u1, u2, u3] ∧ RelV v u1 ∧ RelV w u2 ∧ RelV u u3 := by
    cases r1 with
    | cons p q =>
      cases q with
      | cons p' q' =>
        cases q' with
        | cons p2 q2 =>
          cases q2
          exact ⟨_, _, _, rfl, p, p', p2⟩
  refine wpAny_newObj_type ?_ (by show 3 ≤ sizeLine; decide)
  have I2 : Inv X pins σ H1 { s1 with heap := s1.heap.push { cls := .type "tuple", data := .seq [u1, u2, u3].toArray } } := I1.kept (t' := s1.toks) fun b o e => Heap.get?_push_of_some _ e
  rw [hw]
  refine wpAny_bind (wpAny_pure ?_)
  show wpAny (model X.prog X.w) X.A (do rule "assign.swapped-stores"; let items ← unpackItems (.ref s1.heap.objs.size) 3 none; assignInOrder [fun v => bindName X.env z v, fun v => bindName X.env y v, fun v => bindName X.env x v] items.reverse; pure Flow.next) _ _ _
  refine wpAny_bind (wpAny_rule (wpAny_bind (unpackItems_tuple (items := #[u1, u2, u3]) (I.ok.hd hc) (IsTup.new s1.heap _) fun h' hx' => ?_)))
  have I3 := I2.kept (h' := h') (t' := s1.toks) fun b o e => hx' b o (Nat.ne_of_lt (Heap.lt_size e)) e
  show wpAny _ _ (assignInOrder [fun v => bindName X.env z v, fun v => bindName X.env y v, fun v => bindName X.env x v] [u3, u2, u1] >>= fun _ => pure Flow.next) _ _ _
  refine wpAny_bind (assignInOrder_cons (wpAny_bindName (store_ok I3 hN hk (.inl hz) ru (fun s2 I4 => ?_) (.inr hz))))
  refine assignInOrder_cons (wpAny_bindName (store_ok I4 hN hj (.inl hy) rw' (fun s3 I5 => ?_) (.inr hy)))
  refine assignInOrder_cons (wpAny_bindName (store_ok I5 hN hi (.inl hx) rv (fun s4 I6 => assignInOrder_nil (wpAny_pure ?_)) (.inr hx)))
  rw [List.set_comm _ _ (Ne.symm hjk), List.set_comm _ _ (Ne.symm hik), List.set_comm _ _ (Ne.symm hij)] at I6
  exact ⟨_, H1, I6, q1⟩

section
variable {X : Cx} {cl : Nat → Addr} {E : EX} {c : MI.Ctx} {a b d : Expr} {pos : Pos}
theorem ms_par3 {i j k : Nat} {x y z : Str} {gl : SL} {px py pz pt : Pos} {kt k2 pt2} (hc : X.calm = true) (hN : X.N.Nodup) (ha : MA X cl E c [a, b, d] gl)
    (hw : swappedStores [.Tuple [.Name x px, .Name y py, .Name z pz] kt pt] (.Tuple [a, b, d] k2 pt2) X.env = pure (some [x, y, z])) (hi : X.N[i]? = some x := by rfl) (hj : X.N[j]? = some y := by rfl) (hk : X.N[k]? = some z := by rfl) (hij : i ≠ j := by decide) (hik : i ≠ k := by decide) (hjk : j ≠ k := by decide)
    (hx : X.env.scope.names.lookup x = some .local := by rfl) (hy : X.env.scope.names.lookup y = some .local := by rfl) (hz : X.env.scope.names.lookup z = some .local := by rfl)
    (hs : swapsWithSole [.Tuple [.Name x px, .Name y py, .Name z pz] kt pt] (.Tuple [a, b, d] k2 pt2) pos.line X.env = pure false := by rfl) :
    MST X cl E c (.Assign [.Tuple [.Name x px, .Name y py, .Name z pz] kt pt] (.Tuple [a, b, d] k2 pt2) pos) (sAsg (gTup 3 (gCons (gVar i) (gCons (gVar j) (gCons (gVar k) gNil)))) (eTup gl)) := psI (ps_par3 hc hN hi hj hk hij hik hjk hx hy hz ha hw hs) fun D σ H ⟨ρ, env, st, A, e, h⟩ => by
  unfold sAsg eTup at h
  rw [sBnd_bnd] at h
  refine (RestS.step (x := gl c) (rL X.K) A e h).imp fun v1 H1 ⟨ρ1, st1, d1, g1, A1, r1, h1⟩ => ?_
  by_cases hl : d1.length < lim
  · rw [if_pos hl] at h1
    cases r1 with
    | nil => exact h1.elim
    | @cons v vs d ds ra rr =>
      cases rr with
      | nil => exact h1.elim
      | @cons w ws d' ds' rb rr =>
        cases rr with
        | nil => exact h1.elim
        | @cons u us d2 ds2 rc rr =>
          cases rr with
          | cons _ _ => exact h1.elim
          | nil =>
            refine ⟨v, w, u, rfl, ?_⟩
            simp only [MI.ret, sBnd, MI.gTup, MI.gCons, MI.gVar, MI.gNil, List.length_cons, List.length_nil, List.length_set, Nat.zero_add, Nat.reduceAdd, if_true] at h1
            by_cases h_i : i < env.length
            · by_cases h_j : j < env.length
              · by_cases h_k : k < env.length
                · simp only [h_i, h_j, h_k, List.length_set, if_true] at h1
                  exact h1 ρ1 H1 _ .refl A1 (RvE.set rc k (RvE.set rb j (RvE.set ra i (e.grow A g1))))
                · simp only [h_i, h_j, h_k, List.length_set, if_true, if_false] at h1; exact h1.elim
              · simp only [h_i, h_j, List.length_set, if_true, if_false] at h1; exact h1.elim
            · simp only [h_i, if_false] at h1; exact h1.elim
  · rw [if_neg hl] at h1; exact h1.elim
end
end MS

set_option Elab.async false
set_option linter.all false
set_option maxRecDepth 100000
set_option maxHeartbeats 4000000
/-! MSR8: set(a list of ints), then sorted of it. Turned from the library's rule for a tuple. -/
namespace MS
open PySem PySem.Spec PyProof.Rows L2 MI
section
variable {P : Program} {w : World} {A : Around} {E : Value → Shared → Prop} {s : Shared}
set_option maxRecDepth 100000 in
set_option maxHeartbeats 3200000 in
theorem call_set_lstI {l : Addr} {items : Array Value} (ns : List Int) {Q : Value → Shared → Prop} (hh : A.handled = none) (hl : s.heap.IsList l items) (hit : IntsAre items.toList ns) (hb : ns.length + 1 < scanBound)
    (h : ∀ (h' : Heap) (tk c : Nat), SetR w h' s.heap.objs.size (fun j => decide (j ∈ ns)) c → c ≤ ns.length → (∀ b o, s.heap.get? b = some o → h'.get? b = some o) → Q (.ref s.heap.objs.size) { s with heap := h', toks := tk }) :
    wpAny (model P w) A (call (.type "set") [.ref l]) Q E s := by
  have hisz : items.size = ns.length := by
    have q := IntsAre.length hit
    rw [Array.length_toList] at q
    exact q
  obtain ⟨c, tl, hmro⟩ := F.called_set.mro
  have hmade := F.called_set.made
  have hsub := F.called_set.sub
  refine wpAny_call (codeAny_of_tree ?_)
  show wpAny _ _ (callAny (.type "set") _) _ _ _
  refine wpAny_pure ⟨Code.quiet_builtin _ (by decide +kernel), codeAny_builtin F.entry_type_call ?_⟩
  rw [Around.under_plain (weight_type_call_type "set" [.ref l] []) rfl]
  have h1 := F.called_set.notType
  have h2 := F.called_set.canCreate
  have hct := F.typeCall_set_1 (.ref l)
  repeat (any_goals (first | assumption | wp_step))

  refine codeAny_mono (code_set_led1 (.ref l) (E := E) (Q₁ := fun obj s₁ => obj = .ref s.heap.objs.size ∧ s₁ = { s with heap := s.heap.push { cls := .type "set", dict := none, data := .set #[] 0 (.fresh 0 0 (!w.params.followText "set-order")) } }) ⟨rfl, rfl⟩) fun r s₁ hr => ?_
  cases r with
  | error e => exact hr
  | ok fl =>
    cases fl with
    | ret obj =>
      obtain ⟨rfl, rfl⟩ := hr
      have hS : (s.heap.push { cls := .type "set", dict := none, data := .set #[] 0 (.fresh 0 0 (!w.params.followText "set-order")) }).get? s.heap.objs.size = some { cls := .type "set", dict := none, data := .set #[] 0 (.fresh 0 0 (!w.params.followText "set-order")) } := Heap.get?_push_size _ rfl
      have hT : Shared.TypeIs { s with heap := s.heap.push { cls := .type "set", dict := none, data := .set #[] 0 (.fresh 0 0 (!w.params.followText "set-order")) } } (.ref s.heap.objs.size) "set" := ⟨_, hS, rfl⟩
      have hli := F.called_set.init.lookup
      have hbi := F.called_set.init.bind (.ref s.heap.objs.size)
      repeat (any_goals (first | assumption | wp_step))

      refine codeAny_mono (codeAny_call_builtin (R := wants (fun r s₂ => r = .none ∧ ∃ h' tk c, s₂ = { s with heap := h', toks := tk } ∧ SetR w h' s.heap.objs.size (fun j => decide (j ∈ ns)) c ∧ c ≤ ns.length ∧
          (∀ b o, s.heap.get? b = some o → h'.get? b = some o)) E) F.called_set.init.plain F.entry_set_init (check_set_init_1 hT ?_)) fun r₂ s₂ hr₂ => ?_
      · obtain ⟨ol, hol, hcl, nl, hdl⟩ := hl
        obtain ⟨ocls, odict, odata, oslots⟩ := ol
        simp only at hcl hdl
        subst hcl; subst hdl
        have hol' : (s.heap.push { cls := .type "set", dict := none, data := .set #[] 0 (.fresh 0 0 (!w.params.followText "set-order")) }).get? l = some { cls := .type "list", dict := odict, data := .seq items nl, slots := oslots } := Heap.get?_push_of_some _ hol
        have hsls := F.sub_list_set
        have hslf := F.sub_list_frozenset
        have hne : (Value.type "list" == Value.type "dict") = false := by decide
        have hl1 : (s.heap.push { cls := .type "set", dict := none, data := .set #[] 0 (.fresh 0 0 (!w.params.followText "set-order")) }).IsList l items := ⟨_, hol', rfl, nl, rfl⟩
        unfold Builtin.«set.__init__» noKeywords Builtin.Frozenset.updateFrom
        generalize hPI : pyIter = PI
        wp_walk
        subst hPI

        refine wpAny_pyIter_list hl1 ?_
        refine wpAny_bind (wpAny_runValue ?_)
        have hlS : l < s.heap.objs.size := Heap.lt_size hol
        have hh3 : A.in1.in1.in1.handled = none := by simp [hh]
        have hz1 : (s.heap.push { cls := .type "set", dict := none, data := .set #[] 0 (.fresh 0 0 (!w.params.followText "set-order")) }).objs.size = s.heap.objs.size + 1 := Heap.size_push ..
        have hneI : l ≠ (s.heap.push { cls := .type "set", dict := none, data := .set #[] 0 (.fresh 0 0 (!w.params.followText "set-order")) }).objs.size := by
          rw [Heap.size_push]; exact Nat.ne_of_lt (Nat.lt_succ_of_lt hlS)
        have hSf : s.heap.objs.size ∉ [(s.heap.push { cls := .type "set", dict := none, data := .set #[] 0 (.fresh 0 0 (!w.params.followText "set-order")) }).objs.size, l] := by
          rw [Heap.size_push]; simp only [List.mem_cons, List.mem_singleton, List.not_mem_nil, or_false, not_or]
          exact ⟨Nat.ne_of_lt (Nat.lt_succ_self _), Nat.ne_of_gt hlS⟩
        have hval : ∀ (i : Nat) (v : Value), items[i]? = some v → ∃ k t, ns[i]? = some k ∧ v = .int k t := fun i v hv => by
          have hi : i < ns.length := by rw [← hisz]; exact (Array.getElem?_eq_some_iff.mp hv).1
          obtain ⟨t, e⟩ := PyProof.Rows.IntsAre.int_at hit i v (by rw [Array.getElem?_toList]; exact hv)
          refine ⟨ns[i], t, List.getElem?_eq_getElem hi, ?_⟩
          rw [e, List.getD_eq_getElem?_getD, List.getElem?_eq_getElem hi] <;> rfl
        refine set_update_ints ((Walks.list hh3 _ l hneI items).toS) s.heap.objs.size
          hSf ns hisz hb hval (items.size - 0) 0 _ (by omega) (Nat.zero_le _)
          ⟨⟨_, Heap.get?_push_size _ rfl, rfl, rfl⟩, (hl1.push _)⟩ ?hS0 ?hR
        case hS0 =>
          have hget : ((s.heap.push { cls := .type "set", dict := none, data := .set #[] 0 (.fresh 0 0 (!w.params.followText "set-order")) }).push { cls := .type "list_iterator", data := .fields #[.ref l, .int 0 0] }).get? s.heap.objs.size
              = some { cls := .type "set", dict := none, data := .set #[] 0 (.fresh 0 0 (!w.params.followText "set-order")) } := Heap.get?_push_of_some _ hS
          exact ⟨0, Nat.le_refl 0, setR_new_at hget⟩
        case hR =>
          intro s' c' hm hc' hS'
          obtain ⟨h', g2, d', tk', os'⟩ := s'
          have eg : g2 = s.gens := hm.gens
          have ed : d' = s.drawn := hm.drawn
          have eo : os' = s.os := hm.os
          subst eg; subst ed; subst eo
          show wpAny _ _ _ _ _ _
          refine wpAny_pure ?_
          show wpAny _ _ (ret Value.none) _ _ _
          rw [hisz] at hc'
          refine wpAny_pure ⟨rfl, h', tk', c', rfl, hS', hc', fun b o e => ?_⟩
          have hb0 : b < s.heap.objs.size := Heap.lt_size e
          have hb1 : b ≠ s.heap.objs.size := Nat.ne_of_lt hb0
          have hb2 : b ≠ (s.heap.push { cls := .type "set", dict := none, data := .set #[] 0 (.fresh 0 0 (!w.params.followText "set-order")) }).objs.size := by
            rw [Heap.size_push]; exact Nat.ne_of_lt (Nat.lt_succ_of_lt hb0)
          exact hm.heap b o (by simp only [List.mem_cons, List.mem_singleton, List.not_mem_nil, or_false, not_or]; exact ⟨hb1, hb2⟩) (Heap.get?_push_of_some _ (Heap.get?_push_of_some _ e))

      · cases r₂ with
        | error e => exact hr₂
        | ok fl₂ =>
          cases fl₂ with
          | ret r =>
            obtain ⟨rfl, h', tk, c', rfl, hS', hc', hk'⟩ := hr₂
            repeat (any_goals (first | assumption | wp_step))
            exact h _ _ _ hS' hc' hk'
          | _ => exact hr₂.elim
    | _ => exact hr.elim
end
end MS

set_option Elab.async false
set_option linter.all false
set_option maxRecDepth 100000
set_option maxHeartbeats 4000000
/-! MS14: sorted(set(ints)). -/
namespace MS
open PySem PySem.Spec PyProof.Rows L2 MI
section
variable {X : Cx}
def rSetI (K : PySem.W.Frag) (w : World) : List V → Hp → VK → Prop := fun vs H Q => ∃ (a : Addr) (ns : List Int), vs = [V.ref a] ∧ (SqL K H a (ns.map V.int) ∨ SqT K H a (ns.map V.int)) ∧ ns.length < 64 ∧
  ∀ (p : Addr) (c : Nat), H p = none → c ≤ ns.length → Q (.ref p) (upd H p (SetO w p (fun j => decide (j ∈ ns)) c))
theorem cr_setI (hc : X.calm = true) : CallR X (.type "set") (rSetI X.K X.w) := by
  intro pins s σ H vs us Q I r h
  obtain ⟨a, ns, rfl, ha, hl, q⟩ := h
  rw [Vals.ref1 r]
  have fin : ∀ (h' : Heap) (tk c : Nat), SetR X.w h' s.heap.objs.size (fun j => decide (j ∈ ns)) c → c ≤ ns.length → (∀ b o, s.heap.get? b = some o → h'.get? b = some o) → EP X pins σ Q (.ref s.heap.objs.size) { s with heap := h', toks := tk } := fun h' tk c R hcn hk => by
    have hn : H s.heap.objs.size = none := I.hok.fresh (Nat.le_refl _)
    exact ⟨.ref _, _, I.laid (t' := tk) hk (Nat.le_refl _) (setO_new R), rfl, q _ c hn hcn⟩
  have hb : ns.length + 1 < scanBound := by unfold scanBound; omega
  rcases ha with ha | ha
  · obtain ⟨its, r, pl, hz⟩ := I.list ha
    exact call_set_lstI ns (I.ok.hd hc) pl.isList (by simpa using ints_of_vals r) hb fin
  · obtain ⟨its, r, pl, hz⟩ := I.tuple ha
    exact call_set_tupI ns (I.ok.hd hc) pl (by simpa using ints_of_vals r) hb fin
theorem rSortedSet_upd {w : World} {H1 : Hp} {p : Addr} {ns : List Int} {c : Nat} {Q : VK} (hp : H1 p = some (SetO w p (fun j => decide (j ∈ ns)) c)) (hc : c < 64)
    (h : ∀ q, H1 q = none → Q (.ref q) (upd H1 q (.lst ((sortI (dedI ns)).map V.int)))) : rSortedSet w [V.ref p] H1 Q :=
  ⟨p, _, c, rfl, hp, hc, fun ms q hlt hm _ hq => by
    have hnd : ms.Nodup := hlt.imp fun h => Int.ne_of_lt h
    have hp : ms.Perm (dedI ns) := (List.perm_ext_iff_of_nodup hnd (nodup_dedI ns)).mpr fun k => by
      rw [hm k, mem_dedI, decide_eq_true_eq]
    rw [sortI_unique hp (hlt.imp fun h => Int.le_of_lt h)]
    exact h q hq⟩
end
section
variable {K : PySem.W.Frag} {cl : Nat → Addr} {E : EX}
theorem s_sorS {w : World} : Ca1 K cl E bSorS (fun vs H Q => rSetI K w vs H fun u H2 => rSortedSet w [u] H2 (fz Q)) := by
  intro σ Q ρ H st v1 d1 A r1 h
  rcases seqOf_ok A r1 with q | ⟨a, vs, l, rfl, q, r, hs⟩
  · exact h.none (bnd_none q)
  · cases qi : ints? l with
    | none => exact h.none (by unfold bSorS; rw [bnd_inv q, qi]; rfl)
    | some ns =>
      have ev := ints_of qi r
      subst ev
      by_cases hl : ns.length < 64
      · have e : bSorS d1 st = some (.ok (.frz ((sortI (dedI ns)).map D.int)), st) := by unfold bSorS; rw [bnd_inv q, qi]; simp only [if_pos hl]; rfl
        refine ⟨a, ns, rfl, hs, hl, fun p c n hc => ?_⟩
        obtain ⟨A', g⟩ := A.side (o := SetO w p (fun j => decide (j ∈ ns)) c) n
        exact rSortedSet_upd upd_same (by omega) fun q' n' => rest_frz A' (ints_map _) (h.base g) e q' n'
      · exact h.none (by unfold bSorS; rw [bnd_inv q, qi]; simp only [if_neg hl]; rfl)
end
theorem B_set : bootBuiltins "set" = some (.type "set") := by decide +kernel
section
variable {X : Cx} {cl : Nat → Addr} {E : EX} {c : MI.Ctx} {e : Expr} {ga : SE} {p q pos qos : Pos}
theorem me_sorS (hc : X.calm = true) (hg : Gl X "sorted") (hm : X.mg "sorted" = none) (hg' : Gl X "set") (hm' : X.mg "set" = none) (ha : ME X cl E c e ga)
    (he : starEach [e] X.env = (false, eval e X.env) :: starEach [] X.env := by rfl)
    (he2 : starEach [Expr.Call (.Name "set" q) [e] [] qos] X.env = (false, eval (Expr.Call (.Name "set" q) [e] [] qos) X.env) :: starEach [] X.env := by rfl) :
    ME X cl E c (.Call (.Name "sorted" p) [.Call (.Name "set" q) [e] [] qos] [] pos) (eUn bSorS ga) :=
  peI (pe_callB (MS.CallR.fz (cr_sortedSet hc)) hg hm B_sorted (pa_cons (pe_callTy (cr_setI hc) hg' hm' B_set (pa_cons ha pa_nil he) (by decide +kernel) (by decide +kernel) he (by rfl)) pa_nil he2) (by decide +kernel) (by decide +kernel) he2 (by rfl))
    fun σ H Q h => tm_un (f := bSorS) (r := fun v H Q => rSetI X.K X.w [v] H fun u H2 => rSortedSet X.w [u] H2 (fz Q)) s_sorS h
end
end MS

set_option Elab.async false
set_option linter.all false
set_option maxRecDepth 100000
set_option maxHeartbeats 4000000
/-! MS15: texts, isinstance, f-strings, what is not covered. -/
namespace MS
open PySem PySem.Spec PyProof.Rows L2 MI
abbrev tlS (z : Str) : List Nat := z.cps.toList
theorem sD_tl (z : Str) : sD (tlS z) = z := by
  obtain ⟨c⟩ := z
  show (⟨c.toList.toArray⟩ : Str) = ⟨c⟩
  simp
theorem tl_sD (l : List Nat) : tlS (sD l) = l := by show l.toArray.toList = l; simp
theorem strI_eq (i : Int) : sD (strI i) = Str.ofString (toString i) := by
  rw [Str.ofString_eq_toList]; rfl
theorem sD_joinN (a : List Nat) : ∀ ys : List (List Nat), sD (joinN a ys) = Str.join (sD a) (ys.map sD)
  | [] => rfl
  | [x] => rfl
  | x :: y :: r => by
    rw [joinN, ← sD_app, ← sD_app, sD_joinN a (y :: r)]; rfl
/-! ### split -/
theorem splitC_ne (c : Nat) : ∀ l, splitC c l ≠ []
  | [] => by simp [splitC]
  | x :: r => by
    unfold splitC
    split
    · simp
    · split <;> simp
theorem splitC_free {c : Nat} : ∀ {p : List Nat}, c ∉ p → splitC c p = [p]
  | [], _ => rfl
  | x :: r, h => by
    have hx : ¬ x = c := fun e => h (by simp [e])
    have hr : c ∉ r := fun e => h (by simp [e])
    unfold splitC
    rw [if_neg hx, splitC_free hr]
theorem splitC_app {c : Nat} : ∀ {p : List Nat} (r : List Nat), c ∉ p → splitC c (p ++ c :: r) = p :: splitC c r
  | [], r, _ => by
    show splitC c (c :: r) = _
    rw [splitC, if_pos rfl]
  | x :: p, r, h => by
    have hx : ¬ x = c := fun e => h (by simp [e])
    have hr : c ∉ p := fun e => h (by simp [e])
    rw [List.cons_append, splitC, if_neg hx, splitC_app r hr]
theorem splitC_join (c : Nat) : ∀ {ps : List (List Nat)}, ps ≠ [] → (∀ p ∈ ps, c ∉ p) → splitC c (joinN [c] ps) = ps
  | [], h, _ => absurd rfl h
  | [p], _, h => splitC_free (h p (by simp))
  | p :: q :: r, _, h => by
    rw [joinN, List.append_assoc, List.singleton_append, splitC_app _ (h p (by simp)), splitC_join c (ps := q :: r) (by simp) fun z hz => h z (by simp [List.mem_cons.mp hz])]
theorem split_eq (l : List Nat) (c : Nat) : Txt.split (sD l) (sD [c]) = (splitC c l).map sD := by
  have hj := StrLaws.join_split (sD l) (sD [c])
  have hf := StrLaws.split_free (sD l) c
  have e1 : (Txt.split (sD l) (sD [c])) = ((Txt.split (sD l) (sD [c])).map tlS).map sD := by
    rw [List.map_map]
    exact ((List.map_congr_left fun z _ => sD_tl z).trans (List.map_id _)).symm
  have hne : (Txt.split (sD l) (sD [c])).map tlS ≠ [] := fun e => by
    have e' := List.map_eq_nil_iff.mp e
    unfold Txt.split at e'
    split at e'
    · cases e'
    · split at e'
      · cases e'
      · have := StrLaws.partsBetween_eq (sD l) (Builtin.Str.occurrences (sD l) (sD [c]) 0 (sD l).length ((sD l).length + 1)) (sD [c]).length
        rw [this] at e'
        obtain ⟨p, r, q⟩ := StrLaws.partsFrom_ne (sD l) (sD [c]).length 0 (Builtin.Str.occurrences (sD l) (sD [c]) 0 (sD l).length ((sD l).length + 1))
        rw [q] at e'
        cases e'
  have hl : joinN [c] ((Txt.split (sD l) (sD [c])).map tlS) = l := by
    apply sD_inj
    rw [sD_joinN, ← e1, hj]
  have := splitC_join c hne fun p hp => by
    obtain ⟨z, hz, rfl⟩ := List.mem_map.mp hp
    exact hf z hz
  rw [hl] at this
  rw [this, ← e1]
/-! ### values -/
section
variable {K : PySem.W.Frag} {cl : Nat → Addr} {E : EX}
theorem s_str : Ca1 K cl E bStr (fun xs H Q => (∃ i, xs = [.int i] ∧ i.natAbs.log2 < 1920 ∧ Q (.str (toString i)) H) ∨ ∃ a, xs = [.str a] ∧ Q (.str a) H) := by
  intro σ Q ρ H st v1 d1 A r1 h
  cases r1 with
  | int i =>
    by_cases hi : i.natAbs.log2 < 1920
    · refine .inl ⟨i, rfl, hi, ?_⟩
      have := h.ok (st' := st) (d := .str (strI i)) (v := .str (sD (strI i))) (by simp only [bStr, if_pos hi]) .refl A (.str _)
      rw [strI_eq] at this
      exact this
    · exact h.none (by simp only [bStr, if_neg hi])
  | str s => exact .inr ⟨sD s, rfl, h.ok (st' := st) rfl .refl A (.str _)⟩
  | _ => exact h.none rfl
theorem call_strA {X : Cx} : CallR X (.type "str") (fun xs H Q => (∃ i, xs = [.int i] ∧ i.natAbs.log2 < 1920 ∧ Q (.str (toString i)) H) ∨ ∃ a, xs = [.str a] ∧ Q (.str a) H) := fun pins s σ H xs us Q I r h => by
  rcases h with h | h
  · exact call_str_int pins s σ H xs us Q I r h
  · exact SkE.call_str_str pins s σ H xs us Q I r h
theorem strs_of {ρ : List Addr} {H : Hp} : ∀ {l : List D} {vs : List V} {ys : List (List Nat)}, MI.strs? l = some ys → RvL K H ρ vs l → vs = (ys.map sD).map V.str
  | [], _, _, h, r => by cases r; cases h; rfl
  | .str s :: l, _, ys, h, r => by
    cases r with
    | cons a b =>
      cases a
      simp only [MI.strs?, Option.map_eq_some_iff] at h
      obtain ⟨zs, hz, rfl⟩ := h
      rw [strs_of hz b]; rfl
  | .non :: _, _, _, h, _ => by cases h
  | .bl _ :: _, _, _, h, _ => by cases h
  | .int _ :: _, _, _, h, _ => by cases h
  | .tup _ :: _, _, _, h, _ => by cases h
  | .xtup _ :: _, _, _, h, _ => by cases h
  | .frz _ :: _, _, _, h, _ => by cases h
  | .loc _ :: _, _, _, h, _ => by cases h
theorem rvl_strs {ρ : List Addr} {H : Hp} : ∀ ys : List (List Nat), RvL K H ρ ((ys.map sD).map V.str) (ys.map D.str)
  | [] => .nil
  | y :: r => .cons (.str y) (rvl_strs r)
theorem sD_size (l : List Nat) : (sD l).length = l.length := by show l.toArray.size = l.length; simp
end
section
variable {X : Cx} {cl : Nat → Addr} {E : EX} {c : MI.Ctx}
theorem ty_str {a : List Nat} {H : Hp} : TyOk X "str" (.str (sD a)) H := .of rfl
theorem MtR.fz {id : String} {r : V → List V → Hp → VK → Prop} (h : MtR X id r) : MtR X id (fun x xs H Q => r x xs H (MS.fz Q)) := fun pins s σ H x xs v us Q I rx rs q => thn (h pins s σ H x xs v us _ I rx rs q) fun _ _ z => ep_fz z
theorem m_join : Mt1 X cl E "join" isStr mJoin := fun {ρ H st v d} A r => by
  cases r with
  | str a =>
    refine .inr ⟨rfl, "str", "str.join", _, ⟨PySem.F.plainAttrs_str, PySem.F.slot_str_join, PySem.F.type_str_join, mt_join⟩, ty_str, fun {σ Q ρ1 H1 st1 y z} A1 r1 r2 h => ?_⟩
    rcases seqOf_ok A1 r2 with q | ⟨p, vs, l, rfl, q, rl, hs⟩
    · exact h.none (by unfold mJoin; exact bnd_none q)
    · cases qs : MI.strs? l with
      | none => exact h.none (by unfold mJoin; rw [bnd_inv q]; simp only [qs]; rfl)
      | some ys =>
        have ev := strs_of qs rl
        subst ev
        by_cases hl : (ys.map (·.length)).sum + ys.length * a.length < lim
        · refine ⟨sD a, p, ys.map sD, rfl, rfl, hs, ?_, ?_⟩
          · rw [List.map_map, List.length_map, sD_size]
            have e : (ys.map ((·.length) ∘ sD)) = ys.map (·.length) := List.map_congr_left fun y _ => sD_size y
            rw [e]
            exact Nat.le_of_lt hl
          · have := h.ok (st' := st1) (d := .str (joinN a ys)) (v := .str (sD (joinN a ys))) (by unfold mJoin; rw [bnd_inv q]; simp only [qs, if_pos hl]; rfl) .refl A1 (.str _)
            rw [sD_joinN, ← StrLaws.glued_eq_join] at this
            exact this
        · exact h.none (by unfold mJoin; rw [bnd_inv q]; simp only [qs, if_neg hl]; rfl)
  | _ => exact .inl rfl
theorem m_split : Mt1 X cl E "split" isStr mSplit := fun {ρ H st v d} A r => by
  cases r with
  | str a =>
    refine .inr ⟨rfl, "str", "str.split", _, ⟨PySem.F.plainAttrs_str, PySem.F.slot_str_split, PySem.F.type_str_split, MtR.fz mt_split⟩, ty_str, fun {σ Q ρ1 H1 st1 y z} A1 r1 r2 h => ?_⟩
    cases r2 with
    | str b =>
      match b with
      | [c] =>
        by_cases hl : a.length + 2 < lim
        · refine ⟨sD a, sD [c], rfl, rfl, rfl, by rw [sD_size, sizeLine_eq]; have : (lim : Nat) = 16777216 := rfl; omega, fun p hp => ?_⟩
          rw [split_eq]
          exact rest_frz A1 (rvl_strs _) h (by simp only [mSplit, if_pos hl]) p hp
        · exact h.none (by simp only [mSplit, if_neg hl])
      | [] => exact h.none rfl
      | _ :: _ :: _ => exact h.none rfl
    | _ => exact h.none rfl
  | _ => exact .inl rfl
theorem lstrip_eq (a b : List Nat) : Txt.lstripChars (sD a) (sD b) = sD (a.dropWhile fun c => b.contains c) := by
  have e0 : ∀ c, (sD b).cps.contains c = b.contains c := fun c => by
    show b.toArray.contains c = b.contains c
    simp
  show Txt.stripBy (sD b).cps.contains true false (sD a) = _
  rw [PyProof.Rows.stripBy_eq]
  have hi : ∀ lo, PySem.stripHi (sD b).cps.contains false (sD a) lo = (sD a).length := fun lo => rfl
  rw [hi]
  obtain ⟨h1, h2, h3⟩ := PyProof.Rows.lo_facts (sD b).cps.contains (sD a)
  generalize PySem.stripLo (sD b).cps.contains true (sD a) = lo at h1 h2 h3
  rw [sD_size] at h1 h3 ⊢
  have gd : ∀ k, (sD a).cps.getD k 0 = a.getD k 0 := fun k => by rw [← PyProof.Rows.getD_list]
  have drop : ∀ (a : List Nat) (lo : Nat), lo ≤ a.length → (∀ k, k < lo → b.contains (a.getD k 0) = true) → (lo = a.length ∨ b.contains (a.getD lo 0) = false) → a.drop lo = a.dropWhile fun c => b.contains c := by
    intro a
    induction a with
    | nil => intro lo h _ _; simp at h; subst h; rfl
    | cons x r ih =>
      intro lo h1 h2 h3
      cases lo with
      | zero =>
        rcases h3 with h3 | h3
        · simp at h3
        · have : b.contains x = false := by simpa using h3
          rw [List.dropWhile_cons, if_neg (by rw [this]; decide)]; rfl
      | succ lo =>
        have hx : b.contains x = true := by simpa using h2 0 (by omega)
        rw [List.drop_succ_cons, List.dropWhile_cons, if_pos hx]
        exact ih lo (by simpa using h1) (fun k hk => by simpa using h2 (k + 1) (by omega)) (by simpa using h3)
  have := drop a lo h1 (fun k hk => by have := h2 k hk; rw [e0, gd] at this; exact this) (by
    rcases h3 with h3 | h3
    · exact .inl h3
    · right; rw [e0, gd] at h3; exact h3)
  rw [← this]
  apply Str.ext'
  apply Array.toList_inj.mp
  rw [StrLaws.strSub_toList]
  show ((tlS (sD a)).drop lo).take (a.length - lo) = tlS (sD (a.drop lo))
  rw [tl_sD, tl_sD, List.take_of_length_le (by simp)]
theorem m_lstrip : Mt1 X cl E "lstrip" isStr mLstrip := fun {ρ H st v d} A r => by
  cases r with
  | str a =>
    refine .inr ⟨rfl, "str", "str.lstrip", _, ⟨PySem.F.plainAttrs_str, PySem.F.slot_str_lstrip, PySem.F.type_str_lstrip, mt_lstripChars⟩, ty_str, fun {σ Q ρ1 H1 st1 y z} A1 r1 r2 h => ?_⟩
    cases r2 with
    | str b =>
      by_cases hl : a.length < lim
      · refine ⟨sD a, sD b, rfl, rfl, by rw [sD_size]; exact lim_size hl, ?_⟩
        rw [lstrip_eq]
        exact h.ok (st' := st1) (by simp only [mLstrip, if_pos hl]) .refl A1 (.str _)
      · exact h.none (by simp only [mLstrip, if_neg hl])
    | _ => exact h.none rfl
  | _ => exact .inl rfl
theorem index0_eq {a : List Nat} {c : Nat} (h : a.contains c = true) : Txt.index0 (sD a) (sD [c]) = some (a.idxOf c) := by
  have hm : c ∈ a := by simpa using h
  have one : ∀ i, StrLaws.At (sD a) ⟨#[c]⟩ (sD a).length i ↔ a[i]? = some c := fun i => by
    have := StrLaws.subAt_one (sD a) c i
    show (i + (⟨#[c]⟩ : Str).length ≤ (sD a).length ∧ Builtin.Str.subAt (sD a) ⟨#[c]⟩ i = true) ↔ _
    rw [this]
  rcases StrLaws.occ_head (sD a) ⟨#[c]⟩ 1 (Nat.le_refl 1) with ⟨_, hn⟩ | ⟨i, r, e, hi, hk⟩
  · obtain ⟨i, hi⟩ := List.getElem?_of_mem hm
    exact absurd ((one i).mpr hi) (hn i)
  · have e2 : Txt.index0 (sD a) (sD [c]) = some i := by
      show (Builtin.Str.occurrences (sD a) ⟨#[c]⟩ 0 (sD a).length 1).head? = some i
      rw [e]; rfl
    rw [e2]
    congr 1
    have hi' := (one i).mp hi
    obtain ⟨hl, he⟩ := List.getElem?_eq_some_iff.mp hi'
    symm
    show a.findIdx (· == c) = i
    rw [List.findIdx_eq hl]
    refine ⟨by simp [he], fun j hj => ?_⟩
    have := fun q => hk j hj ((one j).mpr q)
    have hjl : j < a.length := by omega
    rw [List.getElem?_eq_getElem hjl] at this
    simp only [Option.some.injEq] at this
    simpa using this
theorem mt_index1 : MtR X "str.index" (fun x xs H Q => ∃ a b, x = V.str a ∧ xs = [V.str b] ∧ ∃ k, Txt.index0 a b = some k ∧ Q (.int (k : Nat)) H) := fun pins s σ H x xs v us Q I rx rs h => by
  obtain ⟨a, b, rfl, rfl, k, e, w⟩ := h
  obtain ⟨t, rfl⟩ := rx
  cases rs with
  | cons r1 rs =>
    cases rs
    obtain ⟨u, rfl⟩ := r1
    unfold Txt.index0 at e
    cases q : Builtin.Str.occurrences a b 0 a.length 1 with
    | nil => rw [q] at e; cases e
    | cons j rest =>
      rw [q] at e
      cases e
      exact PySem.SC.index q ⟨.int (k : Nat), H, I.tok _, ⟨_, rfl⟩, w⟩
theorem m_indexS : Mt1 X cl E "index" isStr mIndexS := fun {ρ H st v d} A r => by
  cases r with
  | str a =>
    refine .inr ⟨rfl, "str", "str.index", _, ⟨PySem.F.plainAttrs_str, PySem.F.slot_str_index, PySem.F.type_str_index, mt_index1⟩, ty_str, fun {σ Q ρ1 H1 st1 y z} A1 r1 r2 h => ?_⟩
    cases r2 with
    | str b =>
      match b with
      | [k] =>
        by_cases hl : a.contains k = true
        · exact ⟨sD a, sD [k], rfl, rfl, _, index0_eq hl, h.ok (st' := st1) (by simp only [mIndexS, if_pos hl]) .refl A1 (.int _)⟩
        · exact h.none (by simp only [mIndexS, if_neg hl])
      | [] => exact h.none rfl
      | _ :: _ :: _ => exact h.none rfl
    | _ => exact h.none rfl
  | _ => exact .inl rfl
/-! ### isinstance -/
def kdT : Kd → String
  | .int => "int"
  | .bool => "bool"
  | .str => "str"
  | .tup => "tuple"
theorem tyx_of {H : Hp} {ρ : List Addr} {v : V} {d : D} {k : Kd} {b : Bool} (r : Rv X.K H ρ v d) (e : k.has d = some b) : ∃ t, TyX X.K H v t ∧ PySem.W.kitOne X.K t (.type (kdT k)) = some b := by
  cases r with
  | non => exact ⟨_, .base .non, by cases k <;> cases e <;> exact kit_ty (by decide +kernel)⟩
  | bl x => exact ⟨_, .base (.bl x), by cases k <;> cases e <;> exact kit_ty (by decide +kernel)⟩
  | int x => exact ⟨_, .base (.int x), by cases k <;> cases e <;> exact kit_ty (by decide +kernel)⟩
  | str x => exact ⟨_, .base (.str _), by cases k <;> cases e <;> exact kit_ty (by decide +kernel)⟩
  | @tup a vs l hs rl =>
    have : TyX X.K H (.ref a) (.type "tuple") := by
      rcases hs with (h | ⟨o, h⟩) | ⟨o, _, _, e1, e2, _⟩
      · exact .base (.tup h)
      · exact .fTuple h
      · exact .kTuple e1 e2
    exact ⟨_, this, by cases k <;> cases e <;> exact kit_ty (by decide +kernel)⟩
  | _ => cases e
theorem me_isI {e : Expr} {ga : SE} {x : Str} {p q pos : Pos} (k : Kd) (hk : x = Str.ofString (kdT k)) (hg : Gl X "isinstance") (hm : X.mg "isinstance" = none) (hg2 : Gl X x) (hm2 : X.mg x = none) (ha : ME X cl E c e ga)
    (he : starEach [e, .Name x q] X.env = (false, eval e X.env) :: starEach [.Name x q] X.env := by rfl) (he2 : starEach [Expr.Name x q] X.env = (false, eval (.Name x q) X.env) :: starEach [] X.env := by rfl) (hpl : (backTo pos (starEach [Expr.Name x q] X.env)).any (·.1) = false := by rfl) :
    ME X cl E c (.Call (.Name "isinstance" p) [e, .Name x q] [] pos) (eUn (bIsI k) ga) := by
  have hb : bootBuiltins x = some (.type (kdT k)) := by subst hk; cases k <;> decide +kernel
  have hn : x ≠ "__name__" := by subst hk; cases k <;> decide +kernel
  have hd : (x == ("__debug__" : Str)) = false := by subst hk; cases k <;> decide +kernel
  refine peI (pe_callB call_isi hg hm (by decide +kernel) (pa_cons ha (pa_cons (pe_bltn hg2 hm2 hb (v := .ty (kdT k)) rfl hn hd) pa_nil he2) he) (by decide +kernel) (by decide +kernel) he hpl) fun σ H Q h => ?_
  have hs : UnS X.K cl E (bIsI k) (fun v H Q => rIsi X.K [v, .ty (kdT k)] H Q) := by
    intro σ Q ρ H st v1 d1 A r1 h
    cases qk : k.has d1 with
    | none => exact h.none (by simp only [bIsI, qk])
    | some b =>
      obtain ⟨t, ty, kit⟩ := tyx_of r1 qk
      exact ⟨v1, .ty (kdT k), t, _, b, rfl, .ty _, ty, kit, h.ok (st' := st) (d := .bl b) (by simp only [bIsI, qk]) .refl A (.bl b)⟩
  exact tm_un hs h
/-! ### what is not covered -/
theorem ms_none {s : Stmt} : MST X cl E c s sNone := ⟨fun pins s σ H D I ⟨ρ, env, st, A, e, h⟩ => h.elim⟩
theorem me_none {e : Expr} : ME X cl E c e eNone := ⟨fun pins s σ H Q I ⟨ρ, env, st, A, e, h⟩ => h.none rfl⟩
/-! ### f-strings -/
theorem me_fmt {e : Expr} {ga : SE} {pos : Pos} (ha : ME X cl E c e ga) : ME X cl E c (.FormattedValue e (-1) none pos) (eUn opFmt ga) := peI (pe_fmt ha) fun σ H Q h => by
  obtain ⟨ρ, env, st, A, e, h⟩ := h
  refine (Rest.step (g := ga c) (rV X.K) A e h).imp fun v1 H1 ⟨ρ1, st1, d1, g1, A1, r1, h1⟩ => ?_
  cases r1 with
  | int i =>
    by_cases hi : i.natAbs.log2 < 1920
    · refine .inr ⟨i, rfl, hi, ?_⟩
      have := h1.ok (st' := st1) (d := .str (strI i)) (v := .str (sD (strI i))) (by simp only [opFmt, if_pos hi]) .refl A1 (.str _)
      rw [strI_eq] at this
      exact this
    · exact h1.none (by simp only [opFmt, if_neg hi])
  | str s =>
    by_cases hl : s.length < lim
    · exact .inl ⟨sD s, rfl, by rw [sD_size]; exact lim_size hl, h1.ok (st' := st1) (by simp only [opFmt, if_pos hl]) .refl A1 (.str _)⟩
    · exact h1.none (by simp only [opFmt, if_neg hl])
  | _ => exact h1.none rfl
/-- the parts, one behind another -/
inductive MJ (X : Cx) (cl : Nat → Addr) (E : EX) (c : MI.Ctx) : List Expr → List SE → Prop where
  | nil : MJ X cl E c [] []
  | cons {e : Expr} {ga : SE} {es : List Expr} {gs : List SE} (h : ME X cl E c e ga) (r : MJ X cl E c es gs) : MJ X cl E c (e :: es) (ga :: gs)
theorem mj_pj {es : List Expr} {gs : List SE} (h : MJ X cl E c es gs) : PJ X es (gs.map fun g => TM X.K cl E (rV X.K) (g c)) := by
  induction h with
  | nil => exact .nil
  | cons h _ ih => exact .cons h ih
theorem mj_run {σ : L2.St} {Q : VK} : ∀ (gs : List SE) (acc : List Nat) {H : Hp}, TM X.K cl E (rV X.K) (eFsL gs acc c) σ H Q → tJs (gs.map fun g => TM X.K cl E (rV X.K) (g c)) (sD acc) σ H fun out H1 => Q (.str out) H1
  | [], acc, H, ⟨ρ, env, st, A, e, h⟩ => h.ok (st' := st) rfl .refl A (.str acc)
  | g :: gs, acc, H, ⟨ρ, env, st, A, e, h⟩ => (Rest.step (g := g c) (rV X.K) A e h).imp fun v1 H1 ⟨ρ1, st1, d1, g1, A1, r1, h1⟩ => by
    cases r1 with
    | str y =>
      by_cases hl : acc.length + y.length < lim
      · simp only [if_pos hl] at h1
        refine ⟨sD y, rfl, ?_, ?_⟩
        · rw [sD_app, sD_size, List.length_append]; exact lim_size hl
        · rw [sD_app]
          exact mj_run gs (acc ++ y) ⟨ρ1, env, st1, A1, e.grow A g1, h1⟩
      · simp only [if_neg hl] at h1
        exact h1.none rfl
    | _ => exact h1.none rfl
theorem me_fs {e e' : Expr} {es : List Expr} {ga gb : SE} {gs : List SE} {pos : Pos} (h : MJ X cl E c (e :: e' :: es) (ga :: gb :: gs)) : ME X cl E c (.JoinedStr (e :: e' :: es) pos) (eFs (ga :: gb :: gs)) :=
  peI (pe_joined (mj_pj h)) fun σ H Q h => mj_run (ga :: gb :: gs) [] h
/-! ### o.f as a target -/
theorem pg_fld {o : Expr} {to : TE} {f : Str} {pos : Pos} (ho : PE X o to) : PG X (.Attribute o f pos) (fun v σ H Q => to σ H fun x H1 => ∃ a C dx fs, x = .ref a ∧ H1 a = some (.ins C dx fs) ∧ Cls X.K C ∧ NoAttr X.K C f ∧ fs.length < 1000 ∧ Q σ (upd H1 a (.ins C dx (L2.putF f v fs)))) := by
  refine ⟨fun pins s σ H v u Q I r h => ?_⟩
  rw [assign_Attribute]
  refine wpAny_bind (wpAny_holding (thn (ho.run pins s σ H _ I h) fun ov s1 ⟨x, H1, I1, r1, a, C, dx, fs, ex, ea, hc, n, l, q⟩ => ?_))
  subst ex
  obtain rfl : ov = Value.ref a := r1
  refine wpAny_bind (wpAny_standAt (wpAny_bind (wpAny_holding (setattr_ok I1 ea hc n l r fun s3 I3 => ?_))))
  exact wpAny_release ⟨σ, _, I3, q⟩
theorem mg_fld {W : WX} {lv : Nat} {o : Expr} {ga : SE} {f : Str} {pos : Pos} (G : Good X W cl c lv) (n : List Nat) (hn : f = sD n) (ha : ME X cl (fun _ _ _ _ _ _ => False) c o ga) : MG X cl c (.Attribute o f pos) (MI.gFld ga n) :=
  pgI (pg_fld ha) fun v σ H Q ⟨ρ, env, st, d, A, e, r, h⟩ => by
    subst hn
    refine (RestG.step (x := ga c) (rV X.K) A e h).imp fun v1 H1 ⟨ρ1, st1, d1, g1, A1, r1, h1⟩ => ?_
    cases r1 with
    | @loc p i hp =>
      cases q : setFld c i n d st1 with
      | none => simp only [q] at h1; exact h1.elim
      | some st3 =>
        simp only [q] at h1
        obtain ⟨C, dx, fs, q1, q2, q3, q4, A3, g3⟩ := setFld_at G A1 hp (r.grow A g1) q
        exact ⟨p, C, dx, fs, rfl, q1, q2, q3, q4, h1 _ _ σ g3 A3 ((e.grow A g1).grow A1 g3)⟩
    | _ => exact h1.elim
end
end MS

set_option Elab.async false
set_option linter.all false
set_option maxRecDepth 100000
set_option maxHeartbeats 4000000
/-! MS16: repr. -/
namespace MS
open PySem PySem.Spec PyProof.Rows L2 MI
mutual
theorem toPyN_eq : ∀ d : D, toPyN d = toPy d
  | .non => rfl
  | .bl _ => rfl
  | .int _ => rfl
  | .str _ => rfl
  | .loc _ => rfl
  | .tup l => by simp only [toPyN, toPy, toPyNs_eq l]
  | .frz l => by simp only [toPyN, toPy, toPyNs_eq l]
  | .xtup l => by simp only [toPyN, toPy, toPyNs_eq l]
theorem toPyNs_eq : ∀ l : List D, toPyNs l = toPys l
  | [] => rfl
  | x :: xs => by simp only [toPyNs, toPys, toPyN_eq x, toPyNs_eq xs]
end
mutual
theorem cost_ok : ∀ (n : Nat) (d : D), D.ok n d = true → (toPy d).shown.length ≤ D.cost d
  | _, .non, _ => by show ("None" : Str).length ≤ 4; decide +kernel
  | _, .bl b, _ => by cases b <;> (show Str.length _ ≤ 5; decide +kernel)
  | _, .int i, _ => by
    show (Str.ofString (toString i)).length ≤ i.natAbs.log2 + 2
    rw [PySem.ofString_length]
    exact int_text_length_le (k := i.natAbs.log2 + 1) (by omega) (by omega)
  | _, .str s, h => by
    have hc : ∀ c ∈ (sD s).cps.toList, c < 16 ^ 8 := fun c hc => by
      have e : c ∈ s := by
        have := tl_sD s
        show c ∈ s
        rw [← this]; exact hc
      simp only [D.ok, List.all_eq_true, decide_eq_true_eq] at h
      have := h c e
      omega
    have := StrLaws.reprText_len (sD s) hc
    rw [sD_size] at this
    exact this
  | 0, .tup _, h => by simp [D.ok] at h
  | n + 1, .tup l, h => by
    simp only [D.ok, Bool.and_eq_true] at h
    show (tupleText (PyData.shownAll (toPys l))).length ≤ D.costL l + 3
    have := PySem.tupleText_len_le (PyData.shownAll (toPys l))
    have := costL_ok n l h.2
    omega
  | 0, .xtup _, h => by simp [D.ok] at h
  | n + 1, .xtup l, h => by
    simp only [D.ok, Bool.and_eq_true] at h
    show (tupleText (PyData.shownAll (toPys l))).length ≤ D.costL l + 3
    have := PySem.tupleText_len_le (PyData.shownAll (toPys l))
    have := costL_ok n l h.2
    omega
  | 0, .frz _, h => by simp [D.ok] at h
  | n + 1, .frz l, h => by
    simp only [D.ok, Bool.and_eq_true] at h
    show (listText (PyData.shownAll (toPys l))).length ≤ D.costL l + 3
    have := PySem.listText_len_le (PyData.shownAll (toPys l))
    have := costL_ok n l h.2
    omega
  | _, .loc _, h => by simp [D.ok] at h
theorem costL_ok : ∀ (n : Nat) (l : List D), D.okL n l = true → ((PyData.shownAll (toPys l)).map (·.length)).sum + 2 * (PyData.shownAll (toPys l)).length ≤ D.costL l
  | _, [], _ => by simp [toPys, PyData.shownAll, D.costL]
  | n, x :: xs, h => by
    simp only [D.okL, Bool.and_eq_true] at h
    have h1 := cost_ok n x h.1
    have h2 := costL_ok n xs h.2
    simp only [toPys, PyData.shownAll, List.map_cons, List.sum_cons, List.length_cons, D.costL]
    omega
end
mutual
theorem shw_ok : ∀ d : D, D.shw d = true → (toPy d).showable = true ∧ (toPy d).hasDict = false
  | .non, _ => by simp [toPy, PyData.showable, PyData.hasDict]
  | .bl _, _ => by simp [toPy, PyData.showable, PyData.hasDict]
  | .int i, h => by
    simp only [D.shw] at h
    simp [toPy, PyData.showable, PyData.hasDict]
    simpa using h
  | .str _, _ => by simp [toPy, PyData.showable, PyData.hasDict]
  | .loc _, _ => by simp [toPy, PyData.showable, PyData.hasDict]
  | .tup l, h => by
    simp only [D.shw] at h
    have := shwL_ok l h
    simp [toPy, PyData.showable, PyData.hasDict, this]
  | .xtup l, h => by
    simp only [D.shw] at h
    have := shwL_ok l h
    simp [toPy, PyData.showable, PyData.hasDict, this]
  | .frz l, h => by
    simp only [D.shw] at h
    have := shwL_ok l h
    simp [toPy, PyData.showable, PyData.hasDict, this]
theorem shwL_ok : ∀ l : List D, D.shwL l = true → PyData.showableAll (toPys l) = true ∧ PyData.hasDictAll (toPys l) = false
  | [], _ => by simp [toPys, PyData.showableAll, PyData.hasDictAll]
  | x :: xs, h => by
    simp only [D.shwL, Bool.and_eq_true] at h
    have h1 := shw_ok x h.1
    have h2 := shwL_ok xs h.2
    simp [toPys, PyData.showableAll, PyData.hasDictAll, h1, h2]
end
def rRepr (K : PySem.W.Frag) : List V → Hp → VK → Prop := fun xs H Q => ∃ v d, xs = [v] ∧ Dp K H v d ∧ d.showable = true ∧ d.hasDict = false ∧ d.depth ≤ 60 ∧ d.shown.length ≤ sizeLine ∧ Q (.str d.shown) H
theorem call_reprD {X : Cx} (hg : X.A.guards = some []) (hu : X.A.units + 65 < cLine) : CallR X (.builtin "repr") (rRepr X.K) := by
  intro pins s σ H xs us Q I r h
  obtain ⟨v, d, rfl, hd, h1, h2, h3, h4, q⟩ := h
  obtain ⟨u, rfl, ru⟩ := Vals.one r
  obtain ⟨as, rd⟩ := Dp.reads I d v u hd ru
  have fin : ∀ (h' : Heap) (t tk : Nat), (∀ b o, s.heap.get? b = some o → h'.get? b = some o) → EP X pins σ Q (.str d.shown t) { s with heap := h', toks := tk } := fun h' t tk k => ⟨.str d.shown, H, I.kept k, ⟨t, rfl⟩, q⟩
  have fin0 : ∀ (t tk : Nat), EP X pins σ Q (.str d.shown t) { s with toks := tk } := fun t tk => ⟨.str d.shown, H, I.kept (h' := s.heap) fun _ _ e => e, ⟨t, rfl⟩, q⟩
  cases hd with
  | non =>
    obtain rfl : u = .none := ru
    exact PySem.P.repr_of_none (fin0 _ _)
  | bl b =>
    obtain rfl : u = .bool b := ru
    have := @PySem.P.repr_of_bool
    exact PySem.P.repr_of_bool (fin0 _ _)
  | int i =>
    obtain ⟨t, rfl⟩ := ru
    exact PySem.P.repr_of_int (by simpa [PyData.showable] using h1) (fin0 _ _)
  | str x =>
    obtain ⟨t, rfl⟩ := ru
    exact PySem.P.repr_of_str (fin0 _ _) h4
  | lst _ _ =>
    cases ru
    exact repr_of_reads' rd h1 (fun z => by rw [h2] at z; cases z) hg (by omega) (fun _ _ e => e) (fun h' u tk k => fin h' u tk k) h4
  | tup _ _ =>
    cases ru
    exact repr_of_reads' rd h1 (fun z => by rw [h2] at z; cases z) hg (by omega) (fun _ _ e => e) (fun h' u tk k => fin h' u tk k) h4
theorem B_repr : bootBuiltins "repr" = some (.builtin "repr") := by decide +kernel
theorem B_str : bootBuiltins "str" = some (.type "str") := by decide +kernel
section
variable {K : PySem.W.Frag} {cl : Nat → Addr} {E : EX}
theorem s_repr : Ca1 K cl E bRepr (rRepr K) := by
  intro σ Q ρ H st v1 d1 A r1 h
  rcases dat_ok A r1 with qd | ⟨e, qd, hdp⟩
  · exact h.none (by simp only [bRepr, qd])
  · by_cases ho : reprOk e = true
    · have e1 : bRepr d1 st = some (.ok (.str (reprN e)), st) := by simp only [bRepr, qd, if_pos ho]
      unfold reprOk at ho
      simp only [Bool.and_eq_true, decide_eq_true_eq] at ho
      obtain ⟨⟨o1, o2⟩, o3⟩ := ho
      have hl := lay_of _ _ o1
      have hs := shw_ok _ o2
      have hc := cost_ok _ _ o1
      refine ⟨v1, toPy e, rfl, hdp o1, hs.1, hs.2, Nat.le_trans hl.2 (by decide), by rw [sizeLine_eq]; omega, ?_⟩
      have := h.ok (st' := st) (v := .str (sD (reprN e))) e1 .refl A (.str _)
      unfold reprN at this
      rw [toPyN_eq] at this
      rw [show sD ((toPy e).shown.cps.toList) = (toPy e).shown from sD_tl _] at this
      exact this
    · exact h.none (by simp only [bRepr, qd, if_neg ho])
end
end MS

set_option Elab.async false
set_option linter.all false
set_option maxRecDepth 100000
set_option maxHeartbeats 4000000
/-! MS17: C() without arguments. -/
namespace MS
open PySem PySem.Spec PyProof.Rows L2 MI

section
variable {X : Cx} {W : WX} {cl : Nat → Addr} {c : MI.Ctx} {lv : Nat} {x m : Str} {p pos apos : Pos} {e o : Expr} {es : List Expr} {gl : SL} {ga : SE}
theorem me_make0 {k f : Nat} (G : Good X W cl c lv) (F : ClG X cl c lv x k f) (hg : Gl X x) (hdb : (x == ("__debug__" : Str)) = false := by decide +kernel) :
    ME X cl (EXW X.K cl W) c (.Call (.Name x p) [] [] pos) (eMake k f lNil) := by
  obtain ⟨hm, hC, fA, M, fd, ps, F, hb, hk, ar⟩ := F
  refine ⟨fun pins s σ H Q I h => ?_⟩
  obtain ⟨ρ, env, st, A, e', h⟩ := h
  refine wpAny_Call_Name_kw (ld_glob I hg hm ?_ hdb)
  refine PySem.W.callWith_K0 I.kIn M.kp ?_
  have h1 : Rest X.K cl (EXW X.K cl W) (rV X.K) σ Q (bnd (new (.ins k [])) fun o => bnd (c.call f (o :: [])) (mkEnd o)) ρ H st := h.eq rfl
  have A1 := A
  have r : Vals ([] : List V) ([] : List Value) := .nil
  have r1 : RvL X.K H ρ [] [] := .nil
  refine run_makeS G.gd G.tk M F G.room hb I r fun x dx nx ndx nex => ?_
  obtain ⟨A2, g2⟩ := A1.side (o := .own x) ndx
  have nx2 : upd H dx (.own x) x = none := by rw [upd_ne (fun q => nex q.symm)]; exact nx
  obtain ⟨A3, g3⟩ := A2.push (o := .ins (cl k) dx []) (ob := .ins k []) nx2 (.ins upd_same .nil hC (fun p hp => by cases hp))
  have g23 := g2.trans g3
  have r3 : RvL X.K (upd (upd H dx (.own x)) x (.ins (cl k) dx [])) (ρ ++ [x]) (.ref x :: []) (.loc st.length :: []) := .cons (.loc (by rw [← A1.len]; simp)) (r1.grow A1 g23)
  have h2 : Rest X.K cl (EXW X.K cl W) (rV X.K) σ Q (bnd (c.call f (.loc st.length :: [])) (mkEnd (D.loc st.length))) (ρ ++ [x]) (upd (upd H dx (.own x)) x (.ins (cl k) dx [])) (st ++ [.ins k []]) := by
    rcases h1 with ⟨d, st', q, kk⟩ | ⟨kc, fs, st', q, kk⟩
    · exact .inl ⟨d, st', q, fun ρ' H' v g' A' r' => kk ρ' H' v (g23.trans g') A' r'⟩
    · exact .inr ⟨kc, fs, st', q, fun ρ' H' g' A' => kk ρ' H' (g23.trans g') A'⟩
  -- the def's own promise, and what is wanted behind it
  have hlen : (.ref x :: [] : List V).length = ps.length := by
    rw [r3.length]
    rcases h2 with ⟨d, st', q, _⟩ | ⟨kc, fs, st', q, _⟩
    all_goals
      unfold bnd at q
      cases qq : c.call f (.loc st.length :: []) (st ++ [.ins k []]) with
      | none => rw [qq] at q; cases q
      | some rr => exact ar _ _ _ qq
  refine ⟨hlen, ρ ++ [x], _, st ++ [.ins k []], A3, r3, ?_⟩
  have step : ∀ rr, bnd (c.call f (.loc st.length :: [])) (mkEnd (D.loc st.length)) (st ++ [.ins k []]) = some rr →
      (∃ s3, c.call f (.loc st.length :: []) (st ++ [.ins k []]) = some (.ok .non, s3) ∧ rr = (.ok (.loc st.length), s3)) ∨ (∃ kc fs s3, c.call f (.loc st.length :: []) (st ++ [.ins k []]) = some (.exc kc fs, s3) ∧ rr = (.exc kc fs, s3)) := fun rr q => by
    unfold bnd at q
    cases qq : c.call f (.loc st.length :: []) (st ++ [.ins k []]) with
    | none => rw [qq] at q; cases q
    | some pr =>
      obtain ⟨rs, s3⟩ := pr
      rw [qq] at q
      cases rs with
      | exc kc fs => exact .inr ⟨kc, fs, s3, rfl, (Option.some.inj q).symm⟩
      | ok z =>
        cases z with
        | non => exact .inl ⟨s3, rfl, (Option.some.inj q).symm⟩
        | _ => cases q
  rcases h2 with ⟨d, st', q, kk⟩ | ⟨kc, fs, st', q, kk⟩
  · rcases step _ q with ⟨s3, q1, q2⟩ | ⟨kc, fs, s3, q1, q2⟩
    · cases q2
      refine .inl ⟨.non, st', q1, fun ρ' H' v g' A' r' => ?_⟩
      cases r'
      refine ⟨rfl, kk ρ' H' _ g' A' ?_⟩
      obtain ⟨ee, rfl⟩ := g'.ext
      exact .loc (by rw [← A1.len]; simp)
    · cases q2
  · rcases step _ q with ⟨s3, q1, q2⟩ | ⟨kc', fs', s3, q1, q2⟩
    · cases q2
    · cases q2
      exact .inr ⟨_, _, _, q1, kk⟩
end
end MS

set_option Elab.async false
set_option linter.all false
set_option maxRecDepth 100000
set_option maxHeartbeats 0
namespace MI
abbrev F_ParseError____init__ : Nat := 0
abbrev F_is_integer : Nat := 1
abbrev F_blocks_of : Nat := 2
abbrev F_are_integers : Nat := 3
abbrev F_is_statement_form : Nat := 4
abbrev F_number_in : Nat := 5
abbrev F_lines_of_block : Nat := 6
abbrev F_format_program : Nat := 7
abbrev F_OpenBlock____init__ : Nat := 8
abbrev F_OpenBlock__finish : Nat := 9
abbrev F_ProgramReader____init__ : Nat := 10
abbrev F_ProgramReader__close_to : Nat := 11
abbrev F_ProgramReader__read : Nat := 12
abbrev F_ProgramReader__read_statement : Nat := 13
abbrev F_parse_program : Nat := 14
abbrev F__law_pen : Nat := 15
abbrev F__law_fresh : Nat := 16
abbrev F__law_draw : Nat := 17
abbrev F__law_blocks : Nat := 18
abbrev F__law_statement : Nat := 19
abbrev F__law_block : Nat := 20
abbrev F__law_program : Nat := 21
abbrev F__law_lines : Nat := 22
abbrev F_law : Nat := 23
abbrev C_ParseError : Nat := 0
abbrev C_OpenBlock : Nat := 1
abbrev C_ProgramReader : Nat := 2
abbrev w_ : List Nat := []
abbrev w_0123456789 : List Nat := [48, 49, 50, 51, 52, 53, 54, 55, 56, 57]
abbrev w__10_ : List Nat := [10]
abbrev w__32_ : List Nat := [32]
abbrev w__32__32_ : List Nat := [32, 32]
abbrev w_blocks : List Nat := [98, 108, 111, 99, 107, 115]
abbrev w_change : List Nat := [99, 104, 97, 110, 103, 101]
abbrev w_choose : List Nat := [99, 104, 111, 111, 115, 101]
abbrev w_close_95_to : List Nat := [99, 108, 111, 115, 101, 95, 116, 111]
abbrev w_done : List Nat := [100, 111, 110, 101]
abbrev w_finish : List Nat := [102, 105, 110, 105, 115, 104]
abbrev w_fresh : List Nat := [102, 114, 101, 115, 104]
abbrev w_give : List Nat := [103, 105, 118, 101]
abbrev w_inner : List Nat := [105, 110, 110, 101, 114]
abbrev w_line : List Nat := [108, 105, 110, 101]
abbrev w_look : List Nat := [108, 111, 111, 107]
abbrev w_loop : List Nat := [108, 111, 111, 112]
abbrev w_names : List Nat := [110, 97, 109, 101, 115]
abbrev w_names_32_ : List Nat := [110, 97, 109, 101, 115, 32]
abbrev w_names_32_1_10_ : List Nat := [110, 97, 109, 101, 115, 32, 49, 10]
abbrev w_names_32_3_10_ : List Nat := [110, 97, 109, 101, 115, 32, 51, 10]
abbrev w_names_32_4_10_ : List Nat := [110, 97, 109, 101, 115, 32, 52, 10]
abbrev w_read : List Nat := [114, 101, 97, 100]
abbrev w_read_95_statement : List Nat := [114, 101, 97, 100, 95, 115, 116, 97, 116, 101, 109, 101, 110, 116]
abbrev w_spots : List Nat := [115, 112, 111, 116, 115]
abbrev w_statements : List Nat := [115, 116, 97, 116, 101, 109, 101, 110, 116, 115]
abbrev w_way : List Nat := [119, 97, 121]
abbrev w_word : List Nat := [119, 111, 114, 100]
def b_ParseError____init___0 : SS :=
  sNone
def b_ParseError____init___1 : SS :=
  (sFld (eVar 0) w_line (eVar 1))
def b_ParseError____init__ : SS := (sSeq b_ParseError____init___0 b_ParseError____init___1)
def b_is_integer_0 : SS :=
  (sRet (eAnd (eUn (bIsI .int) (eVar 0)) (eAnd (eNot (eUn (bIsI .bool) (eVar 0))) (eChain opLe opLe (eVar 1) (eVar 0) (eVar 2)))))
def b_is_integer : SS := b_is_integer_0
def b_blocks_of_0 : SS :=
  (sIf (cB (eBin opEq (eBin opIx (eVar 0) (eC (.int 0))) (eC (.str w_choose))))
  (sRet (eBin opIx (eVar 0) (eC (.int 1))))
  sPass)
def b_blocks_of_1 : SS :=
  (sRet (eIf (cB (eBin opEq (eBin opIx (eVar 0) (eC (.int 0))) (eC (.str w_loop)))) (eTup (lCons (eBin opIx (eVar 0) (eC (.int 1))) lNil)) (eTup lNil)))
def b_blocks_of : SS := (sSeq b_blocks_of_0 b_blocks_of_1)
def b_are_integers_0 : SS :=
  (sIf (cB (eBin opNe (eUn bLen (eVar 0)) (eUn bLen (eVar 1))))
  (sRet (eC (.bl false)))
  sPass)
def b_are_integers_1 : SS :=
  (sRet (eUn bAll (eCompF [2, 3] (gTup 2 (gCons (gVar 2) (gCons (gVar 3) gNil))) (iZip (eVar 0) (eVar 1)) cYes (eCall F_is_integer (lCons (eVar 2) (lCons (eC (.int 0)) (lCons (eVar 3) lNil)))))))
def b_are_integers : SS := (sSeq b_are_integers_0 b_are_integers_1)
def b_is_statement_form_0 : SS :=
  (sIf (cOr (cNot (cB (eUn (bIsI .tup) (eVar 0)))) (cOr (cB (eBin opEq (eVar 0) (eTup lNil))) (cNot (cB (eUn (bIsI .str) (eBin opIx (eVar 0) (eC (.int 0))))))))
  (sRet (eC (.bl false)))
  sPass)
def b_is_statement_form_1 : SS :=
  (sAsg (gTup 3 (gCons (gVar 2) (gCons (gVar 3) (gCons (gVar 4) gNil)))) (eTup (lCons (eBin opIx (eVar 0) (eC (.int 0))) (lCons (eSlc (eVar 0) (oSome (eC (.int 1))) oNone) (lCons (eBin opSub (eVar 1) (eC (.int 1))) lNil)))))
def b_is_statement_form_2 : SS :=
  (sIf (cB (eBin opEq (eVar 2) (eC (.str w_choose))))
  (sRet (eAnd (eBin opEq (eUn bLen (eVar 3)) (eC (.int 1))) (eAnd (eUn (bIsI .tup) (eBin opIx (eVar 3) (eC (.int 0)))) (eBin opIn (eUn bLen (eBin opIx (eVar 3) (eC (.int 0)))) (eTup (lCons (eC (.int 2)) (lCons (eC (.int 3)) lNil)))))))
  sPass)
def b_is_statement_form_3 : SS :=
  (sIf (cB (eBin opEq (eVar 2) (eC (.str w_loop))))
  (sRet (eBin opEq (eUn bLen (eVar 3)) (eC (.int 1))))
  sPass)
def b_is_statement_form_4 : SS :=
  (sIf (cB (eBin opEq (eVar 2) (eC (.str w_give))))
  (sRet (eAnd (eCall F_are_integers (lCons (eVar 3) (lCons (eTup (lCons (eC (.int 7)) (lCons (eVar 4) (lCons (eVar 4) lNil)))) lNil))) (eBin opNe (eBin opIx (eVar 3) (eC (.int 1))) (eBin opIx (eVar 3) (eC (.int 2))))))
  sPass)
def b_is_statement_form_5 : SS :=
  (sIf (cB (eBin opEq (eVar 2) (eC (.str w_change))))
  (sRet (eCall F_are_integers (lCons (eVar 3) (lCons (eTup (lCons (eC (.int 7)) (lCons (eVar 4) (lCons (eC (.int 9)) lNil)))) lNil))))
  sPass)
def b_is_statement_form_6 : SS :=
  (sRet (eAnd (eBin opIn (eVar 2) (eTup (lCons (eC (.str w_fresh)) (lCons (eC (.str w_look)) lNil)))) (eCall F_are_integers (lCons (eVar 3) (lCons (eTup (lCons (eVar 4) lNil)) lNil)))))
def b_is_statement_form : SS := (sSeq b_is_statement_form_0 (sSeq b_is_statement_form_1 (sSeq b_is_statement_form_2 (sSeq b_is_statement_form_3 (sSeq b_is_statement_form_4 (sSeq b_is_statement_form_5 b_is_statement_form_6))))))
def b_number_in_0 : SS :=
  (sRet (eIf (cAnd (cB (eBin opEq (eUn bLen (eVar 0)) (eC (.int 1)))) (cB (eBin opIn (eVar 0) (eC (.str w_0123456789))))) (eMt1 isStr mIndexS (eC (.str w_0123456789)) (eVar 0)) (eC .non)))
def b_number_in : SS := b_number_in_0
def b_lines_of_block_0 : SS :=
  (sSet 2 (eLst lNil))
def b_lines_of_block_1 : SS :=
  (sFor (gVar 3) (iSeq (eVar 0))
  (sSeq (sSet 4 (eCall F_blocks_of (lCons (eVar 3) lNil)))
  (sSeq (sSet 5 (eIf (cB (eBin opEq (eVar 4) (eTup lNil))) (eVar 3) (eTup (lCons (eBin opIx (eVar 3) (eC (.int 0))) lNil))))
  (sSeq (sExpr (eMt1 isLst mAppend (eVar 2) (eBin opAdd (eVar 1) (eMt1 isStr mJoin (eC (.str w__32_)) (eCompF [7] (gVar 7) (iSeq (eVar 5)) cYes (eUn bStr (eVar 7)))))))
  (sFor (gVar 6) (iSeq (eVar 4))
  (sSeq (sIf (cB (eBin opEq (eBin opIx (eVar 3) (eC (.int 0))) (eC (.str w_choose))))
  (sExpr (eMt1 isLst mAppend (eVar 2) (eBin opAdd (eVar 1) (eC (.str w_way)))))
  sPass)
  (sExpr (eMt1 isLst mExtend (eVar 2) (eCall F_lines_of_block (lCons (eVar 6) (lCons (eBin opAdd (eVar 1) (eC (.str w__32__32_))) lNil)))))))))))
def b_lines_of_block_2 : SS :=
  (sRet (eVar 2))
def b_lines_of_block : SS := (sSeq b_lines_of_block_0 (sSeq b_lines_of_block_1 b_lines_of_block_2))
def b_format_program_0 : SS :=
  (sSet 1 (eBin opAdd (eLst (lCons (eFs [(eC (.str w_names_32_)), (eUn opFmt (eBin opIx (eVar 0) (eC (.int 0))))]) lNil)) (eCall F_lines_of_block (lCons (eBin opIx (eVar 0) (eC (.int 1))) (lCons (eC (.str w_)) lNil)))))
def b_format_program_1 : SS :=
  (sRet (eMt1 isStr mJoin (eC (.str w_)) (eCompF [2] (gVar 2) (iSeq (eVar 1)) cYes (eBin opAdd (eVar 2) (eC (.str w__10_))))))
def b_format_program : SS := (sSeq b_format_program_0 b_format_program_1)
def b_OpenBlock____init___0 : SS :=
  (sFld (eVar 0) w_done (eLst lNil))
def b_OpenBlock____init___1 : SS :=
  (sFld (eVar 0) w_word (eC .non))
def b_OpenBlock____init___2 : SS :=
  (sFld (eVar 0) w_inner (eLst lNil))
def b_OpenBlock____init__ : SS := (sSeq b_OpenBlock____init___0 (sSeq b_OpenBlock____init___1 b_OpenBlock____init___2))
def b_OpenBlock__finish_0 : SS :=
  (sIf (cB (eBin opEq (eFld (eVar 0) w_word) (eC (.str w_loop))))
  (sExpr (eMt1 isLst mAppend (eFld (eVar 0) w_done) (eTup (lCons (eC (.str w_loop)) (lCons (eBin opIx (eFld (eVar 0) w_inner) (eC (.int 0))) lNil)))))
  (sIf (cB (eBin opEq (eFld (eVar 0) w_word) (eC (.str w_choose))))
  (sSeq (sIf (cB (eBin opLt (eUn bLen (eFld (eVar 0) w_inner)) (eC (.int 2))))
  (sRet (eC (.bl false)))
  sPass)
  (sExpr (eMt1 isLst mAppend (eFld (eVar 0) w_done) (eTup (lCons (eC (.str w_choose)) (lCons (eUn bTuple (eFld (eVar 0) w_inner)) lNil))))))
  sPass))
def b_OpenBlock__finish_1 : SS :=
  (sAsg (gTup 2 (gCons (gFld (eVar 0) w_word) (gCons (gFld (eVar 0) w_inner) gNil))) (eTup (lCons (eC .non) (lCons (eLst lNil) lNil))))
def b_OpenBlock__finish_2 : SS :=
  (sRet (eC (.bl true)))
def b_OpenBlock__finish : SS := (sSeq b_OpenBlock__finish_0 (sSeq b_OpenBlock__finish_1 b_OpenBlock__finish_2))
def b_ProgramReader____init___0 : SS :=
  (sFld (eVar 0) w_names (eVar 1))
def b_ProgramReader____init___1 : SS :=
  (sFld (eVar 0) w_blocks (eLst (lCons (eMake C_OpenBlock F_OpenBlock____init__ lNil) lNil)))
def b_ProgramReader____init___2 : SS :=
  (sFld (eVar 0) w_statements (eC (.int 0)))
def b_ProgramReader____init___3 : SS :=
  (sFld (eVar 0) w_spots (eC (.int 0)))
def b_ProgramReader____init__ : SS := (sSeq b_ProgramReader____init___0 (sSeq b_ProgramReader____init___1 (sSeq b_ProgramReader____init___2 b_ProgramReader____init___3)))
def b_ProgramReader__close_to_0 : SS :=
  (sWhile (cB (eBin opGt (eUn bLen (eFld (eVar 0) w_blocks)) (eBin opAdd (eVar 1) (eC (.int 1)))))
  (sSeq (sSet 2 (eMt0 isLst mPop (eFld (eVar 0) w_blocks)))
  (sSeq (sIf (cNot (cB (eMeth (eVar 2) w_finish lNil)))
  (sRet (eC (.bl false)))
  sPass)
  (sExpr (eMt1 isLst mAppend (eFld (eBin opIx (eFld (eVar 0) w_blocks) (eUn opNeg (eC (.int 1)))) w_inner) (eUn bTuple (eFld (eVar 2) w_done)))))))
def b_ProgramReader__close_to_1 : SS :=
  (sRet (eC (.bl true)))
def b_ProgramReader__close_to : SS := (sSeq b_ProgramReader__close_to_0 b_ProgramReader__close_to_1)
def b_ProgramReader__read_0 : SS :=
  (sSet 2 (eMt1 isStr mLstrip (eVar 1) (eC (.str w__32_))))
def b_ProgramReader__read_1 : SS :=
  (sSet 3 (eBin opSub (eUn bLen (eVar 1)) (eUn bLen (eVar 2))))
def b_ProgramReader__read_2 : SS :=
  (sIf (cOr (cB (eBin opNe (eBin opMod (eVar 3) (eC (.int 2))) (eC (.int 0)))) (cOr (cB (eBin opGe (eBin opDiv (eVar 3) (eC (.int 2))) (eUn bLen (eFld (eVar 0) w_blocks)))) (cNot (cB (eMeth (eVar 0) w_close_95_to (lCons (eBin opDiv (eVar 3) (eC (.int 2))) lNil))))))
  (sRet (eC (.bl false)))
  sPass)
def b_ProgramReader__read_3 : SS :=
  (sSet 4 (eBin opIx (eFld (eVar 0) w_blocks) (eUn opNeg (eC (.int 1)))))
def b_ProgramReader__read_4 : SS :=
  (sIf (cB (eBin opEq (eVar 2) (eC (.str w_way))))
  (sSeq (sIf (cOr (cB (eBin opNe (eFld (eVar 4) w_word) (eC (.str w_choose)))) (cB (eBin opEq (eUn bLen (eFld (eVar 4) w_inner)) (eC (.int 3)))))
  (sRet (eC (.bl false)))
  sPass)
  (sSeq (sExpr (eMt1 isLst mAppend (eFld (eVar 0) w_blocks) (eMake C_OpenBlock F_OpenBlock____init__ lNil)))
  (sRet (eC (.bl true)))))
  sPass)
def b_ProgramReader__read_5 : SS :=
  (sRet (eAnd (eMeth (eVar 4) w_finish lNil) (eMeth (eVar 0) w_read_95_statement (lCons (eMt1 isStr mSplit (eVar 2) (eC (.str w__32_))) lNil))))
def b_ProgramReader__read : SS := (sSeq b_ProgramReader__read_0 (sSeq b_ProgramReader__read_1 (sSeq b_ProgramReader__read_2 (sSeq b_ProgramReader__read_3 (sSeq b_ProgramReader__read_4 b_ProgramReader__read_5)))))
def b_ProgramReader__read_statement_0 : SS :=
  (sSet 2 (eBin opIx (eFld (eVar 0) w_blocks) (eUn opNeg (eC (.int 1)))))
def b_ProgramReader__read_statement_1 : SS :=
  (sFldAug (eVar 0) w_statements opIAdd (eC (.int 1)))
def b_ProgramReader__read_statement_2 : SS :=
  (sFldAug (eVar 0) w_spots opIAdd (eUn bInt (eBin opIn (eBin opIx (eVar 1) (eC (.int 0))) (eC (.tup [(.str w_look), (.str w_choose), (.str w_loop)])))))
def b_ProgramReader__read_statement_3 : SS :=
  (sIf (cOr (cB (eBin opEq (eUn bLen (eFld (eVar 2) w_done)) (eC (.int 8)))) (cOr (cB (eBin opGt (eFld (eVar 0) w_statements) (eC (.int 40)))) (cB (eBin opGt (eFld (eVar 0) w_spots) (eC (.int 12))))))
  (sRet (eC (.bl false)))
  sPass)
def b_ProgramReader__read_statement_4 : SS :=
  (sIf (cB (eBin opIn (eVar 1) (eTup (lCons (eLstF (lCons (eC (.str w_choose)) lNil)) (lCons (eLstF (lCons (eC (.str w_loop)) lNil)) lNil)))))
  (sSeq (sIf (cB (eBin opEq (eUn bLen (eFld (eVar 0) w_blocks)) (eC (.int 5))))
  (sRet (eC (.bl false)))
  sPass)
  (sSeq (sFld (eVar 2) w_word (eBin opIx (eVar 1) (eC (.int 0))))
  (sSeq (sIf (cB (eBin opEq (eVar 1) (eLstF (lCons (eC (.str w_loop)) lNil))))
  (sExpr (eMt1 isLst mAppend (eFld (eVar 0) w_blocks) (eMake C_OpenBlock F_OpenBlock____init__ lNil)))
  sPass)
  (sRet (eC (.bl true))))))
  sPass)
def b_ProgramReader__read_statement_5 : SS :=
  (sSet 3 (eBin opAdd (eTup (lCons (eBin opIx (eVar 1) (eC (.int 0))) lNil)) (eUn bTuple (eCompF [4] (gVar 4) (iSeq (eSlc (eVar 1) (oSome (eC (.int 1))) oNone)) cYes (eCall F_number_in (lCons (eVar 4) lNil))))))
def b_ProgramReader__read_statement_6 : SS :=
  (sIf (cOr (cB (eBin opNotIn (eBin opIx (eVar 1) (eC (.int 0))) (eC (.tup [(.str w_fresh), (.str w_give), (.str w_change), (.str w_look)])))) (cNot (cB (eCall F_is_statement_form (lCons (eVar 3) (lCons (eFld (eVar 0) w_names) lNil))))))
  (sRet (eC (.bl false)))
  sPass)
def b_ProgramReader__read_statement_7 : SS :=
  (sExpr (eMt1 isLst mAppend (eFld (eVar 2) w_done) (eVar 3)))
def b_ProgramReader__read_statement_8 : SS :=
  (sRet (eC (.bl true)))
def b_ProgramReader__read_statement : SS := (sSeq b_ProgramReader__read_statement_0 (sSeq b_ProgramReader__read_statement_1 (sSeq b_ProgramReader__read_statement_2 (sSeq b_ProgramReader__read_statement_3 (sSeq b_ProgramReader__read_statement_4 (sSeq b_ProgramReader__read_statement_5 (sSeq b_ProgramReader__read_statement_6 (sSeq b_ProgramReader__read_statement_7 b_ProgramReader__read_statement_8))))))))
def b_parse_program_0 : SS :=
  (sSet 1 (eMt1 isStr mSplit (eVar 0) (eC (.str w__10_))))
def b_parse_program_1 : SS :=
  (sSet 2 (eSlc (eVar 1) oNone (oSome (eUn opNeg (eC (.int 1))))))
def b_parse_program_2 : SS :=
  (sSet 3 (eIf (cB (eBin opNe (eVar 2) (eLstF lNil))) (eMt1 isStr mSplit (eBin opIx (eVar 2) (eC (.int 0))) (eC (.str w__32_))) (eLstF lNil)))
def b_parse_program_3 : SS :=
  (sSet 4 (eIf (cAnd (cB (eBin opEq (eUn bLen (eVar 3)) (eC (.int 2)))) (cB (eBin opEq (eBin opIx (eVar 3) (eC (.int 0))) (eC (.str w_names))))) (eCall F_number_in (lCons (eBin opIx (eVar 3) (eC (.int 1))) lNil)) (eC .non)))
def b_parse_program_4 : SS :=
  (sIf (cOr (cB (eUn opIsN (eVar 4))) (cNot (cB (eChain opLe opLe (eC (.int 1)) (eVar 4) (eC (.int 4))))))
  sNone
  sPass)
def b_parse_program_5 : SS :=
  (sSet 5 (eMake C_ProgramReader F_ProgramReader____init__ (lCons (eVar 4) lNil)))
def b_parse_program_6 : SS :=
  (sFor (gVar 6) (iRange2 (eC (.int 1)) (eUn bLen (eVar 2)))
  (sIf (cNot (cB (eMeth (eVar 5) w_read (lCons (eBin opIx (eVar 2) (eVar 6)) lNil))))
  sNone
  sPass))
def b_parse_program_7 : SS :=
  (sIf (cOr (cNot (cB (eMeth (eVar 5) w_close_95_to (lCons (eC (.int 0)) lNil)))) (cOr (cNot (cB (eMeth (eBin opIx (eFld (eVar 5) w_blocks) (eC (.int 0))) w_finish lNil))) (cB (eBin opNe (eBin opIx (eVar 1) (eUn opNeg (eC (.int 1)))) (eC (.str w_))))))
  sNone
  sPass)
def b_parse_program_8 : SS :=
  (sRet (eTup (lCons (eVar 4) (lCons (eUn bTuple (eFld (eBin opIx (eFld (eVar 5) w_blocks) (eC (.int 0))) w_done)) lNil))))
def b_parse_program : SS := (sSeq b_parse_program_0 (sSeq b_parse_program_1 (sSeq b_parse_program_2 (sSeq b_parse_program_3 (sSeq b_parse_program_4 (sSeq b_parse_program_5 (sSeq b_parse_program_6 (sSeq b_parse_program_7 b_parse_program_8))))))))
def b__law_pen_0 : SS :=
  (sRet (eLst (lCons (eUn bListF (eSlc (eVar 0) oNone (oSome (eC (.int 63))))) (lCons (eC (.int 0)) (lCons (eC (.int 0)) lNil)))))
def b__law_pen : SS := b__law_pen_0
def b__law_fresh_0 : SS :=
  (sSet 1 (eBin opIx (eVar 0) (eC (.int 1))))
def b__law_fresh_1 : SS :=
  (sAsg (gSub (eVar 0) (eC (.int 1))) (eBin opAdd (eVar 1) (eC (.int 1))))
def b__law_fresh_2 : SS :=
  (sSet 2 (eC (.int 0)))
def b__law_fresh_3 : SS :=
  (sIf (cB (eBin opNe (eBin opIx (eVar 0) (eC (.int 0))) (eLstF lNil)))
  (sSet 2 (eBin opIx (eBin opIx (eVar 0) (eC (.int 0))) (eBin opMod (eUn bInt (eVar 1)) (eUn bLen (eBin opIx (eVar 0) (eC (.int 0)))))))
  sPass)
def b__law_fresh_4 : SS :=
  (sIf (cAnd (cB (eBin opLt (eVar 1) (eUn bLen (eBin opIx (eVar 0) (eC (.int 0)))))) (cB (eBin opGe (eVar 2) (eBin opPow (eC (.int 10)) (eC (.int 18))))))
  (sRet (eBin opSub (eVar 2) (eBin opPow (eC (.int 10)) (eC (.int 18)))))
  sPass)
def b__law_fresh_5 : SS :=
  (sSet 3 (eC (.int 2305843009213693951)))
def b__law_fresh_6 : SS :=
  (sSet 4 (eBin opMod (eUn bInt (eBin opAdd (eBin opAdd (eBin opMul (eVar 2) (eC (.int 48271))) (eBin opMul (eC (.int 40692)) (eVar 1))) (eC (.int 31)))) (eVar 3)))
def b__law_fresh_7 : SS :=
  (sSet 5 (eVar 4))
def b__law_fresh_8 : SS :=
  (sFor (gVar 6) (iRange1 (eC (.int 6)))
  (sSeq (sSet 4 (eBin opMod (eUn bInt (eBin opAdd (eBin opAdd (eBin opMul (eVar 4) (eVar 4)) (eBin opMul (eBin opMul (eC (.int 69621)) (eBin opAdd (eVar 6) (eC (.int 1)))) (eBin opAdd (eVar 1) (eC (.int 1))))) (eVar 2))) (eVar 3)))
  (sSet 5 (eBin opAdd (eBin opMul (eVar 5) (eVar 3)) (eVar 4)))))
def b__law_fresh_9 : SS :=
  (sRet (eVar 5))
def b__law_fresh : SS := (sSeq b__law_fresh_0 (sSeq b__law_fresh_1 (sSeq b__law_fresh_2 (sSeq b__law_fresh_3 (sSeq b__law_fresh_4 (sSeq b__law_fresh_5 (sSeq b__law_fresh_6 (sSeq b__law_fresh_7 (sSeq b__law_fresh_8 b__law_fresh_9)))))))))
def b__law_draw_0 : SS :=
  (sIf (cB (eBin opLt (eBin opIx (eVar 0) (eC (.int 2))) (eVar 1)))
  (sAsg (gSub (eVar 0) (eC (.int 2))) (eCall F__law_fresh (lCons (eVar 0) lNil)))
  sPass)
def b__law_draw_1 : SS :=
  (sSet 2 (eBin opMod (eUn bInt (eBin opIx (eVar 0) (eC (.int 2)))) (eVar 1)))
def b__law_draw_2 : SS :=
  (sAsg (gSub (eVar 0) (eC (.int 2))) (eBin opDiv (eUn bInt (eBin opIx (eVar 0) (eC (.int 2)))) (eVar 1)))
def b__law_draw_3 : SS :=
  (sRet (eVar 2))
def b__law_draw : SS := (sSeq b__law_draw_0 (sSeq b__law_draw_1 (sSeq b__law_draw_2 b__law_draw_3)))
def b__law_blocks_0 : SS :=
  (sIf (cB (eBin opEq (eBin opIx (eVar 0) (eC (.int 0))) (eC (.str w_choose))))
  (sRet (eUn bListF (eBin opIx (eVar 0) (eC (.int 1)))))
  sPass)
def b__law_blocks_1 : SS :=
  (sRet (eIf (cB (eBin opEq (eBin opIx (eVar 0) (eC (.int 0))) (eC (.str w_loop)))) (eLstF (lCons (eBin opIx (eVar 0) (eC (.int 1))) lNil)) (eLstF lNil)))
def b__law_blocks : SS := (sSeq b__law_blocks_0 b__law_blocks_1)
def b__law_statement_0 : SS :=
  (sAsg (gSub (eVar 3) (eC (.int 1))) (eBin opSub (eBin opIx (eVar 3) (eC (.int 1))) (eC (.int 1))))
def b__law_statement_1 : SS :=
  (sPar 4 5 (lCons (eCall F__law_draw (lCons (eVar 0) (lCons (eC (.int 10)) lNil))) (lCons (eCall F__law_draw (lCons (eVar 0) (lCons (eVar 1) lNil))) lNil)))
def b__law_statement_2 : SS :=
  (sIf (cAnd (cB (eBin opLt (eVar 4) (eC (.int 2)))) (cB (eBin opGt (eBin opIx (eVar 3) (eC (.int 2))) (eC (.int 0)))))
  (sSeq (sAsg (gSub (eVar 3) (eC (.int 2))) (eBin opSub (eBin opIx (eVar 3) (eC (.int 2))) (eC (.int 1))))
  (sRet (eTup (lCons (eC (.str w_look)) (lCons (eVar 5) lNil)))))
  sPass)
def b__law_statement_3 : SS :=
  (sIf (cAnd (cB (eBin opLt (eVar 4) (eC (.int 4)))) (cAnd (cB (eBin opGt (eBin opIx (eVar 3) (eC (.int 2))) (eC (.int 0)))) (cB (eBin opGt (eBin opIx (eVar 3) (eC (.int 0))) (eC (.int 0))))))
  (sSeq (sAsg (gTup 2 (gCons (gSub (eVar 3) (eC (.int 0))) (gCons (gSub (eVar 3) (eC (.int 2))) gNil))) (eTup (lCons (eBin opSub (eBin opIx (eVar 3) (eC (.int 0))) (eC (.int 1))) (lCons (eBin opSub (eBin opIx (eVar 3) (eC (.int 2))) (eC (.int 1))) lNil))))
  (sSeq (sSet 6 (eBin opIx (eLstF (lCons (eC (.int 1)) (lCons (eC (.int 2)) (lCons (eC (.int 2)) (lCons (eC (.int 3)) lNil))))) (eCall F__law_draw (lCons (eVar 0) (lCons (eC (.int 4)) lNil)))))
  (sSeq (sSet 7 (eUn bTuple (eCompF [8] (gVar 8) (iRange1 (eVar 6)) cYes (eCall F__law_block (lCons (eVar 0) (lCons (eVar 1) (lCons (eVar 2) (lCons (eVar 3) lNil))))))))
  (sSeq (sAsg (gSub (eVar 3) (eC (.int 0))) (eBin opAdd (eBin opIx (eVar 3) (eC (.int 0))) (eC (.int 1))))
  (sRet (eIf (cB (eBin opEq (eUn bLen (eVar 7)) (eC (.int 1)))) (eTup (lCons (eC (.str w_loop)) (lCons (eBin opIx (eVar 7) (eC (.int 0))) lNil))) (eTup (lCons (eC (.str w_choose)) (lCons (eVar 7) lNil)))))))))
  sPass)
def b__law_statement_4 : SS :=
  (sIf (cAnd (cB (eBin opLt (eVar 4) (eC (.int 7)))) (cB (eBin opGt (eVar 1) (eC (.int 1)))))
  (sRet (eTup (lCons (eC (.str w_give)) (lCons (eCall F__law_draw (lCons (eVar 0) (lCons (eVar 2) lNil))) (lCons (eVar 5) (lCons (eBin opMod (eUn bInt (eBin opAdd (eBin opAdd (eVar 5) (eC (.int 1))) (eCall F__law_draw (lCons (eVar 0) (lCons (eBin opSub (eVar 1) (eC (.int 1))) lNil))))) (eVar 1)) lNil))))))
  sPass)
def b__law_statement_5 : SS :=
  (sRet (eIf (cB (eBin opLt (eVar 4) (eC (.int 9)))) (eTup (lCons (eC (.str w_change)) (lCons (eCall F__law_draw (lCons (eVar 0) (lCons (eVar 2) lNil))) (lCons (eVar 5) (lCons (eCall F__law_draw (lCons (eVar 0) (lCons (eC (.int 10)) lNil))) lNil))))) (eTup (lCons (eC (.str w_fresh)) (lCons (eVar 5) lNil)))))
def b__law_statement : SS := (sSeq b__law_statement_0 (sSeq b__law_statement_1 (sSeq b__law_statement_2 (sSeq b__law_statement_3 (sSeq b__law_statement_4 b__law_statement_5)))))
def b__law_block_0 : SS :=
  (sSet 4 (eLst lNil))
def b__law_block_1 : SS :=
  (sFor (gVar 5) (iRange1 (eCall F__law_draw (lCons (eVar 0) (lCons (eC (.int 4)) lNil))))
  (sIf (cB (eBin opGt (eBin opIx (eVar 3) (eC (.int 1))) (eC (.int 0))))
  (sExpr (eMt1 isLst mAppend (eVar 4) (eCall F__law_statement (lCons (eVar 0) (lCons (eVar 1) (lCons (eVar 2) (lCons (eVar 3) lNil)))))))
  sPass))
def b__law_block_2 : SS :=
  (sRet (eUn bTuple (eVar 4)))
def b__law_block : SS := (sSeq b__law_block_0 (sSeq b__law_block_1 b__law_block_2))
def b__law_program_0 : SS :=
  (sPar 5 6 (lCons (eLst (lCons (eC (.int 4)) (lCons (eVar 3) (lCons (eVar 4) lNil)))) (lCons (eLst lNil) lNil)))
def b__law_program_1 : SS :=
  (sFor (gVar 7) (iRange1 (eBin opAdd (eC (.int 2)) (eCall F__law_draw (lCons (eVar 0) (lCons (eC (.int 5)) lNil)))))
  (sIf (cB (eBin opGt (eBin opIx (eVar 5) (eC (.int 1))) (eC (.int 0))))
  (sExpr (eMt1 isLst mAppend (eVar 6) (eCall F__law_statement (lCons (eVar 0) (lCons (eVar 1) (lCons (eVar 2) (lCons (eVar 5) lNil)))))))
  sPass))
def b__law_program_2 : SS :=
  (sIf (cAnd (cB (eBin opGt (eBin opIx (eVar 5) (eC (.int 1))) (eC (.int 0)))) (cAnd (cB (eBin opGt (eBin opIx (eVar 5) (eC (.int 2))) (eC (.int 0)))) (cB (eBin opEq (eCall F__law_draw (lCons (eVar 0) (lCons (eC (.int 2)) lNil))) (eC (.int 0))))))
  (sExpr (eMt1 isLst mAppend (eVar 6) (eTup (lCons (eC (.str w_look)) (lCons (eCall F__law_draw (lCons (eVar 0) (lCons (eVar 1) lNil))) lNil)))))
  sPass)
def b__law_program_3 : SS :=
  (sRet (eTup (lCons (eVar 1) (lCons (eUn bTuple (eVar 6)) lNil))))
def b__law_program : SS := (sSeq b__law_program_0 (sSeq b__law_program_1 (sSeq b__law_program_2 b__law_program_3)))
def b__law_lines_0 : SS :=
  (sSet 2 (eLst lNil))
def b__law_lines_1 : SS :=
  (sFor (gVar 3) (iSeq (eVar 0))
  (sSeq (sSet 4 (eCall F__law_blocks (lCons (eVar 3) lNil)))
  (sSeq (sSet 5 (eIf (cB (eBin opNe (eVar 4) (eLstF lNil))) (eLstF (lCons (eBin opIx (eVar 3) (eC (.int 0))) lNil)) (eCompF [7] (gVar 7) (iSeq (eVar 3)) cYes (eUn bStr (eVar 7)))))
  (sSeq (sExpr (eMt1 isLst mAppend (eVar 2) (eBin opAdd (eVar 1) (eMt1 isStr mJoin (eC (.str w__32_)) (eVar 5)))))
  (sFor (gVar 6) (iSeq (eVar 4))
  (sSeq (sIf (cB (eBin opEq (eBin opIx (eVar 3) (eC (.int 0))) (eC (.str w_choose))))
  (sExpr (eMt1 isLst mAppend (eVar 2) (eBin opAdd (eVar 1) (eC (.str w_way)))))
  sPass)
  (sExpr (eMt1 isLst mExtend (eVar 2) (eCall F__law_lines (lCons (eVar 6) (lCons (eBin opAdd (eVar 1) (eC (.str w__32__32_))) lNil)))))))))))
def b__law_lines_2 : SS :=
  (sRet (eVar 2))
def b__law_lines : SS := (sSeq b__law_lines_0 (sSeq b__law_lines_1 b__law_lines_2))
def b_law_0 : SS :=
  (sSet 1 (eCall F__law_pen (lCons (eVar 0) lNil)))
def b_law_1 : SS :=
  (sFor (gVar 2) (iRange1 (eC (.int 5)))
  (sSeq (sSet 3 (eCall F__law_program (lCons (eVar 1) (lCons (eBin opAdd (eC (.int 1)) (eCall F__law_draw (lCons (eVar 1) (lCons (eC (.int 4)) lNil)))) (lCons (eC (.int 8)) (lCons (eBin opIx (eLstF (lCons (eC (.int 8)) (lCons (eC (.int 30)) lNil))) (eCall F__law_draw (lCons (eVar 1) (lCons (eC (.int 2)) lNil)))) (lCons (eC (.int 11)) lNil)))))))
  (sSeq (sSet 4 (eUn bRepr (eVar 3)))
  (sSeq (sSet 5 (eBin opAdd (eLst (lCons (eBin opAdd (eC (.str w_names_32_)) (eUn bStr (eBin opIx (eVar 3) (eC (.int 0))))) lNil)) (eCall F__law_lines (lCons (eBin opIx (eVar 3) (eC (.int 1))) (lCons (eC (.str w_)) lNil)))))
  (sSeq (sSet 6 (eMt1 isStr mJoin (eC (.str w_)) (eCompF [8] (gVar 8) (iSeq (eVar 5)) cYes (eBin opAdd (eVar 8) (eC (.str w__10_))))))
  (sIf (cOr (cB (eBin opNe (eCall F_format_program (lCons (eVar 3) lNil)) (eVar 6))) (cOr (cB (eBin opNe (eUn bRepr (eCall F_parse_program (lCons (eVar 6) lNil))) (eVar 4))) (cB (eBin opNe (eUn bRepr (eVar 3)) (eVar 4)))))
  (sRet (eC (.bl false)))
  sPass))))))
def b_law_2 : SS :=
  (sSet 7 (eTup (lCons (eC (.int 4)) (lCons (eTup (lCons (eTup (lCons (eC (.str w_choose)) (lCons (eTup (lCons (eTup lNil) (lCons (eTup (lCons (eTup (lCons (eC (.str w_loop)) (lCons (eTup lNil) lNil))) lNil)) (lCons (eTup (lCons (eTup (lCons (eC (.str w_choose)) (lCons (eTup (lCons (eTup lNil) (lCons (eTup (lCons (eTup (lCons (eC (.str w_give)) (lCons (eC (.int 7)) (lCons (eC (.int 3)) (lCons (eC (.int 0)) lNil))))) lNil)) lNil))) lNil))) lNil)) lNil)))) lNil))) (lCons (eTup (lCons (eC (.str w_change)) (lCons (eC (.int 6)) (lCons (eC (.int 2)) (lCons (eC (.int 8)) lNil))))) lNil))) lNil))))
def b_law_3 : SS :=
  (sSet 6 (eBin opAdd (eC (.str w_names_32_4_10_)) (eMt1 isStr mJoin (eC (.str w_)) (eCompF [8] (gVar 8) (iSeq (eCall F__law_lines (lCons (eBin opIx (eVar 7) (eC (.int 1))) (lCons (eC (.str w_)) lNil)))) cYes (eBin opAdd (eVar 8) (eC (.str w__10_)))))))
def b_law_4 : SS :=
  (sIf (cOr (cB (eBin opNe (eCall F_format_program (lCons (eVar 7) lNil)) (eVar 6))) (cB (eBin opNe (eCall F_parse_program (lCons (eVar 6) lNil)) (eVar 7))))
  (sRet (eC (.bl false)))
  sPass)
def b_law_5 : SS :=
  (sRet (eAnd (eBin opEq (eCall F_format_program (lCons (eTup (lCons (eC (.int 1)) (lCons (eTup lNil) lNil))) lNil)) (eC (.str w_names_32_1_10_))) (eBin opEq (eCall F_parse_program (lCons (eC (.str w_names_32_3_10_)) lNil)) (eTup (lCons (eC (.int 3)) (lCons (eTup lNil) lNil))))))
def b_law : SS := (sSeq b_law_0 (sSeq b_law_1 (sSeq b_law_2 (sSeq b_law_3 (sSeq b_law_4 b_law_5)))))
def prog : Prog := ⟨[⟨2, 2, b_ParseError____init__⟩,
  ⟨3, 3, b_is_integer⟩,
  ⟨1, 1, b_blocks_of⟩,
  ⟨2, 4, b_are_integers⟩,
  ⟨2, 5, b_is_statement_form⟩,
  ⟨1, 1, b_number_in⟩,
  ⟨2, 8, b_lines_of_block⟩,
  ⟨1, 3, b_format_program⟩,
  ⟨1, 1, b_OpenBlock____init__⟩,
  ⟨1, 1, b_OpenBlock__finish⟩,
  ⟨2, 2, b_ProgramReader____init__⟩,
  ⟨2, 3, b_ProgramReader__close_to⟩,
  ⟨2, 5, b_ProgramReader__read⟩,
  ⟨2, 5, b_ProgramReader__read_statement⟩,
  ⟨1, 7, b_parse_program⟩,
  ⟨1, 1, b__law_pen⟩,
  ⟨1, 7, b__law_fresh⟩,
  ⟨2, 3, b__law_draw⟩,
  ⟨1, 1, b__law_blocks⟩,
  ⟨4, 9, b__law_statement⟩,
  ⟨4, 6, b__law_block⟩,
  ⟨5, 8, b__law_program⟩,
  ⟨2, 8, b__law_lines⟩,
  ⟨1, 9, b_law⟩],
  [(C_OpenBlock, w_finish, F_OpenBlock__finish), (C_ProgramReader, w_close_95_to, F_ProgramReader__close_to), (C_ProgramReader, w_read, F_ProgramReader__read), (C_ProgramReader, w_read_95_statement, F_ProgramReader__read_statement)], [(C_OpenBlock, w_done), (C_OpenBlock, w_word), (C_OpenBlock, w_inner), (C_ProgramReader, w_names), (C_ProgramReader, w_blocks), (C_ProgramReader, w_statements), (C_ProgramReader, w_spots)], [F_blocks_of, F_is_integer, F_are_integers, F_is_statement_form, F_number_in, F_format_program, F_parse_program, F__law_blocks]⟩
end MI
namespace Dv
open PySem PySem.Spec PyProof.Rows L2 MI MS
def top (i : Nat) : Stmt := PySem.Challenge.pw_copyplaces_k77_programs_written_and_read.main.body.getD i (.Pass ⟨0, 0, 0, 0⟩)
abbrev s0 : Stmt := (inClass (top 1) 0)
def N0 : List Str := ["self", "line"]
def P0 : List Str := ["self", "line"]
abbrev s1 : Stmt := (top 11)
def N1 : List Str := ["value", "low", "high"]
def P1 : List Str := ["value", "low", "high"]
abbrev s2 : Stmt := (top 12)
def N2 : List Str := ["statement"]
def P2 : List Str := ["statement"]
abbrev s3 : Stmt := (top 13)
def N3 : List Str := ["values", "limits", "value", "high"]
def P3 : List Str := ["values", "limits"]
abbrev s4 : Stmt := (top 14)
def N4 : List Str := ["value", "names", "word", "rest", "last"]
def P4 : List Str := ["value", "names"]
abbrev s5 : Stmt := (top 18)
def N5 : List Str := ["word"]
def P5 : List Str := ["word"]
abbrev s6 : Stmt := (top 19)
def N6 : List Str := ["block", "space", "lines", "statement", "blocks", "parts", "inner", "part"]
def P6 : List Str := ["block", "space"]
abbrev s7 : Stmt := (top 20)
def N7 : List Str := ["program", "lines", "line"]
def P7 : List Str := ["program"]
abbrev s8 : Stmt := (inClass (top 21) 0)
def N8 : List Str := ["self"]
def P8 : List Str := ["self"]
abbrev s9 : Stmt := (inClass (top 21) 1)
def N9 : List Str := ["self"]
def P9 : List Str := ["self"]
abbrev s10 : Stmt := (inClass (top 22) 0)
def N10 : List Str := ["self", "names"]
def P10 : List Str := ["self", "names"]
abbrev s11 : Stmt := (inClass (top 22) 1)
def N11 : List Str := ["self", "level", "block"]
def P11 : List Str := ["self", "level"]
abbrev s12 : Stmt := (inClass (top 22) 2)
def N12 : List Str := ["self", "line", "text", "space", "block"]
def P12 : List Str := ["self", "line"]
abbrev s13 : Stmt := (inClass (top 22) 3)
def N13 : List Str := ["self", "words", "block", "statement", "word"]
def P13 : List Str := ["self", "words"]
abbrev s14 : Stmt := (top 23)
def N14 : List Str := ["text", "pieces", "lines", "head", "names", "reader", "place"]
def P14 : List Str := ["text"]
abbrev s15 : Stmt := (top 25)
def N15 : List Str := ["script"]
def P15 : List Str := ["script"]
abbrev s16 : Stmt := (top 26)
def N16 : List Str := ["pen", "at", "cell", "p", "state", "found", "turn"]
def P16 : List Str := ["pen"]
abbrev s17 : Stmt := (top 27)
def N17 : List Str := ["pen", "many", "digit"]
def P17 : List Str := ["pen", "many"]
abbrev s18 : Stmt := (top 28)
def N18 : List Str := ["statement"]
def P18 : List Str := ["statement"]
abbrev s19 : Stmt := (top 29)
def N19 : List Str := ["pen", "names", "many", "sizes", "option", "x", "often", "inner", "lap"]
def P19 : List Str := ["pen", "names", "many", "sizes"]
abbrev s20 : Stmt := (top 30)
def N20 : List Str := ["pen", "names", "many", "sizes", "found", "lap"]
def P20 : List Str := ["pen", "names", "many", "sizes"]
abbrev s21 : Stmt := (top 31)
def N21 : List Str := ["pen", "names", "many", "statements", "spots", "sizes", "found", "lap"]
def P21 : List Str := ["pen", "names", "many", "statements", "spots"]
abbrev s22 : Stmt := (top 32)
def N22 : List Str := ["block", "space", "found", "statement", "blocks", "parts", "inner", "part"]
def P22 : List Str := ["block", "space"]
abbrev s23 : Stmt := (top 33)
def N23 : List Str := ["script", "pen", "turn", "program", "before", "lines", "page", "deep", "line"]
def P23 : List Str := ["script"]
def fns : List (Str × Nat) := [(("is_integer" : Str), F_is_integer), (("are_integers" : Str), F_are_integers), (("blocks_of" : Str), F_blocks_of), (("lines_of_block" : Str), F_lines_of_block), (("number_in" : Str), F_number_in), (("is_statement_form" : Str), F_is_statement_form), (("_law_fresh" : Str), F__law_fresh), (("_law_draw" : Str), F__law_draw), (("_law_block" : Str), F__law_block), (("_law_statement" : Str), F__law_statement), (("_law_blocks" : Str), F__law_blocks), (("_law_lines" : Str), F__law_lines), (("_law_pen" : Str), F__law_pen), (("_law_program" : Str), F__law_program), (("parse_program" : Str), F_parse_program), (("format_program" : Str), F_format_program)]
def clss : List (Str × Nat × Nat) := [(("OpenBlock" : Str), C_OpenBlock, F_OpenBlock____init__), (("ProgramReader" : Str), C_ProgramReader, F_ProgramReader____init__)]
def frees : List Str := [("isinstance" : Str), ("bool" : Str), ("int" : Str), ("len" : Str), ("all" : Str), ("zip" : Str), ("str" : Str), ("tuple" : Str), ("range" : Str), ("list" : Str), ("repr" : Str)]
def cons : List (Str × D) := [(("MAX_LABEL" : Str), (.int 7)), (("MAX_MARK" : Str), (.int 9)), (("DIGITS" : Str), (.str w_0123456789)), (("SPOT_WORDS" : Str), (.tup [(.str w_look), (.str w_choose), (.str w_loop)])), (("MAX_SPOTS" : Str), (.int 12)), (("MAX_STATEMENTS" : Str), (.int 40)), (("MAX_IN_BLOCK" : Str), (.int 8)), (("MAX_DEPTH" : Str), (.int 5)), (("PLAIN_WORDS" : Str), (.tup [(.str w_fresh), (.str w_give), (.str w_change), (.str w_look)])), (("MAX_NAMES" : Str), (.int 4))]
abbrev MD (P : Program) (w : World) (K : PySem.W.Frag) (mg : Str → Option Value) (base : Heap) (cl : Nat → Addr) (c : MI.Ctx) (lv : Nat) : Prop := Mod P w K mg base cl c lv fns clss frees cons
abbrev XX (N : List Str) (q : Str) (st : Stmt) (P : Program) (w : World) (K : PySem.W.Frag) (mg : Str → Option Value) (base : Heap) (f : Addr) (cdv : Value) (A : Around) (outer : List PySem.Env) (s : Shared) (H : Hp) (E : XK) : Cx := cxOf (L2.CX P w) P w K mg base N q (defScope st) f cdv A outer s H E
section
variable {P : Program} {w : World} {K : PySem.W.Frag} {mg : Str → Option Value} {base : Heap} {cl : Nat → Addr} {c : MI.Ctx} {lv : Nat} (M : MD P w K mg base cl c lv) (f : Addr) (cdv : Value) (A : Around) (outer : List PySem.Env) (s : Shared) (H : Hp) (E : XK)
include M
theorem der0 (G : Good (XX N0 "ParseError.__init__" s0 P w K mg base f cdv A outer s H E) (fun cls d _ H => E cls d H) cl c lv) (po : PassesOwn (model P w) (XX N0 "ParseError.__init__" s0 P w K mg base f cdv A outer s H E).A (XX N0 "ParseError.__init__" s0 P w K mg base f cdv A outer s H E).env (XX N0 "ParseError.__init__" s0 P w K mg base f cdv A outer s H E).xe) :
    MSS (XX N0 "ParseError.__init__" s0 P w K mg base f cdv A outer s H E) cl (EXW K cl fun cls d _ H => E cls d H) c (defBody s0) b_ParseError____init__ :=
  (mss_cons ms_none
  (mss_one (ms_fld G w_line (by decide +kernel) (me_var 0) (me_var 1))))
theorem der1 (G : Good (XX N1 "is_integer" s1 P w K mg base f cdv A outer s H E) (fun cls d _ H => E cls d H) cl c lv) (po : PassesOwn (model P w) (XX N1 "is_integer" s1 P w K mg base f cdv A outer s H E).A (XX N1 "is_integer" s1 P w K mg base f cdv A outer s H E).env (XX N1 "is_integer" s1 P w K mg base f cdv A outer s H E).xe) :
    MSS (XX N1 "is_integer" s1 P w K mg base f cdv A outer s H E) cl (EXW K cl fun cls d _ H => E cls d H) c (defBody s1) b_is_integer :=
  (mss_one (ms_ret (me_and (me_isI .int (by decide +kernel) rfl (M.fr 0 _ rfl) rfl (M.fr 2 _ rfl) (me_var 0)) (me_and (me_not (me_isI .bool (by decide +kernel) rfl (M.fr 0 _ rfl) rfl (M.fr 1 _ rfl) (me_var 0))) (me_one (me_chain op_le op_le s_le s_le (me_var 1) (me_var 0) (me_var 2)))))))
theorem der2 (G : Good (XX N2 "blocks_of" s2 P w K mg base f cdv A outer s H E) (fun cls d _ H => E cls d H) cl c lv) (po : PassesOwn (model P w) (XX N2 "blocks_of" s2 P w K mg base f cdv A outer s H E).A (XX N2 "blocks_of" s2 P w K mg base f cdv A outer s H E).env (XX N2 "blocks_of" s2 P w K mg base f cdv A outer s H E).xe) :
    MSS (XX N2 "blocks_of" s2 P w K mg base f cdv A outer s H E) cl (EXW K cl fun cls d _ H => E cls d H) c (defBody s2) b_blocks_of :=
  (mss_cons (ms_if (mt_cmp (op_eqD (hu64 G)) s_eq (me_ix (me_var 0) me_int (fun _ _ => rfl)) (me_str w_choose) (nomark _))
  (mss_one (ms_ret (me_ix (me_var 0) me_int (fun _ _ => rfl))))
  mss_nil)
  (mss_one (ms_ret (me_if (mt_cmp (op_eqD (hu64 G)) s_eq (me_ix (me_var 0) me_int (fun _ _ => rfl)) (me_str w_loop) (nomark _)) (me_tup (ma_cons (me_ix (me_var 0) me_int (fun _ _ => rfl)) ma_nil)) (me_tup ma_nil)))))
theorem der3 (G : Good (XX N3 "are_integers" s3 P w K mg base f cdv A outer s H E) (fun cls d _ H => E cls d H) cl c lv) (po : PassesOwn (model P w) (XX N3 "are_integers" s3 P w K mg base f cdv A outer s H E).A (XX N3 "are_integers" s3 P w K mg base f cdv A outer s H E).env (XX N3 "are_integers" s3 P w K mg base f cdv A outer s H E).xe) :
    MSS (XX N3 "are_integers" s3 P w K mg base f cdv A outer s H E) cl (EXW K cl fun cls d _ H => E cls d H) c (defBody s3) b_are_integers :=
  (mss_cons (ms_if (mt_cmp (op_neD (hu64 G)) s_ne (me_b1 call_len s_len rfl (M.fr 3 _ rfl) B_len (me_var 0)) (me_b1 call_len s_len rfl (M.fr 3 _ rfl) B_len (me_var 1)) (nomark _))
  (mss_one (ms_ret me_bl))
  mss_nil)
  (mss_one (ms_ret (me_b1 (cr_all G.calm) s_all rfl (M.fr 4 _ rfl) B_all (me_compF (E' := EXW K cl fun _ _ _ _ => False) (own := [("value", 2), ("high", 3)]) [2, 3] rfl G.calm G.nd (blkOk_by (N := N3) (sc := defScope s3) (by first | decide +kernel | rfl))
    (mi_zip rfl (M.fr 5 _ rfl) (me_var 0) (me_var 1)) (fun s0 H0 C0 z0 f0 => (mw_tup (G.blk s0 H0 _ _ f0).calm (mws_cons (mw_name (i := 2) (G.blk s0 H0 _ _ f0).nd) (mws_cons (mw_name (i := 3) (G.blk s0 H0 _ _ f0).nd) mws_nil))))
    (fun s0 H0 C0 z0 f0 => mts_nil)
    (fun s0 H0 C0 z0 f0 => (me_call (G.blk s0 H0 _ _ f0) (M.fn 0 _ _ rfl) rfl (ma_cons (me_var 2) (ma_cons me_int (ma_cons (me_var 3) ma_nil))))))))))
theorem der4 (G : Good (XX N4 "is_statement_form" s4 P w K mg base f cdv A outer s H E) (fun cls d _ H => E cls d H) cl c lv) (po : PassesOwn (model P w) (XX N4 "is_statement_form" s4 P w K mg base f cdv A outer s H E).A (XX N4 "is_statement_form" s4 P w K mg base f cdv A outer s H E).env (XX N4 "is_statement_form" s4 P w K mg base f cdv A outer s H E).xe) :
    MSS (XX N4 "is_statement_form" s4 P w K mg base f cdv A outer s H E) cl (EXW K cl fun cls d _ H => E cls d H) c (defBody s4) b_is_statement_form :=
  (mss_cons (ms_if (mt_bool (mw_or (mt_not (mt_val (me_isI .tup (by decide +kernel) rfl (M.fr 0 _ rfl) rfl (M.fr 7 _ rfl) (me_var 0)))) (mw_or (mt_cmp (op_eqD (hu64 G)) s_eq (me_var 0) (me_tup ma_nil) (nomark _)) (mw_or1 (mt_not (mt_val (me_isI .str (by decide +kernel) rfl (M.fr 0 _ rfl) rfl (M.fr 6 _ rfl) (me_ix (me_var 0) me_int (fun _ _ => rfl)))))))))
  (mss_one (ms_ret me_bl))
  mss_nil)
  (mss_cons (ms_par3 (i := 2) (j := 3) (k := 4) G.calm G.nd (ma_cons (me_ix (me_var 0) me_int (fun _ _ => rfl)) (ma_cons (me_slc (me_var 0) (mo_some me_int) mo_none) (ma_cons (me_bin op_sub s_sub (me_var 1) me_int) ma_nil))) (by rfl))
  (mss_cons (ms_if (mt_cmp (op_eqD (hu64 G)) s_eq (me_var 2) (me_str w_choose) (nomark _))
  (mss_one (ms_ret (me_and (me_cmp (op_eqD (hu64 G)) s_eq (me_b1 call_len s_len rfl (M.fr 3 _ rfl) B_len (me_var 3)) me_int (nomark _)) (me_and (me_isI .tup (by decide +kernel) rfl (M.fr 0 _ rfl) rfl (M.fr 7 _ rfl) (me_ix (me_var 3) me_int (fun _ _ => rfl))) (me_one (me_cmp (op_inA G.hu) s_in (me_b1 call_len s_len rfl (M.fr 3 _ rfl) B_len (me_ix (me_var 3) me_int (fun _ _ => rfl))) (me_tup (ma_cons me_int (ma_cons me_int ma_nil))) rfl))))))
  mss_nil)
  (mss_cons (ms_if (mt_cmp (op_eqD (hu64 G)) s_eq (me_var 2) (me_str w_loop) (nomark _))
  (mss_one (ms_ret (me_cmp (op_eqD (hu64 G)) s_eq (me_b1 call_len s_len rfl (M.fr 3 _ rfl) B_len (me_var 3)) me_int (nomark _))))
  mss_nil)
  (mss_cons (ms_if (mt_cmp (op_eqD (hu64 G)) s_eq (me_var 2) (me_str w_give) (nomark _))
  (mss_one (ms_ret (me_and (me_call G (M.fn 1 _ _ rfl) rfl (ma_cons (me_var 3) (ma_cons (me_tup (ma_cons (me_con (M.con 0 _ _ rfl) rfl) (ma_cons (me_var 4) (ma_cons (me_var 4) ma_nil)))) ma_nil))) (me_one (me_cmp (op_neD (hu64 G)) s_ne (me_ix (me_var 3) me_int (fun _ _ => rfl)) (me_ix (me_var 3) me_int (fun _ _ => rfl)) (nomark _))))))
  mss_nil)
  (mss_cons (ms_if (mt_cmp (op_eqD (hu64 G)) s_eq (me_var 2) (me_str w_change) (nomark _))
  (mss_one (ms_ret (me_call G (M.fn 1 _ _ rfl) rfl (ma_cons (me_var 3) (ma_cons (me_tup (ma_cons (me_con (M.con 0 _ _ rfl) rfl) (ma_cons (me_var 4) (ma_cons (me_con (M.con 1 _ _ rfl) rfl) ma_nil)))) ma_nil)))))
  mss_nil)
  (mss_one (ms_ret (me_and (me_cmp (op_inA G.hu) s_in (me_var 2) (me_tup (ma_cons (me_str w_fresh) (ma_cons (me_str w_look) ma_nil))) rfl) (me_one (me_call G (M.fn 1 _ _ rfl) rfl (ma_cons (me_var 3) (ma_cons (me_tup (ma_cons (me_var 4) ma_nil)) ma_nil)))))))))))))
theorem der5 (G : Good (XX N5 "number_in" s5 P w K mg base f cdv A outer s H E) (fun cls d _ H => E cls d H) cl c lv) (po : PassesOwn (model P w) (XX N5 "number_in" s5 P w K mg base f cdv A outer s H E).A (XX N5 "number_in" s5 P w K mg base f cdv A outer s H E).env (XX N5 "number_in" s5 P w K mg base f cdv A outer s H E).xe) :
    MSS (XX N5 "number_in" s5 P w K mg base f cdv A outer s H E) cl (EXW K cl fun cls d _ H => E cls d H) c (defBody s5) b_number_in :=
  (mss_one (ms_ret (me_if (mt_bool (mw_and (mt_cmp (op_eqD (hu64 G)) s_eq (me_b1 call_len s_len rfl (M.fr 3 _ rfl) B_len (me_var 0)) me_int (nomark _)) (mw_and1 (mt_cmp (op_inA G.hu) s_in (me_var 0) (me_con (M.con 2 _ _ rfl) rfl) rfl)))) (me_mt1 m_indexS (me_con (M.con 2 _ _ rfl) rfl) (me_var 0)) me_non)))
theorem der6 (G : Good (XX N6 "lines_of_block" s6 P w K mg base f cdv A outer s H E) (fun cls d _ H => E cls d H) cl c lv) (po : PassesOwn (model P w) (XX N6 "lines_of_block" s6 P w K mg base f cdv A outer s H E).A (XX N6 "lines_of_block" s6 P w K mg base f cdv A outer s H E).env (XX N6 "lines_of_block" s6 P w K mg base f cdv A outer s H E).xe) :
    MSS (XX N6 "lines_of_block" s6 P w K mg base f cdv A outer s H E) cl (EXW K cl fun cls d _ H => E cls d H) c (defBody s6) b_lines_of_block :=
  (mss_cons (ms_set (i := 2) G.nd (me_lst ma_nil))
  (mss_cons (ms_for po G.calm (mi_seq (me_var 0)) (mg_name (i := 3) G.nd)
  (mss_cons (ms_set (i := 4) G.nd (me_call G (M.fn 2 _ _ rfl) rfl (ma_cons (me_var 3) ma_nil)))
  (mss_cons (ms_set (i := 5) G.nd (me_if (mt_cmp (op_eqD (hu64 G)) s_eq (me_var 4) (me_tup ma_nil) (nomark _)) (me_var 3) (me_tup (ma_cons (me_ix (me_var 3) me_int (fun _ _ => rfl)) ma_nil))))
  (mss_cons (ms_expr (me_mt1 m_append (me_var 2) (me_bin op_addA s_add (me_var 1) (me_mt1 m_join (me_str w__32_) (me_compF (E' := EXW K cl fun _ _ _ _ => False) (own := [("part", 7)]) [7] rfl G.calm G.nd (blkOk_by (N := N6) (sc := defScope s6) (by first | decide +kernel | rfl))
    (mi_seq (me_var 5)) (fun s0 H0 C0 z0 f0 => (mw_name (i := 7) (G.blk s0 H0 _ _ f0).nd))
    (fun s0 H0 C0 z0 f0 => mts_nil)
    (fun s0 H0 C0 z0 f0 => (me_t1 call_strA s_str rfl (M.fr 6 _ rfl) B_str (me_var 7))))))))
  (mss_one (ms_for po G.calm (mi_seq (me_var 4)) (mg_name (i := 6) G.nd)
  (mss_cons (ms_if (mt_cmp (op_eqD (hu64 G)) s_eq (me_ix (me_var 3) me_int (fun _ _ => rfl)) (me_str w_choose) (nomark _))
  (mss_one (ms_expr (me_mt1 m_append (me_var 2) (me_bin op_addA s_add (me_var 1) (me_str w_way)))))
  mss_nil)
  (mss_one (ms_expr (me_mt1 m_extend (me_var 2) (me_call G (M.fn 3 _ _ rfl) rfl (ma_cons (me_var 6) (ma_cons (me_bin op_addA s_add (me_var 1) (me_str w__32__32_)) ma_nil)))))))))))))
  (mss_one (ms_ret (me_var 2)))))
theorem der7 (G : Good (XX N7 "format_program" s7 P w K mg base f cdv A outer s H E) (fun cls d _ H => E cls d H) cl c lv) (po : PassesOwn (model P w) (XX N7 "format_program" s7 P w K mg base f cdv A outer s H E).A (XX N7 "format_program" s7 P w K mg base f cdv A outer s H E).env (XX N7 "format_program" s7 P w K mg base f cdv A outer s H E).xe) :
    MSS (XX N7 "format_program" s7 P w K mg base f cdv A outer s H E) cl (EXW K cl fun cls d _ H => E cls d H) c (defBody s7) b_format_program :=
  (mss_cons (ms_set (i := 1) G.nd (me_bin op_addA s_add (me_lst (ma_cons (me_fs (.cons (me_str w_names_32_) (.cons (me_fmt (me_ix (me_var 0) me_int (fun _ _ => rfl))) .nil))) ma_nil)) (me_call G (M.fn 3 _ _ rfl) rfl (ma_cons (me_ix (me_var 0) me_int (fun _ _ => rfl)) (ma_cons (me_str w_) ma_nil)))))
  (mss_one (ms_ret (me_mt1 m_join (me_str w_) (me_compF (E' := EXW K cl fun _ _ _ _ => False) (own := [("line", 2)]) [2] rfl G.calm G.nd (blkOk_by (N := N7) (sc := defScope s7) (by first | decide +kernel | rfl))
    (mi_seq (me_var 1)) (fun s0 H0 C0 z0 f0 => (mw_name (i := 2) (G.blk s0 H0 _ _ f0).nd))
    (fun s0 H0 C0 z0 f0 => mts_nil)
    (fun s0 H0 C0 z0 f0 => (me_bin op_addA s_add (me_var 2) (me_str w__10_))))))))
theorem der8 (G : Good (XX N8 "OpenBlock.__init__" s8 P w K mg base f cdv A outer s H E) (fun cls d _ H => E cls d H) cl c lv) (po : PassesOwn (model P w) (XX N8 "OpenBlock.__init__" s8 P w K mg base f cdv A outer s H E).A (XX N8 "OpenBlock.__init__" s8 P w K mg base f cdv A outer s H E).env (XX N8 "OpenBlock.__init__" s8 P w K mg base f cdv A outer s H E).xe) :
    MSS (XX N8 "OpenBlock.__init__" s8 P w K mg base f cdv A outer s H E) cl (EXW K cl fun cls d _ H => E cls d H) c (defBody s8) b_OpenBlock____init__ :=
  (mss_cons (ms_fld G w_done (by decide +kernel) (me_var 0) (me_lst ma_nil))
  (mss_cons (ms_fld G w_word (by decide +kernel) (me_var 0) me_non)
  (mss_one (ms_fld G w_inner (by decide +kernel) (me_var 0) (me_lst ma_nil)))))
theorem der9 (G : Good (XX N9 "OpenBlock.finish" s9 P w K mg base f cdv A outer s H E) (fun cls d _ H => E cls d H) cl c lv) (po : PassesOwn (model P w) (XX N9 "OpenBlock.finish" s9 P w K mg base f cdv A outer s H E).A (XX N9 "OpenBlock.finish" s9 P w K mg base f cdv A outer s H E).env (XX N9 "OpenBlock.finish" s9 P w K mg base f cdv A outer s H E).xe) :
    MSS (XX N9 "OpenBlock.finish" s9 P w K mg base f cdv A outer s H E) cl (EXW K cl fun cls d _ H => E cls d H) c (defBody s9) b_OpenBlock__finish :=
  (mss_cons (ms_if (mt_cmp (op_eqD (hu64 G)) s_eq (me_fld w_word (me_var 0)) (me_str w_loop) (nomark _))
  (mss_one (ms_expr (me_mt1 m_append (me_fld w_done (me_var 0)) (me_tup (ma_cons (me_str w_loop) (ma_cons (me_ix (me_fld w_inner (me_var 0)) me_int (fun _ _ => rfl)) ma_nil))))))
  (mss_one (ms_if (mt_cmp (op_eqD (hu64 G)) s_eq (me_fld w_word (me_var 0)) (me_str w_choose) (nomark _))
  (mss_cons (ms_if (mt_cmp op_lt s_lt (me_b1 call_len s_len rfl (M.fr 3 _ rfl) B_len (me_fld w_inner (me_var 0))) me_int (nomark _))
  (mss_one (ms_ret me_bl))
  mss_nil)
  (mss_one (ms_expr (me_mt1 m_append (me_fld w_done (me_var 0)) (me_tup (ma_cons (me_str w_choose) (ma_cons (me_t1 call_tuple_of s_tuple rfl (M.fr 7 _ rfl) B_tuple (me_fld w_inner (me_var 0))) ma_nil)))))))
  mss_nil)))
  (mss_cons (ms_asg (me_tup (ma_cons me_non (ma_cons (me_lst ma_nil) ma_nil))) (mg_tup G.calm (mgs_cons (mg_fld G w_word (by decide +kernel) (me_var 0)) (mgs_cons (mg_fld G w_inner (by decide +kernel) (me_var 0)) mgs_nil))))
  (mss_one (ms_ret me_bl))))
theorem der10 (G : Good (XX N10 "ProgramReader.__init__" s10 P w K mg base f cdv A outer s H E) (fun cls d _ H => E cls d H) cl c lv) (po : PassesOwn (model P w) (XX N10 "ProgramReader.__init__" s10 P w K mg base f cdv A outer s H E).A (XX N10 "ProgramReader.__init__" s10 P w K mg base f cdv A outer s H E).env (XX N10 "ProgramReader.__init__" s10 P w K mg base f cdv A outer s H E).xe) :
    MSS (XX N10 "ProgramReader.__init__" s10 P w K mg base f cdv A outer s H E) cl (EXW K cl fun cls d _ H => E cls d H) c (defBody s10) b_ProgramReader____init__ :=
  (mss_cons (ms_fld G w_names (by decide +kernel) (me_var 0) (me_var 1))
  (mss_cons (ms_fld G w_blocks (by decide +kernel) (me_var 0) (me_lst (ma_cons (me_make0 G (M.cl 0 _ _ _ rfl) rfl) ma_nil)))
  (mss_cons (ms_fld G w_statements (by decide +kernel) (me_var 0) me_int)
  (mss_one (ms_fld G w_spots (by decide +kernel) (me_var 0) me_int)))))
theorem der11 (G : Good (XX N11 "ProgramReader.close_to" s11 P w K mg base f cdv A outer s H E) (fun cls d _ H => E cls d H) cl c lv) (po : PassesOwn (model P w) (XX N11 "ProgramReader.close_to" s11 P w K mg base f cdv A outer s H E).A (XX N11 "ProgramReader.close_to" s11 P w K mg base f cdv A outer s H E).env (XX N11 "ProgramReader.close_to" s11 P w K mg base f cdv A outer s H E).xe) :
    MSS (XX N11 "ProgramReader.close_to" s11 P w K mg base f cdv A outer s H E) cl (EXW K cl fun cls d _ H => E cls d H) c (defBody s11) b_ProgramReader__close_to :=
  (mss_cons (ms_while po (mt_cmp op_gt s_gt (me_b1 call_len s_len rfl (M.fr 3 _ rfl) B_len (me_fld w_blocks (me_var 0))) (me_bin op_addA s_add (me_var 1) me_int) (nomark _))
  (mss_cons (ms_set (i := 2) G.nd (me_mt0 m_pop (me_fld w_blocks (me_var 0))))
  (mss_cons (ms_if (mt_not (mt_val (me_meth0 G w_finish (by decide +kernel) (me_var 2))))
  (mss_one (ms_ret me_bl))
  mss_nil)
  (mss_one (ms_expr (me_mt1 m_append (me_fld w_inner (me_ix (me_fld w_blocks (me_var 0)) (me_un un_neg s_neg me_int) (fun _ _ => rfl))) (me_t1 call_tuple_of s_tuple rfl (M.fr 7 _ rfl) B_tuple (me_fld w_done (me_var 2)))))))))
  (mss_one (ms_ret me_bl)))
theorem der12 (G : Good (XX N12 "ProgramReader.read" s12 P w K mg base f cdv A outer s H E) (fun cls d _ H => E cls d H) cl c lv) (po : PassesOwn (model P w) (XX N12 "ProgramReader.read" s12 P w K mg base f cdv A outer s H E).A (XX N12 "ProgramReader.read" s12 P w K mg base f cdv A outer s H E).env (XX N12 "ProgramReader.read" s12 P w K mg base f cdv A outer s H E).xe) :
    MSS (XX N12 "ProgramReader.read" s12 P w K mg base f cdv A outer s H E) cl (EXW K cl fun cls d _ H => E cls d H) c (defBody s12) b_ProgramReader__read :=
  (mss_cons (ms_set (i := 2) G.nd (me_mt1 m_lstrip (me_var 1) (me_str w__32_)))
  (mss_cons (ms_set (i := 3) G.nd (me_bin op_sub s_sub (me_b1 call_len s_len rfl (M.fr 3 _ rfl) B_len (me_var 1)) (me_b1 call_len s_len rfl (M.fr 3 _ rfl) B_len (me_var 2))))
  (mss_cons (ms_if (mt_bool (mw_or (mt_cmp (op_neD (hu64 G)) s_ne (me_bin op_mod s_mod (me_var 3) me_int) me_int (nomark _)) (mw_or (mt_cmp op_ge s_ge (me_bin op_fdiv s_div (me_var 3) me_int) (me_b1 call_len s_len rfl (M.fr 3 _ rfl) B_len (me_fld w_blocks (me_var 0))) (nomark _)) (mw_or1 (mt_not (mt_val (me_meth G w_close_95_to (by decide +kernel) (me_var 0) (ma_cons (me_bin op_fdiv s_div (me_var 3) me_int) ma_nil))))))))
  (mss_one (ms_ret me_bl))
  mss_nil)
  (mss_cons (ms_set (i := 4) G.nd (me_ix (me_fld w_blocks (me_var 0)) (me_un un_neg s_neg me_int) (fun _ _ => rfl)))
  (mss_cons (ms_if (mt_cmp (op_eqD (hu64 G)) s_eq (me_var 2) (me_str w_way) (nomark _))
  (mss_cons (ms_if (mt_bool (mw_or (mt_cmp (op_neD (hu64 G)) s_ne (me_fld w_word (me_var 4)) (me_str w_choose) (nomark _)) (mw_or1 (mt_cmp (op_eqD (hu64 G)) s_eq (me_b1 call_len s_len rfl (M.fr 3 _ rfl) B_len (me_fld w_inner (me_var 4))) me_int (nomark _)))))
  (mss_one (ms_ret me_bl))
  mss_nil)
  (mss_cons (ms_expr (me_mt1 m_append (me_fld w_blocks (me_var 0)) (me_make0 G (M.cl 0 _ _ _ rfl) rfl)))
  (mss_one (ms_ret me_bl))))
  mss_nil)
  (mss_one (ms_ret (me_and (me_meth0 G w_finish (by decide +kernel) (me_var 4)) (me_one (me_meth G w_read_95_statement (by decide +kernel) (me_var 0) (ma_cons (me_mt1 m_split (me_var 2) (me_str w__32_)) ma_nil)))))))))))
theorem der13 (G : Good (XX N13 "ProgramReader.read_statement" s13 P w K mg base f cdv A outer s H E) (fun cls d _ H => E cls d H) cl c lv) (po : PassesOwn (model P w) (XX N13 "ProgramReader.read_statement" s13 P w K mg base f cdv A outer s H E).A (XX N13 "ProgramReader.read_statement" s13 P w K mg base f cdv A outer s H E).env (XX N13 "ProgramReader.read_statement" s13 P w K mg base f cdv A outer s H E).xe) :
    MSS (XX N13 "ProgramReader.read_statement" s13 P w K mg base f cdv A outer s H E) cl (EXW K cl fun cls d _ H => E cls d H) c (defBody s13) b_ProgramReader__read_statement :=
  (mss_cons (ms_set (i := 2) G.nd (me_ix (me_fld w_blocks (me_var 0)) (me_un un_neg s_neg me_int) (fun _ _ => rfl)))
  (mss_cons (ms_fldaug G w_statements (by decide +kernel) iop_addA s_iadd (me_var 0) me_int)
  (mss_cons (ms_fldaug G w_spots (by decide +kernel) iop_addA s_iadd (me_var 0) (me_t1 call_int1 s_int rfl (M.fr 2 _ rfl) B_int (me_cmp (op_inA G.hu) s_in (me_ix (me_var 1) me_int (fun _ _ => rfl)) (me_con (M.con 3 _ _ rfl) rfl) rfl)))
  (mss_cons (ms_if (mt_bool (mw_or (mt_cmp (op_eqD (hu64 G)) s_eq (me_b1 call_len s_len rfl (M.fr 3 _ rfl) B_len (me_fld w_done (me_var 2))) (me_con (M.con 6 _ _ rfl) rfl) (nomark _)) (mw_or (mt_cmp op_gt s_gt (me_fld w_statements (me_var 0)) (me_con (M.con 5 _ _ rfl) rfl) (nomark _)) (mw_or1 (mt_cmp op_gt s_gt (me_fld w_spots (me_var 0)) (me_con (M.con 4 _ _ rfl) rfl) (nomark _))))))
  (mss_one (ms_ret me_bl))
  mss_nil)
  (mss_cons (ms_if (mt_cmp (op_inA G.hu) s_in (me_var 1) (me_tup (ma_cons (me_lstF (ma_cons (me_str w_choose) ma_nil)) (ma_cons (me_lstF (ma_cons (me_str w_loop) ma_nil)) ma_nil))) rfl)
  (mss_cons (ms_if (mt_cmp (op_eqD (hu64 G)) s_eq (me_b1 call_len s_len rfl (M.fr 3 _ rfl) B_len (me_fld w_blocks (me_var 0))) (me_con (M.con 7 _ _ rfl) rfl) (nomark _))
  (mss_one (ms_ret me_bl))
  mss_nil)
  (mss_cons (ms_fld G w_word (by decide +kernel) (me_var 2) (me_ix (me_var 1) me_int (fun _ _ => rfl)))
  (mss_cons (ms_if (mt_cmp (op_eqD (hu64 G)) s_eq (me_var 1) (me_lstF (ma_cons (me_str w_loop) ma_nil)) (nomark _))
  (mss_one (ms_expr (me_mt1 m_append (me_fld w_blocks (me_var 0)) (me_make0 G (M.cl 0 _ _ _ rfl) rfl))))
  mss_nil)
  (mss_one (ms_ret me_bl)))))
  mss_nil)
  (mss_cons (ms_set (i := 3) G.nd (me_bin op_addA s_add (me_tup (ma_cons (me_ix (me_var 1) me_int (fun _ _ => rfl)) ma_nil)) (me_t1 call_tuple_of s_tuple rfl (M.fr 7 _ rfl) B_tuple (me_compF (E' := EXW K cl fun _ _ _ _ => False) (own := [("word", 4)]) [4] rfl G.calm G.nd (blkOk_by (N := N13) (sc := defScope s13) (by first | decide +kernel | rfl))
    (mi_seq (me_slc (me_var 1) (mo_some me_int) mo_none)) (fun s0 H0 C0 z0 f0 => (mw_name (i := 4) (G.blk s0 H0 _ _ f0).nd))
    (fun s0 H0 C0 z0 f0 => mts_nil)
    (fun s0 H0 C0 z0 f0 => (me_call (G.blk s0 H0 _ _ f0) (M.fn 4 _ _ rfl) rfl (ma_cons (me_var 4) ma_nil)))))))
  (mss_cons (ms_if (mt_bool (mw_or (mt_cmp (op_notInA G.hu) s_notIn (me_ix (me_var 1) me_int (fun _ _ => rfl)) (me_con (M.con 8 _ _ rfl) rfl) rfl) (mw_or1 (mt_not (mt_val (me_call G (M.fn 5 _ _ rfl) rfl (ma_cons (me_var 3) (ma_cons (me_fld w_names (me_var 0)) ma_nil))))))))
  (mss_one (ms_ret me_bl))
  mss_nil)
  (mss_cons (ms_expr (me_mt1 m_append (me_fld w_done (me_var 2)) (me_var 3)))
  (mss_one (ms_ret me_bl))))))))))
theorem der14 (G : Good (XX N14 "parse_program" s14 P w K mg base f cdv A outer s H E) (fun cls d _ H => E cls d H) cl c lv) (po : PassesOwn (model P w) (XX N14 "parse_program" s14 P w K mg base f cdv A outer s H E).A (XX N14 "parse_program" s14 P w K mg base f cdv A outer s H E).env (XX N14 "parse_program" s14 P w K mg base f cdv A outer s H E).xe) :
    MSS (XX N14 "parse_program" s14 P w K mg base f cdv A outer s H E) cl (EXW K cl fun cls d _ H => E cls d H) c (defBody s14) b_parse_program :=
  (mss_cons (ms_set (i := 1) G.nd (me_mt1 m_split (me_var 0) (me_str w__10_)))
  (mss_cons (ms_set (i := 2) G.nd (me_slc (me_var 1) mo_none (mo_some (me_un un_neg s_neg me_int))))
  (mss_cons (ms_set (i := 3) G.nd (me_if (mt_cmp (op_neD (hu64 G)) s_ne (me_var 2) (me_lstF ma_nil) (nomark _)) (me_mt1 m_split (me_ix (me_var 2) me_int (fun _ _ => rfl)) (me_str w__32_)) (me_lstF ma_nil)))
  (mss_cons (ms_set (i := 4) G.nd (me_if (mt_bool (mw_and (mt_cmp (op_eqD (hu64 G)) s_eq (me_b1 call_len s_len rfl (M.fr 3 _ rfl) B_len (me_var 3)) me_int (nomark _)) (mw_and1 (mt_cmp (op_eqD (hu64 G)) s_eq (me_ix (me_var 3) me_int (fun _ _ => rfl)) (me_str w_names) (nomark _))))) (me_call G (M.fn 4 _ _ rfl) rfl (ma_cons (me_ix (me_var 3) me_int (fun _ _ => rfl)) ma_nil)) me_non))
  (mss_cons (ms_if (mt_bool (mw_or (mt_isN (me_var 4)) (mw_or1 (mt_not (mt_chain op_le op_le s_le s_le me_int (me_var 4) (me_con (M.con 9 _ _ rfl) rfl))))))
  (mss_one ms_none)
  mss_nil)
  (mss_cons (ms_set (i := 5) G.nd (me_make G (M.cl 1 _ _ _ rfl) rfl (ma_cons (me_var 4) ma_nil)))
  (mss_cons (ms_for po G.calm (mi_range2 rfl (M.fr 8 _ rfl) me_int (me_b1 call_len s_len rfl (M.fr 3 _ rfl) B_len (me_var 2))) (mg_name (i := 6) G.nd)
  (mss_one (ms_if (mt_not (mt_val (me_meth G w_read (by decide +kernel) (me_var 5) (ma_cons (me_ix (me_var 2) (me_var 6) (fun _ _ => rfl)) ma_nil))))
  (mss_one ms_none)
  mss_nil)))
  (mss_cons (ms_if (mt_bool (mw_or (mt_not (mt_val (me_meth G w_close_95_to (by decide +kernel) (me_var 5) (ma_cons me_int ma_nil)))) (mw_or (mt_not (mt_val (me_meth0 G w_finish (by decide +kernel) (me_ix (me_fld w_blocks (me_var 5)) me_int (fun _ _ => rfl))))) (mw_or1 (mt_cmp (op_neD (hu64 G)) s_ne (me_ix (me_var 1) (me_un un_neg s_neg me_int) (fun _ _ => rfl)) (me_str w_) (nomark _))))))
  (mss_one ms_none)
  mss_nil)
  (mss_one (ms_ret (me_tup (ma_cons (me_var 4) (ma_cons (me_t1 call_tuple_of s_tuple rfl (M.fr 7 _ rfl) B_tuple (me_fld w_done (me_ix (me_fld w_blocks (me_var 5)) me_int (fun _ _ => rfl)))) ma_nil)))))))))))))
theorem der15 (G : Good (XX N15 "_law_pen" s15 P w K mg base f cdv A outer s H E) (fun cls d _ H => E cls d H) cl c lv) (po : PassesOwn (model P w) (XX N15 "_law_pen" s15 P w K mg base f cdv A outer s H E).A (XX N15 "_law_pen" s15 P w K mg base f cdv A outer s H E).env (XX N15 "_law_pen" s15 P w K mg base f cdv A outer s H E).xe) :
    MSS (XX N15 "_law_pen" s15 P w K mg base f cdv A outer s H E) cl (EXW K cl fun cls d _ H => E cls d H) c (defBody s15) b__law_pen :=
  (mss_one (ms_ret (me_lst (ma_cons (me_t1 call_list_ofF s_listF rfl (M.fr 9 _ rfl) B_list (me_slc (me_var 0) mo_none (mo_some me_int))) (ma_cons me_int (ma_cons me_int ma_nil))))))
theorem der16 (G : Good (XX N16 "_law_fresh" s16 P w K mg base f cdv A outer s H E) (fun cls d _ H => E cls d H) cl c lv) (po : PassesOwn (model P w) (XX N16 "_law_fresh" s16 P w K mg base f cdv A outer s H E).A (XX N16 "_law_fresh" s16 P w K mg base f cdv A outer s H E).env (XX N16 "_law_fresh" s16 P w K mg base f cdv A outer s H E).xe) :
    MSS (XX N16 "_law_fresh" s16 P w K mg base f cdv A outer s H E) cl (EXW K cl fun cls d _ H => E cls d H) c (defBody s16) b__law_fresh :=
  (mss_cons (ms_set (i := 1) G.nd (me_ix (me_var 0) me_int (fun _ _ => rfl)))
  (mss_cons (ms_asg (me_bin op_addA s_add (me_var 1) me_int) (mg_sub (me_var 0) me_int))
  (mss_cons (ms_set (i := 2) G.nd me_int)
  (mss_cons (ms_if (mt_cmp (op_neD (hu64 G)) s_ne (me_ix (me_var 0) me_int (fun _ _ => rfl)) (me_lstF ma_nil) (nomark _))
  (mss_one (ms_set (i := 2) G.nd (me_ix (me_ix (me_var 0) me_int (fun _ _ => rfl)) (me_bin op_mod s_mod (me_t1 call_int1 s_int rfl (M.fr 2 _ rfl) B_int (me_var 1)) (me_b1 call_len s_len rfl (M.fr 3 _ rfl) B_len (me_ix (me_var 0) me_int (fun _ _ => rfl)))) (fun _ _ => rfl))))
  mss_nil)
  (mss_cons (ms_if (mt_bool (mw_and (mt_cmp op_lt s_lt (me_var 1) (me_b1 call_len s_len rfl (M.fr 3 _ rfl) B_len (me_ix (me_var 0) me_int (fun _ _ => rfl))) (nomark _)) (mw_and1 (mt_cmp op_ge s_ge (me_var 2) (me_bin op_pow s_pow me_int me_int) (nomark _)))))
  (mss_one (ms_ret (me_bin op_sub s_sub (me_var 2) (me_bin op_pow s_pow me_int me_int))))
  mss_nil)
  (mss_cons (ms_set (i := 3) G.nd me_int)
  (mss_cons (ms_set (i := 4) G.nd (me_bin op_mod s_mod (me_t1 call_int1 s_int rfl (M.fr 2 _ rfl) B_int (me_bin op_addA s_add (me_bin op_addA s_add (me_bin op_mulA s_mul (me_var 2) me_int) (me_bin op_mulA s_mul me_int (me_var 1))) me_int)) (me_var 3)))
  (mss_cons (ms_set (i := 5) G.nd (me_var 4))
  (mss_cons (ms_for po G.calm (mi_range1 rfl (M.fr 8 _ rfl) me_int) (mg_name (i := 6) G.nd)
  (mss_cons (ms_set (i := 4) G.nd (me_bin op_mod s_mod (me_t1 call_int1 s_int rfl (M.fr 2 _ rfl) B_int (me_bin op_addA s_add (me_bin op_addA s_add (me_bin op_mulA s_mul (me_var 4) (me_var 4)) (me_bin op_mulA s_mul (me_bin op_mulA s_mul me_int (me_bin op_addA s_add (me_var 6) me_int)) (me_bin op_addA s_add (me_var 1) me_int))) (me_var 2))) (me_var 3)))
  (mss_one (ms_set (i := 5) G.nd (me_bin op_addA s_add (me_bin op_mulA s_mul (me_var 5) (me_var 3)) (me_var 4))))))
  (mss_one (ms_ret (me_var 5))))))))))))
theorem der17 (G : Good (XX N17 "_law_draw" s17 P w K mg base f cdv A outer s H E) (fun cls d _ H => E cls d H) cl c lv) (po : PassesOwn (model P w) (XX N17 "_law_draw" s17 P w K mg base f cdv A outer s H E).A (XX N17 "_law_draw" s17 P w K mg base f cdv A outer s H E).env (XX N17 "_law_draw" s17 P w K mg base f cdv A outer s H E).xe) :
    MSS (XX N17 "_law_draw" s17 P w K mg base f cdv A outer s H E) cl (EXW K cl fun cls d _ H => E cls d H) c (defBody s17) b__law_draw :=
  (mss_cons (ms_if (mt_cmp op_lt s_lt (me_ix (me_var 0) me_int (fun _ _ => rfl)) (me_var 1) (nomark _))
  (mss_one (ms_asg (me_call G (M.fn 6 _ _ rfl) rfl (ma_cons (me_var 0) ma_nil)) (mg_sub (me_var 0) me_int)))
  mss_nil)
  (mss_cons (ms_set (i := 2) G.nd (me_bin op_mod s_mod (me_t1 call_int1 s_int rfl (M.fr 2 _ rfl) B_int (me_ix (me_var 0) me_int (fun _ _ => rfl))) (me_var 1)))
  (mss_cons (ms_asg (me_bin op_fdiv s_div (me_t1 call_int1 s_int rfl (M.fr 2 _ rfl) B_int (me_ix (me_var 0) me_int (fun _ _ => rfl))) (me_var 1)) (mg_sub (me_var 0) me_int))
  (mss_one (ms_ret (me_var 2))))))
theorem der18 (G : Good (XX N18 "_law_blocks" s18 P w K mg base f cdv A outer s H E) (fun cls d _ H => E cls d H) cl c lv) (po : PassesOwn (model P w) (XX N18 "_law_blocks" s18 P w K mg base f cdv A outer s H E).A (XX N18 "_law_blocks" s18 P w K mg base f cdv A outer s H E).env (XX N18 "_law_blocks" s18 P w K mg base f cdv A outer s H E).xe) :
    MSS (XX N18 "_law_blocks" s18 P w K mg base f cdv A outer s H E) cl (EXW K cl fun cls d _ H => E cls d H) c (defBody s18) b__law_blocks :=
  (mss_cons (ms_if (mt_cmp (op_eqD (hu64 G)) s_eq (me_ix (me_var 0) me_int (fun _ _ => rfl)) (me_str w_choose) (nomark _))
  (mss_one (ms_ret (me_t1 call_list_ofF s_listF rfl (M.fr 9 _ rfl) B_list (me_ix (me_var 0) me_int (fun _ _ => rfl)))))
  mss_nil)
  (mss_one (ms_ret (me_if (mt_cmp (op_eqD (hu64 G)) s_eq (me_ix (me_var 0) me_int (fun _ _ => rfl)) (me_str w_loop) (nomark _)) (me_lstF (ma_cons (me_ix (me_var 0) me_int (fun _ _ => rfl)) ma_nil)) (me_lstF ma_nil)))))
theorem der19 (G : Good (XX N19 "_law_statement" s19 P w K mg base f cdv A outer s H E) (fun cls d _ H => E cls d H) cl c lv) (po : PassesOwn (model P w) (XX N19 "_law_statement" s19 P w K mg base f cdv A outer s H E).A (XX N19 "_law_statement" s19 P w K mg base f cdv A outer s H E).env (XX N19 "_law_statement" s19 P w K mg base f cdv A outer s H E).xe) :
    MSS (XX N19 "_law_statement" s19 P w K mg base f cdv A outer s H E) cl (EXW K cl fun cls d _ H => E cls d H) c (defBody s19) b__law_statement :=
  (mss_cons (ms_asg (me_bin op_sub s_sub (me_ix (me_var 3) me_int (fun _ _ => rfl)) me_int) (mg_sub (me_var 3) me_int))
  (mss_cons (ms_par (i := 4) (j := 5) G.calm G.nd (ma_cons (me_call G (M.fn 7 _ _ rfl) rfl (ma_cons (me_var 0) (ma_cons me_int ma_nil))) (ma_cons (me_call G (M.fn 7 _ _ rfl) rfl (ma_cons (me_var 0) (ma_cons (me_var 1) ma_nil))) ma_nil)) (by rfl))
  (mss_cons (ms_if (mt_bool (mw_and (mt_cmp op_lt s_lt (me_var 4) me_int (nomark _)) (mw_and1 (mt_cmp op_gt s_gt (me_ix (me_var 3) me_int (fun _ _ => rfl)) me_int (nomark _)))))
  (mss_cons (ms_asg (me_bin op_sub s_sub (me_ix (me_var 3) me_int (fun _ _ => rfl)) me_int) (mg_sub (me_var 3) me_int))
  (mss_one (ms_ret (me_tup (ma_cons (me_str w_look) (ma_cons (me_var 5) ma_nil))))))
  mss_nil)
  (mss_cons (ms_if (mt_bool (mw_and (mt_cmp op_lt s_lt (me_var 4) me_int (nomark _)) (mw_and (mt_cmp op_gt s_gt (me_ix (me_var 3) me_int (fun _ _ => rfl)) me_int (nomark _)) (mw_and1 (mt_cmp op_gt s_gt (me_ix (me_var 3) me_int (fun _ _ => rfl)) me_int (nomark _))))))
  (mss_cons (ms_asg (me_tup (ma_cons (me_bin op_sub s_sub (me_ix (me_var 3) me_int (fun _ _ => rfl)) me_int) (ma_cons (me_bin op_sub s_sub (me_ix (me_var 3) me_int (fun _ _ => rfl)) me_int) ma_nil))) (mg_tup G.calm (mgs_cons (mg_sub (me_var 3) me_int) (mgs_cons (mg_sub (me_var 3) me_int) mgs_nil))))
  (mss_cons (ms_set (i := 6) G.nd (me_ix (me_lstF (ma_cons me_int (ma_cons me_int (ma_cons me_int (ma_cons me_int ma_nil))))) (me_call G (M.fn 7 _ _ rfl) rfl (ma_cons (me_var 0) (ma_cons me_int ma_nil))) (fun _ _ => rfl)))
  (mss_cons (ms_set (i := 7) G.nd (me_t1 call_tuple_of s_tuple rfl (M.fr 7 _ rfl) B_tuple (me_compF (E' := EXW K cl fun _ _ _ _ => False) (own := [("lap", 8)]) [8] rfl G.calm G.nd (blkOk_by (N := N19) (sc := defScope s19) (by first | decide +kernel | rfl))
    (mi_range1 rfl (M.fr 8 _ rfl) (me_var 6)) (fun s0 H0 C0 z0 f0 => (mw_name (i := 8) (G.blk s0 H0 _ _ f0).nd))
    (fun s0 H0 C0 z0 f0 => mts_nil)
    (fun s0 H0 C0 z0 f0 => (me_call (G.blk s0 H0 _ _ f0) (M.fn 8 _ _ rfl) rfl (ma_cons (me_var 0) (ma_cons (me_var 1) (ma_cons (me_var 2) (ma_cons (me_var 3) ma_nil)))))))))
  (mss_cons (ms_asg (me_bin op_addA s_add (me_ix (me_var 3) me_int (fun _ _ => rfl)) me_int) (mg_sub (me_var 3) me_int))
  (mss_one (ms_ret (me_if (mt_cmp (op_eqD (hu64 G)) s_eq (me_b1 call_len s_len rfl (M.fr 3 _ rfl) B_len (me_var 7)) me_int (nomark _)) (me_tup (ma_cons (me_str w_loop) (ma_cons (me_ix (me_var 7) me_int (fun _ _ => rfl)) ma_nil))) (me_tup (ma_cons (me_str w_choose) (ma_cons (me_var 7) ma_nil))))))))))
  mss_nil)
  (mss_cons (ms_if (mt_bool (mw_and (mt_cmp op_lt s_lt (me_var 4) me_int (nomark _)) (mw_and1 (mt_cmp op_gt s_gt (me_var 1) me_int (nomark _)))))
  (mss_one (ms_ret (me_tup (ma_cons (me_str w_give) (ma_cons (me_call G (M.fn 7 _ _ rfl) rfl (ma_cons (me_var 0) (ma_cons (me_var 2) ma_nil))) (ma_cons (me_var 5) (ma_cons (me_bin op_mod s_mod (me_t1 call_int1 s_int rfl (M.fr 2 _ rfl) B_int (me_bin op_addA s_add (me_bin op_addA s_add (me_var 5) me_int) (me_call G (M.fn 7 _ _ rfl) rfl (ma_cons (me_var 0) (ma_cons (me_bin op_sub s_sub (me_var 1) me_int) ma_nil))))) (me_var 1)) ma_nil)))))))
  mss_nil)
  (mss_one (ms_ret (me_if (mt_cmp op_lt s_lt (me_var 4) me_int (nomark _)) (me_tup (ma_cons (me_str w_change) (ma_cons (me_call G (M.fn 7 _ _ rfl) rfl (ma_cons (me_var 0) (ma_cons (me_var 2) ma_nil))) (ma_cons (me_var 5) (ma_cons (me_call G (M.fn 7 _ _ rfl) rfl (ma_cons (me_var 0) (ma_cons me_int ma_nil))) ma_nil))))) (me_tup (ma_cons (me_str w_fresh) (ma_cons (me_var 5) ma_nil)))))))))))
theorem der20 (G : Good (XX N20 "_law_block" s20 P w K mg base f cdv A outer s H E) (fun cls d _ H => E cls d H) cl c lv) (po : PassesOwn (model P w) (XX N20 "_law_block" s20 P w K mg base f cdv A outer s H E).A (XX N20 "_law_block" s20 P w K mg base f cdv A outer s H E).env (XX N20 "_law_block" s20 P w K mg base f cdv A outer s H E).xe) :
    MSS (XX N20 "_law_block" s20 P w K mg base f cdv A outer s H E) cl (EXW K cl fun cls d _ H => E cls d H) c (defBody s20) b__law_block :=
  (mss_cons (ms_set (i := 4) G.nd (me_lst ma_nil))
  (mss_cons (ms_for po G.calm (mi_range1 rfl (M.fr 8 _ rfl) (me_call G (M.fn 7 _ _ rfl) rfl (ma_cons (me_var 0) (ma_cons me_int ma_nil)))) (mg_name (i := 5) G.nd)
  (mss_one (ms_if (mt_cmp op_gt s_gt (me_ix (me_var 3) me_int (fun _ _ => rfl)) me_int (nomark _))
  (mss_one (ms_expr (me_mt1 m_append (me_var 4) (me_call G (M.fn 9 _ _ rfl) rfl (ma_cons (me_var 0) (ma_cons (me_var 1) (ma_cons (me_var 2) (ma_cons (me_var 3) ma_nil))))))))
  mss_nil)))
  (mss_one (ms_ret (me_t1 call_tuple_of s_tuple rfl (M.fr 7 _ rfl) B_tuple (me_var 4))))))
theorem der21 (G : Good (XX N21 "_law_program" s21 P w K mg base f cdv A outer s H E) (fun cls d _ H => E cls d H) cl c lv) (po : PassesOwn (model P w) (XX N21 "_law_program" s21 P w K mg base f cdv A outer s H E).A (XX N21 "_law_program" s21 P w K mg base f cdv A outer s H E).env (XX N21 "_law_program" s21 P w K mg base f cdv A outer s H E).xe) :
    MSS (XX N21 "_law_program" s21 P w K mg base f cdv A outer s H E) cl (EXW K cl fun cls d _ H => E cls d H) c (defBody s21) b__law_program :=
  (mss_cons (ms_par (i := 5) (j := 6) G.calm G.nd (ma_cons (me_lst (ma_cons me_int (ma_cons (me_var 3) (ma_cons (me_var 4) ma_nil)))) (ma_cons (me_lst ma_nil) ma_nil)) (by rfl))
  (mss_cons (ms_for po G.calm (mi_range1 rfl (M.fr 8 _ rfl) (me_bin op_addA s_add me_int (me_call G (M.fn 7 _ _ rfl) rfl (ma_cons (me_var 0) (ma_cons me_int ma_nil))))) (mg_name (i := 7) G.nd)
  (mss_one (ms_if (mt_cmp op_gt s_gt (me_ix (me_var 5) me_int (fun _ _ => rfl)) me_int (nomark _))
  (mss_one (ms_expr (me_mt1 m_append (me_var 6) (me_call G (M.fn 9 _ _ rfl) rfl (ma_cons (me_var 0) (ma_cons (me_var 1) (ma_cons (me_var 2) (ma_cons (me_var 5) ma_nil))))))))
  mss_nil)))
  (mss_cons (ms_if (mt_bool (mw_and (mt_cmp op_gt s_gt (me_ix (me_var 5) me_int (fun _ _ => rfl)) me_int (nomark _)) (mw_and (mt_cmp op_gt s_gt (me_ix (me_var 5) me_int (fun _ _ => rfl)) me_int (nomark _)) (mw_and1 (mt_cmp (op_eqD (hu64 G)) s_eq (me_call G (M.fn 7 _ _ rfl) rfl (ma_cons (me_var 0) (ma_cons me_int ma_nil))) me_int (nomark _))))))
  (mss_one (ms_expr (me_mt1 m_append (me_var 6) (me_tup (ma_cons (me_str w_look) (ma_cons (me_call G (M.fn 7 _ _ rfl) rfl (ma_cons (me_var 0) (ma_cons (me_var 1) ma_nil))) ma_nil))))))
  mss_nil)
  (mss_one (ms_ret (me_tup (ma_cons (me_var 1) (ma_cons (me_t1 call_tuple_of s_tuple rfl (M.fr 7 _ rfl) B_tuple (me_var 6)) ma_nil))))))))
theorem der22 (G : Good (XX N22 "_law_lines" s22 P w K mg base f cdv A outer s H E) (fun cls d _ H => E cls d H) cl c lv) (po : PassesOwn (model P w) (XX N22 "_law_lines" s22 P w K mg base f cdv A outer s H E).A (XX N22 "_law_lines" s22 P w K mg base f cdv A outer s H E).env (XX N22 "_law_lines" s22 P w K mg base f cdv A outer s H E).xe) :
    MSS (XX N22 "_law_lines" s22 P w K mg base f cdv A outer s H E) cl (EXW K cl fun cls d _ H => E cls d H) c (defBody s22) b__law_lines :=
  (mss_cons (ms_set (i := 2) G.nd (me_lst ma_nil))
  (mss_cons (ms_for po G.calm (mi_seq (me_var 0)) (mg_name (i := 3) G.nd)
  (mss_cons (ms_set (i := 4) G.nd (me_call G (M.fn 10 _ _ rfl) rfl (ma_cons (me_var 3) ma_nil)))
  (mss_cons (ms_set (i := 5) G.nd (me_if (mt_cmp (op_neD (hu64 G)) s_ne (me_var 4) (me_lstF ma_nil) (nomark _)) (me_lstF (ma_cons (me_ix (me_var 3) me_int (fun _ _ => rfl)) ma_nil)) (me_compF (E' := EXW K cl fun _ _ _ _ => False) (own := [("part", 7)]) [7] rfl G.calm G.nd (blkOk_by (N := N22) (sc := defScope s22) (by first | decide +kernel | rfl))
    (mi_seq (me_var 3)) (fun s0 H0 C0 z0 f0 => (mw_name (i := 7) (G.blk s0 H0 _ _ f0).nd))
    (fun s0 H0 C0 z0 f0 => mts_nil)
    (fun s0 H0 C0 z0 f0 => (me_t1 call_strA s_str rfl (M.fr 6 _ rfl) B_str (me_var 7))))))
  (mss_cons (ms_expr (me_mt1 m_append (me_var 2) (me_bin op_addA s_add (me_var 1) (me_mt1 m_join (me_str w__32_) (me_var 5)))))
  (mss_one (ms_for po G.calm (mi_seq (me_var 4)) (mg_name (i := 6) G.nd)
  (mss_cons (ms_if (mt_cmp (op_eqD (hu64 G)) s_eq (me_ix (me_var 3) me_int (fun _ _ => rfl)) (me_str w_choose) (nomark _))
  (mss_one (ms_expr (me_mt1 m_append (me_var 2) (me_bin op_addA s_add (me_var 1) (me_str w_way)))))
  mss_nil)
  (mss_one (ms_expr (me_mt1 m_extend (me_var 2) (me_call G (M.fn 11 _ _ rfl) rfl (ma_cons (me_var 6) (ma_cons (me_bin op_addA s_add (me_var 1) (me_str w__32__32_)) ma_nil)))))))))))))
  (mss_one (ms_ret (me_var 2)))))
theorem der23 (G : Good (XX N23 "law" s23 P w K mg base f cdv A outer s H E) (fun cls d _ H => E cls d H) cl c lv) (po : PassesOwn (model P w) (XX N23 "law" s23 P w K mg base f cdv A outer s H E).A (XX N23 "law" s23 P w K mg base f cdv A outer s H E).env (XX N23 "law" s23 P w K mg base f cdv A outer s H E).xe) :
    MSS (XX N23 "law" s23 P w K mg base f cdv A outer s H E) cl (EXW K cl fun cls d _ H => E cls d H) c (defBody s23) b_law :=
  (mss_cons (ms_set (i := 1) G.nd (me_call G (M.fn 12 _ _ rfl) rfl (ma_cons (me_var 0) ma_nil)))
  (mss_cons (ms_for po G.calm (mi_range1 rfl (M.fr 8 _ rfl) me_int) (mg_name (i := 2) G.nd)
  (mss_cons (ms_set (i := 3) G.nd (me_call G (M.fn 13 _ _ rfl) rfl (ma_cons (me_var 1) (ma_cons (me_bin op_addA s_add me_int (me_call G (M.fn 7 _ _ rfl) rfl (ma_cons (me_var 1) (ma_cons me_int ma_nil)))) (ma_cons me_int (ma_cons (me_ix (me_lstF (ma_cons me_int (ma_cons me_int ma_nil))) (me_call G (M.fn 7 _ _ rfl) rfl (ma_cons (me_var 1) (ma_cons me_int ma_nil))) (fun _ _ => rfl)) (ma_cons me_int ma_nil)))))))
  (mss_cons (ms_set (i := 4) G.nd (me_b1 (call_reprD G.gd G.hu) s_repr rfl (M.fr 10 _ rfl) B_repr (me_var 3)))
  (mss_cons (ms_set (i := 5) G.nd (me_bin op_addA s_add (me_lst (ma_cons (me_bin op_addA s_add (me_str w_names_32_) (me_t1 call_strA s_str rfl (M.fr 6 _ rfl) B_str (me_ix (me_var 3) me_int (fun _ _ => rfl)))) ma_nil)) (me_call G (M.fn 11 _ _ rfl) rfl (ma_cons (me_ix (me_var 3) me_int (fun _ _ => rfl)) (ma_cons (me_str w_) ma_nil)))))
  (mss_cons (ms_set (i := 6) G.nd (me_mt1 m_join (me_str w_) (me_compF (E' := EXW K cl fun _ _ _ _ => False) (own := [("line", 8)]) [8] rfl G.calm G.nd (blkOk_by (N := N23) (sc := defScope s23) (by first | decide +kernel | rfl))
    (mi_seq (me_var 5)) (fun s0 H0 C0 z0 f0 => (mw_name (i := 8) (G.blk s0 H0 _ _ f0).nd))
    (fun s0 H0 C0 z0 f0 => mts_nil)
    (fun s0 H0 C0 z0 f0 => (me_bin op_addA s_add (me_var 8) (me_str w__10_))))))
  (mss_one (ms_if (mt_bool (mw_or (mt_cmp (op_neD (hu64 G)) s_ne (me_call G (M.fn 15 _ _ rfl) rfl (ma_cons (me_var 3) ma_nil)) (me_var 6) (nomark _)) (mw_or (mt_cmp (op_neD (hu64 G)) s_ne (me_b1 (call_reprD G.gd G.hu) s_repr rfl (M.fr 10 _ rfl) B_repr (me_call G (M.fn 14 _ _ rfl) rfl (ma_cons (me_var 6) ma_nil))) (me_var 4) (nomark _)) (mw_or1 (mt_cmp (op_neD (hu64 G)) s_ne (me_b1 (call_reprD G.gd G.hu) s_repr rfl (M.fr 10 _ rfl) B_repr (me_var 3)) (me_var 4) (nomark _))))))
  (mss_one (ms_ret me_bl))
  mss_nil)))))))
  (mss_cons (ms_set (i := 7) G.nd (me_tup (ma_cons me_int (ma_cons (me_tup (ma_cons (me_tup (ma_cons (me_str w_choose) (ma_cons (me_tup (ma_cons (me_tup ma_nil) (ma_cons (me_tup (ma_cons (me_tup (ma_cons (me_str w_loop) (ma_cons (me_tup ma_nil) ma_nil))) ma_nil)) (ma_cons (me_tup (ma_cons (me_tup (ma_cons (me_str w_choose) (ma_cons (me_tup (ma_cons (me_tup ma_nil) (ma_cons (me_tup (ma_cons (me_tup (ma_cons (me_str w_give) (ma_cons me_int (ma_cons me_int (ma_cons me_int ma_nil))))) ma_nil)) ma_nil))) ma_nil))) ma_nil)) ma_nil)))) ma_nil))) (ma_cons (me_tup (ma_cons (me_str w_change) (ma_cons me_int (ma_cons me_int (ma_cons me_int ma_nil))))) ma_nil))) ma_nil))))
  (mss_cons (ms_set (i := 6) G.nd (me_bin op_addA s_add (me_str w_names_32_4_10_) (me_mt1 m_join (me_str w_) (me_compF (E' := EXW K cl fun _ _ _ _ => False) (own := [("line", 8)]) [8] rfl G.calm G.nd (blkOk_by (N := N23) (sc := defScope s23) (by first | decide +kernel | rfl))
    (mi_seq (me_call G (M.fn 11 _ _ rfl) rfl (ma_cons (me_ix (me_var 7) me_int (fun _ _ => rfl)) (ma_cons (me_str w_) ma_nil)))) (fun s0 H0 C0 z0 f0 => (mw_name (i := 8) (G.blk s0 H0 _ _ f0).nd))
    (fun s0 H0 C0 z0 f0 => mts_nil)
    (fun s0 H0 C0 z0 f0 => (me_bin op_addA s_add (me_var 8) (me_str w__10_)))))))
  (mss_cons (ms_if (mt_bool (mw_or (mt_cmp (op_neD (hu64 G)) s_ne (me_call G (M.fn 15 _ _ rfl) rfl (ma_cons (me_var 7) ma_nil)) (me_var 6) (nomark _)) (mw_or1 (mt_cmp (op_neD (hu64 G)) s_ne (me_call G (M.fn 14 _ _ rfl) rfl (ma_cons (me_var 6) ma_nil)) (me_var 7) (nomark _)))))
  (mss_one (ms_ret me_bl))
  mss_nil)
  (mss_one (ms_ret (me_and (me_cmp (op_eqD (hu64 G)) s_eq (me_call G (M.fn 15 _ _ rfl) rfl (ma_cons (me_tup (ma_cons me_int (ma_cons (me_tup ma_nil) ma_nil))) ma_nil)) (me_str w_names_32_1_10_) (nomark _)) (me_one (me_cmp (op_eqD (hu64 G)) s_eq (me_call G (M.fn 14 _ _ rfl) rfl (ma_cons (me_str w_names_32_3_10_) ma_nil)) (me_tup (ma_cons me_int (ma_cons (me_tup ma_nil) ma_nil))) (nomark _)))))))))))
end
def nm : Nat → Str
  | 0 => "ParseError"
  | 1 => "OpenBlock"
  | 2 => "ProgramReader"
  | _ => ""
def clA (K : PySem.W.Frag) (k : Nat) : Addr := He.ga K (nm k)
def dd0 : He.DefD := ⟨("ParseError", some "__init__"), "__init__", "ParseError.__init__", defArgs s0, defBody s0, defScope s0, [], []⟩
def dd1 : He.DefD := ⟨("is_integer", none), "is_integer", "is_integer", defArgs s1, defBody s1, defScope s1, [], []⟩
def dd2 : He.DefD := ⟨("blocks_of", none), "blocks_of", "blocks_of", defArgs s2, defBody s2, defScope s2, [], []⟩
def dd3 : He.DefD := ⟨("are_integers", none), "are_integers", "are_integers", defArgs s3, defBody s3, defScope s3, [], []⟩
def dd4 : He.DefD := ⟨("is_statement_form", none), "is_statement_form", "is_statement_form", defArgs s4, defBody s4, defScope s4, [], []⟩
def dd5 : He.DefD := ⟨("number_in", none), "number_in", "number_in", defArgs s5, defBody s5, defScope s5, [], []⟩
def dd6 : He.DefD := ⟨("lines_of_block", none), "lines_of_block", "lines_of_block", defArgs s6, defBody s6, defScope s6, [], []⟩
def dd7 : He.DefD := ⟨("format_program", none), "format_program", "format_program", defArgs s7, defBody s7, defScope s7, [], []⟩
def dd8 : He.DefD := ⟨("OpenBlock", some "__init__"), "__init__", "OpenBlock.__init__", defArgs s8, defBody s8, defScope s8, [], []⟩
def dd9 : He.DefD := ⟨("OpenBlock", some (sD w_finish)), "finish", "OpenBlock.finish", defArgs s9, defBody s9, defScope s9, [], []⟩
def dd10 : He.DefD := ⟨("ProgramReader", some "__init__"), "__init__", "ProgramReader.__init__", defArgs s10, defBody s10, defScope s10, [], []⟩
def dd11 : He.DefD := ⟨("ProgramReader", some (sD w_close_95_to)), "close_to", "ProgramReader.close_to", defArgs s11, defBody s11, defScope s11, [], []⟩
def dd12 : He.DefD := ⟨("ProgramReader", some (sD w_read)), "read", "ProgramReader.read", defArgs s12, defBody s12, defScope s12, [], []⟩
def dd13 : He.DefD := ⟨("ProgramReader", some (sD w_read_95_statement)), "read_statement", "ProgramReader.read_statement", defArgs s13, defBody s13, defScope s13, [], []⟩
def dd14 : He.DefD := ⟨("parse_program", none), "parse_program", "parse_program", defArgs s14, defBody s14, defScope s14, [], []⟩
def dd15 : He.DefD := ⟨("_law_pen", none), "_law_pen", "_law_pen", defArgs s15, defBody s15, defScope s15, [], []⟩
def dd16 : He.DefD := ⟨("_law_fresh", none), "_law_fresh", "_law_fresh", defArgs s16, defBody s16, defScope s16, [], []⟩
def dd17 : He.DefD := ⟨("_law_draw", none), "_law_draw", "_law_draw", defArgs s17, defBody s17, defScope s17, [], []⟩
def dd18 : He.DefD := ⟨("_law_blocks", none), "_law_blocks", "_law_blocks", defArgs s18, defBody s18, defScope s18, [], []⟩
def dd19 : He.DefD := ⟨("_law_statement", none), "_law_statement", "_law_statement", defArgs s19, defBody s19, defScope s19, [], []⟩
def dd20 : He.DefD := ⟨("_law_block", none), "_law_block", "_law_block", defArgs s20, defBody s20, defScope s20, [], []⟩
def dd21 : He.DefD := ⟨("_law_program", none), "_law_program", "_law_program", defArgs s21, defBody s21, defScope s21, [], []⟩
def dd22 : He.DefD := ⟨("_law_lines", none), "_law_lines", "_law_lines", defArgs s22, defBody s22, defScope s22, [], []⟩
def dd23 : He.DefD := ⟨("law", none), "law", "law", defArgs s23, defBody s23, defScope s23, [], []⟩
def fnl_0 : List He.DefD := [dd0, dd1, dd2, dd3, dd4, dd5, dd6, dd7, dd8, dd9, dd10, dd11, dd12, dd13, dd14, dd15, dd16, dd17, dd18, dd19]
def fnl_1 : List He.DefD := [dd20, dd21, dd22, dd23]
def fnl : List He.DefD := fnl_0 ++ fnl_1
def fal_0 : List He.Fa := [.glo "is_integer", .glo "are_integers", .glo "blocks_of", .glo "lines_of_block", .glo "number_in", .glo "is_statement_form", .glo "_law_fresh", .glo "_law_draw", .glo "_law_block", .glo "_law_statement", .glo "_law_blocks", .glo "_law_lines", .glo "_law_pen", .glo "_law_program", .glo "parse_program", .glo "format_program", .glo "OpenBlock", .cls "OpenBlock", .mkr "OpenBlock", .glo "ProgramReader"]
def fal_1 : List He.Fa := [.cls "ProgramReader", .mkr "ProgramReader", .free "isinstance", .free "bool", .free "int", .free "len", .free "all", .free "zip", .free "str", .free "tuple", .free "range", .free "list", .free "repr", .int "MAX_LABEL" 7, .int "MAX_MARK" 9, .str "DIGITS" (sD w_0123456789), .glo "SPOT_WORDS", .int "MAX_SPOTS" 12, .int "MAX_STATEMENTS" 40, .int "MAX_IN_BLOCK" 8]
def fal_2 : List He.Fa := [.int "MAX_DEPTH" 5, .glo "PLAIN_WORDS", .int "MAX_NAMES" 4, .meth "OpenBlock" (sD w_finish), .meth "ProgramReader" (sD w_close_95_to), .meth "ProgramReader" (sD w_read), .meth "ProgramReader" (sD w_read_95_statement), .noat "OpenBlock" (sD w_done), .noat "OpenBlock" (sD w_word), .noat "OpenBlock" (sD w_inner), .noat "ProgramReader" (sD w_names), .noat "ProgramReader" (sD w_blocks), .noat "ProgramReader" (sD w_statements), .noat "ProgramReader" (sD w_spots), .glo "law"]
def fal : List He.Fa := fal_0 ++ fal_1 ++ fal_2
def loose_0 : List PySem.Str := ["__name__", "ParseError", "MAX_NAMES", "MAX_IN_BLOCK", "MAX_DEPTH", "MAX_STATEMENTS", "MAX_SPOTS", "MAX_LABEL", "MAX_MARK", "SPOT_WORDS", "is_integer", "blocks_of", "are_integers", "is_statement_form", "DIGITS", "PLAIN_WORDS", "number_in", "lines_of_block", "format_program", "OpenBlock"]
def loose_1 : List PySem.Str := ["ProgramReader", "parse_program", "_law_pen", "_law_fresh", "_law_draw", "_law_blocks", "_law_statement", "_law_block", "_law_program", "_law_lines"]
def loose : List PySem.Str := loose_0 ++ loose_1
def exB (K : PySem.W.Frag) : Bool := He.tupB K "SPOT_WORDS" [.str (sD w_look), .str (sD w_choose), .str (sD w_loop)] && (He.tupB K "PLAIN_WORDS" [.str (sD w_fresh), .str (sD w_give), .str (sD w_change), .str (sD w_look)])
theorem exK0 {K : PySem.W.Frag} (h : exB K = true) : He.tupB K "SPOT_WORDS" [.str (sD w_look), .str (sD w_choose), .str (sD w_loop)] = true := (Bool.and_eq_true_iff.mp h).1
theorem exK1 {K : PySem.W.Frag} (h : exB K = true) : He.tupB K "PLAIN_WORDS" [.str (sD w_fresh), .str (sD w_give), .str (sD w_change), .str (sD w_look)] = true := (Bool.and_eq_true_iff.mp h).2
abbrev R : PySem.W.OpenRow := PySem.W.OpenLaw.row PySem.Challenge.rw_copyplaces_k77_programs_written_and_read
abbrev hk : PySem.W.Hook := hookM 5 fal fnl exB
def ob (s : PySem.W.SharedT) : AlM := obsM 5 fal fnl exB (HandSHeadRun.getT s)
theorem ob_eq (s : PySem.W.SharedT) : ob s = hk.obs s.abs := obsM_eq (HandSHeadRun.getT_eq s)
theorem run (w : World) : HandSHeadRun.RunEq R (PySem.W.view R.prog [33]) hk ob 4000 loose w := by
  intro os
  kernel_rfl
theorem sc0 : FnScope N0 P0 (defScope s0) := ⟨rfl, rfl, rfl, by decide +kernel, rfl, by decide +kernel, by decide +kernel⟩
theorem bn0 {K : PySem.W.Frag} {f : Addr} {fd : FuncData} (F : FunD K "__init__" "ParseError.__init__" (defArgs s0) (defBody s0) (defScope s0) [] [] f fd) : Binds K fd P0 [] := F.bindsN fun _ _ _ _ _ _ us hl => match us, hl with | [_, _], _ => rfl
theorem sc1 : FnScope N1 P1 (defScope s1) := ⟨rfl, rfl, rfl, by decide +kernel, rfl, by decide +kernel, by decide +kernel⟩
theorem bn1 {K : PySem.W.Frag} {f : Addr} {fd : FuncData} (F : FunD K "is_integer" "is_integer" (defArgs s1) (defBody s1) (defScope s1) [] [] f fd) : Binds K fd P1 [] := F.bindsN fun _ _ _ _ _ _ us hl => match us, hl with | [_, _, _], _ => rfl
theorem sc2 : FnScope N2 P2 (defScope s2) := ⟨rfl, rfl, rfl, by decide +kernel, rfl, by decide +kernel, by decide +kernel⟩
theorem bn2 {K : PySem.W.Frag} {f : Addr} {fd : FuncData} (F : FunD K "blocks_of" "blocks_of" (defArgs s2) (defBody s2) (defScope s2) [] [] f fd) : Binds K fd P2 [] := F.bindsN fun _ _ _ _ _ _ us hl => match us, hl with | [_], _ => rfl
theorem sc3 : FnScope N3 P3 (defScope s3) := ⟨rfl, rfl, rfl, by decide +kernel, rfl, by decide +kernel, by decide +kernel⟩
theorem bn3 {K : PySem.W.Frag} {f : Addr} {fd : FuncData} (F : FunD K "are_integers" "are_integers" (defArgs s3) (defBody s3) (defScope s3) [] [] f fd) : Binds K fd P3 [] := F.bindsN fun _ _ _ _ _ _ us hl => match us, hl with | [_, _], _ => rfl
theorem sc4 : FnScope N4 P4 (defScope s4) := ⟨rfl, rfl, rfl, by decide +kernel, rfl, by decide +kernel, by decide +kernel⟩
theorem bn4 {K : PySem.W.Frag} {f : Addr} {fd : FuncData} (F : FunD K "is_statement_form" "is_statement_form" (defArgs s4) (defBody s4) (defScope s4) [] [] f fd) : Binds K fd P4 [] := F.bindsN fun _ _ _ _ _ _ us hl => match us, hl with | [_, _], _ => rfl
theorem sc5 : FnScope N5 P5 (defScope s5) := ⟨rfl, rfl, rfl, by decide +kernel, rfl, by decide +kernel, by decide +kernel⟩
theorem bn5 {K : PySem.W.Frag} {f : Addr} {fd : FuncData} (F : FunD K "number_in" "number_in" (defArgs s5) (defBody s5) (defScope s5) [] [] f fd) : Binds K fd P5 [] := F.bindsN fun _ _ _ _ _ _ us hl => match us, hl with | [_], _ => rfl
theorem sc6 : FnScope N6 P6 (defScope s6) := ⟨rfl, rfl, rfl, by decide +kernel, rfl, by decide +kernel, by decide +kernel⟩
theorem bn6 {K : PySem.W.Frag} {f : Addr} {fd : FuncData} (F : FunD K "lines_of_block" "lines_of_block" (defArgs s6) (defBody s6) (defScope s6) [] [] f fd) : Binds K fd P6 [] := F.bindsN fun _ _ _ _ _ _ us hl => match us, hl with | [_, _], _ => rfl
theorem sc7 : FnScope N7 P7 (defScope s7) := ⟨rfl, rfl, rfl, by decide +kernel, rfl, by decide +kernel, by decide +kernel⟩
theorem bn7 {K : PySem.W.Frag} {f : Addr} {fd : FuncData} (F : FunD K "format_program" "format_program" (defArgs s7) (defBody s7) (defScope s7) [] [] f fd) : Binds K fd P7 [] := F.bindsN fun _ _ _ _ _ _ us hl => match us, hl with | [_], _ => rfl
theorem sc8 : FnScope N8 P8 (defScope s8) := ⟨rfl, rfl, rfl, by decide +kernel, rfl, by decide +kernel, by decide +kernel⟩
theorem bn8 {K : PySem.W.Frag} {f : Addr} {fd : FuncData} (F : FunD K "__init__" "OpenBlock.__init__" (defArgs s8) (defBody s8) (defScope s8) [] [] f fd) : Binds K fd P8 [] := F.bindsN fun _ _ _ _ _ _ us hl => match us, hl with | [_], _ => rfl
theorem sc9 : FnScope N9 P9 (defScope s9) := ⟨rfl, rfl, rfl, by decide +kernel, rfl, by decide +kernel, by decide +kernel⟩
theorem bn9 {K : PySem.W.Frag} {f : Addr} {fd : FuncData} (F : FunD K "finish" "OpenBlock.finish" (defArgs s9) (defBody s9) (defScope s9) [] [] f fd) : Binds K fd P9 [] := F.bindsN fun _ _ _ _ _ _ us hl => match us, hl with | [_], _ => rfl
theorem sc10 : FnScope N10 P10 (defScope s10) := ⟨rfl, rfl, rfl, by decide +kernel, rfl, by decide +kernel, by decide +kernel⟩
theorem bn10 {K : PySem.W.Frag} {f : Addr} {fd : FuncData} (F : FunD K "__init__" "ProgramReader.__init__" (defArgs s10) (defBody s10) (defScope s10) [] [] f fd) : Binds K fd P10 [] := F.bindsN fun _ _ _ _ _ _ us hl => match us, hl with | [_, _], _ => rfl
theorem sc11 : FnScope N11 P11 (defScope s11) := ⟨rfl, rfl, rfl, by decide +kernel, rfl, by decide +kernel, by decide +kernel⟩
theorem bn11 {K : PySem.W.Frag} {f : Addr} {fd : FuncData} (F : FunD K "close_to" "ProgramReader.close_to" (defArgs s11) (defBody s11) (defScope s11) [] [] f fd) : Binds K fd P11 [] := F.bindsN fun _ _ _ _ _ _ us hl => match us, hl with | [_, _], _ => rfl
theorem sc12 : FnScope N12 P12 (defScope s12) := ⟨rfl, rfl, rfl, by decide +kernel, rfl, by decide +kernel, by decide +kernel⟩
theorem bn12 {K : PySem.W.Frag} {f : Addr} {fd : FuncData} (F : FunD K "read" "ProgramReader.read" (defArgs s12) (defBody s12) (defScope s12) [] [] f fd) : Binds K fd P12 [] := F.bindsN fun _ _ _ _ _ _ us hl => match us, hl with | [_, _], _ => rfl
theorem sc13 : FnScope N13 P13 (defScope s13) := ⟨rfl, rfl, rfl, by decide +kernel, rfl, by decide +kernel, by decide +kernel⟩
theorem bn13 {K : PySem.W.Frag} {f : Addr} {fd : FuncData} (F : FunD K "read_statement" "ProgramReader.read_statement" (defArgs s13) (defBody s13) (defScope s13) [] [] f fd) : Binds K fd P13 [] := F.bindsN fun _ _ _ _ _ _ us hl => match us, hl with | [_, _], _ => rfl
theorem sc14 : FnScope N14 P14 (defScope s14) := ⟨rfl, rfl, rfl, by decide +kernel, rfl, by decide +kernel, by decide +kernel⟩
theorem bn14 {K : PySem.W.Frag} {f : Addr} {fd : FuncData} (F : FunD K "parse_program" "parse_program" (defArgs s14) (defBody s14) (defScope s14) [] [] f fd) : Binds K fd P14 [] := F.bindsN fun _ _ _ _ _ _ us hl => match us, hl with | [_], _ => rfl
theorem sc15 : FnScope N15 P15 (defScope s15) := ⟨rfl, rfl, rfl, by decide +kernel, rfl, by decide +kernel, by decide +kernel⟩
theorem bn15 {K : PySem.W.Frag} {f : Addr} {fd : FuncData} (F : FunD K "_law_pen" "_law_pen" (defArgs s15) (defBody s15) (defScope s15) [] [] f fd) : Binds K fd P15 [] := F.bindsN fun _ _ _ _ _ _ us hl => match us, hl with | [_], _ => rfl
theorem sc16 : FnScope N16 P16 (defScope s16) := ⟨rfl, rfl, rfl, by decide +kernel, rfl, by decide +kernel, by decide +kernel⟩
theorem bn16 {K : PySem.W.Frag} {f : Addr} {fd : FuncData} (F : FunD K "_law_fresh" "_law_fresh" (defArgs s16) (defBody s16) (defScope s16) [] [] f fd) : Binds K fd P16 [] := F.bindsN fun _ _ _ _ _ _ us hl => match us, hl with | [_], _ => rfl
theorem sc17 : FnScope N17 P17 (defScope s17) := ⟨rfl, rfl, rfl, by decide +kernel, rfl, by decide +kernel, by decide +kernel⟩
theorem bn17 {K : PySem.W.Frag} {f : Addr} {fd : FuncData} (F : FunD K "_law_draw" "_law_draw" (defArgs s17) (defBody s17) (defScope s17) [] [] f fd) : Binds K fd P17 [] := F.bindsN fun _ _ _ _ _ _ us hl => match us, hl with | [_, _], _ => rfl
theorem sc18 : FnScope N18 P18 (defScope s18) := ⟨rfl, rfl, rfl, by decide +kernel, rfl, by decide +kernel, by decide +kernel⟩
theorem bn18 {K : PySem.W.Frag} {f : Addr} {fd : FuncData} (F : FunD K "_law_blocks" "_law_blocks" (defArgs s18) (defBody s18) (defScope s18) [] [] f fd) : Binds K fd P18 [] := F.bindsN fun _ _ _ _ _ _ us hl => match us, hl with | [_], _ => rfl
theorem sc19 : FnScope N19 P19 (defScope s19) := ⟨rfl, rfl, rfl, by decide +kernel, rfl, by decide +kernel, by decide +kernel⟩
theorem bn19 {K : PySem.W.Frag} {f : Addr} {fd : FuncData} (F : FunD K "_law_statement" "_law_statement" (defArgs s19) (defBody s19) (defScope s19) [] [] f fd) : Binds K fd P19 [] := F.bindsN fun _ _ _ _ _ _ us hl => match us, hl with | [_, _, _, _], _ => rfl
theorem sc20 : FnScope N20 P20 (defScope s20) := ⟨rfl, rfl, rfl, by decide +kernel, rfl, by decide +kernel, by decide +kernel⟩
theorem bn20 {K : PySem.W.Frag} {f : Addr} {fd : FuncData} (F : FunD K "_law_block" "_law_block" (defArgs s20) (defBody s20) (defScope s20) [] [] f fd) : Binds K fd P20 [] := F.bindsN fun _ _ _ _ _ _ us hl => match us, hl with | [_, _, _, _], _ => rfl
theorem sc21 : FnScope N21 P21 (defScope s21) := ⟨rfl, rfl, rfl, by decide +kernel, rfl, by decide +kernel, by decide +kernel⟩
theorem bn21 {K : PySem.W.Frag} {f : Addr} {fd : FuncData} (F : FunD K "_law_program" "_law_program" (defArgs s21) (defBody s21) (defScope s21) [] [] f fd) : Binds K fd P21 [] := F.bindsN fun _ _ _ _ _ _ us hl => match us, hl with | [_, _, _, _, _], _ => rfl
theorem sc22 : FnScope N22 P22 (defScope s22) := ⟨rfl, rfl, rfl, by decide +kernel, rfl, by decide +kernel, by decide +kernel⟩
theorem bn22 {K : PySem.W.Frag} {f : Addr} {fd : FuncData} (F : FunD K "_law_lines" "_law_lines" (defArgs s22) (defBody s22) (defScope s22) [] [] f fd) : Binds K fd P22 [] := F.bindsN fun _ _ _ _ _ _ us hl => match us, hl with | [_, _], _ => rfl
theorem sc23 : FnScope N23 P23 (defScope s23) := ⟨rfl, rfl, rfl, by decide +kernel, rfl, by decide +kernel, by decide +kernel⟩
theorem bn23 {K : PySem.W.Frag} {f : Addr} {fd : FuncData} (F : FunD K "law" "law" (defArgs s23) (defBody s23) (defScope s23) [] [] f fd) : Binds K fd P23 [] := F.bindsN fun _ _ _ _ _ _ us hl => match us, hl with | [_], _ => rfl
abbrev cx (n : Nat) : MI.Ctx := ⟨prog.call 3000 n, prog.meth, prog.fld, 3000⟩
section
variable {P : Program} {w : World} {K : PySem.W.Frag} {mg : Str → Option Value} {base h : Heap} (KX : K.In h) (Gn : h.Ns mainGlobals mg) (SD : He.SaysD fal fnl K) (EX : exB K = true)
include SD in
theorem zero0 : FnT P w K mg base (clA K) 0 (He.fAd K dd0.at_) (prog.call 3000 0 0) := by
  obtain ⟨fd, F⟩ := SD.def_ 0 rfl
  rw [call_zero]
  exact fnT_fail F sc0 (bn0 F)
include SD in
theorem zero1 : FnT P w K mg base (clA K) 0 (He.fAd K dd1.at_) (prog.call 3000 0 1) := by
  obtain ⟨fd, F⟩ := SD.def_ 1 rfl
  rw [call_zero]
  exact fnT_fail F sc1 (bn1 F)
include SD in
theorem zero2 : FnT P w K mg base (clA K) 0 (He.fAd K dd2.at_) (prog.call 3000 0 2) := by
  obtain ⟨fd, F⟩ := SD.def_ 2 rfl
  rw [call_zero]
  exact fnT_fail F sc2 (bn2 F)
include SD in
theorem zero3 : FnT P w K mg base (clA K) 0 (He.fAd K dd3.at_) (prog.call 3000 0 3) := by
  obtain ⟨fd, F⟩ := SD.def_ 3 rfl
  rw [call_zero]
  exact fnT_fail F sc3 (bn3 F)
include SD in
theorem zero4 : FnT P w K mg base (clA K) 0 (He.fAd K dd4.at_) (prog.call 3000 0 4) := by
  obtain ⟨fd, F⟩ := SD.def_ 4 rfl
  rw [call_zero]
  exact fnT_fail F sc4 (bn4 F)
include SD in
theorem zero5 : FnT P w K mg base (clA K) 0 (He.fAd K dd5.at_) (prog.call 3000 0 5) := by
  obtain ⟨fd, F⟩ := SD.def_ 5 rfl
  rw [call_zero]
  exact fnT_fail F sc5 (bn5 F)
include SD in
theorem zero6 : FnT P w K mg base (clA K) 0 (He.fAd K dd6.at_) (prog.call 3000 0 6) := by
  obtain ⟨fd, F⟩ := SD.def_ 6 rfl
  rw [call_zero]
  exact fnT_fail F sc6 (bn6 F)
include SD in
theorem zero7 : FnT P w K mg base (clA K) 0 (He.fAd K dd7.at_) (prog.call 3000 0 7) := by
  obtain ⟨fd, F⟩ := SD.def_ 7 rfl
  rw [call_zero]
  exact fnT_fail F sc7 (bn7 F)
include SD in
theorem zero8 : FnT P w K mg base (clA K) 0 (He.fAd K dd8.at_) (prog.call 3000 0 8) := by
  obtain ⟨fd, F⟩ := SD.def_ 8 rfl
  rw [call_zero]
  exact fnT_fail F sc8 (bn8 F)
include SD in
theorem zero9 : FnT P w K mg base (clA K) 0 (He.fAd K dd9.at_) (prog.call 3000 0 9) := by
  obtain ⟨fd, F⟩ := SD.def_ 9 rfl
  rw [call_zero]
  exact fnT_fail F sc9 (bn9 F)
include SD in
theorem zero10 : FnT P w K mg base (clA K) 0 (He.fAd K dd10.at_) (prog.call 3000 0 10) := by
  obtain ⟨fd, F⟩ := SD.def_ 10 rfl
  rw [call_zero]
  exact fnT_fail F sc10 (bn10 F)
include SD in
theorem zero11 : FnT P w K mg base (clA K) 0 (He.fAd K dd11.at_) (prog.call 3000 0 11) := by
  obtain ⟨fd, F⟩ := SD.def_ 11 rfl
  rw [call_zero]
  exact fnT_fail F sc11 (bn11 F)
include SD in
theorem zero12 : FnT P w K mg base (clA K) 0 (He.fAd K dd12.at_) (prog.call 3000 0 12) := by
  obtain ⟨fd, F⟩ := SD.def_ 12 rfl
  rw [call_zero]
  exact fnT_fail F sc12 (bn12 F)
include SD in
theorem zero13 : FnT P w K mg base (clA K) 0 (He.fAd K dd13.at_) (prog.call 3000 0 13) := by
  obtain ⟨fd, F⟩ := SD.def_ 13 rfl
  rw [call_zero]
  exact fnT_fail F sc13 (bn13 F)
include SD in
theorem zero14 : FnT P w K mg base (clA K) 0 (He.fAd K dd14.at_) (prog.call 3000 0 14) := by
  obtain ⟨fd, F⟩ := SD.def_ 14 rfl
  rw [call_zero]
  exact fnT_fail F sc14 (bn14 F)
include SD in
theorem zero15 : FnT P w K mg base (clA K) 0 (He.fAd K dd15.at_) (prog.call 3000 0 15) := by
  obtain ⟨fd, F⟩ := SD.def_ 15 rfl
  rw [call_zero]
  exact fnT_fail F sc15 (bn15 F)
include SD in
theorem zero16 : FnT P w K mg base (clA K) 0 (He.fAd K dd16.at_) (prog.call 3000 0 16) := by
  obtain ⟨fd, F⟩ := SD.def_ 16 rfl
  rw [call_zero]
  exact fnT_fail F sc16 (bn16 F)
include SD in
theorem zero17 : FnT P w K mg base (clA K) 0 (He.fAd K dd17.at_) (prog.call 3000 0 17) := by
  obtain ⟨fd, F⟩ := SD.def_ 17 rfl
  rw [call_zero]
  exact fnT_fail F sc17 (bn17 F)
include SD in
theorem zero18 : FnT P w K mg base (clA K) 0 (He.fAd K dd18.at_) (prog.call 3000 0 18) := by
  obtain ⟨fd, F⟩ := SD.def_ 18 rfl
  rw [call_zero]
  exact fnT_fail F sc18 (bn18 F)
include SD in
theorem zero19 : FnT P w K mg base (clA K) 0 (He.fAd K dd19.at_) (prog.call 3000 0 19) := by
  obtain ⟨fd, F⟩ := SD.def_ 19 rfl
  rw [call_zero]
  exact fnT_fail F sc19 (bn19 F)
include SD in
theorem zero20 : FnT P w K mg base (clA K) 0 (He.fAd K dd20.at_) (prog.call 3000 0 20) := by
  obtain ⟨fd, F⟩ := SD.def_ 20 rfl
  rw [call_zero]
  exact fnT_fail F sc20 (bn20 F)
include SD in
theorem zero21 : FnT P w K mg base (clA K) 0 (He.fAd K dd21.at_) (prog.call 3000 0 21) := by
  obtain ⟨fd, F⟩ := SD.def_ 21 rfl
  rw [call_zero]
  exact fnT_fail F sc21 (bn21 F)
include SD in
theorem zero22 : FnT P w K mg base (clA K) 0 (He.fAd K dd22.at_) (prog.call 3000 0 22) := by
  obtain ⟨fd, F⟩ := SD.def_ 22 rfl
  rw [call_zero]
  exact fnT_fail F sc22 (bn22 F)
include SD in
theorem zero23 : FnT P w K mg base (clA K) 0 (He.fAd K dd23.at_) (prog.call 3000 0 23) := by
  obtain ⟨fd, F⟩ := SD.def_ 23 rfl
  rw [call_zero]
  exact fnT_fail F sc23 (bn23 F)
include KX Gn SD EX in
theorem mod_of {n : Nat} (ih : AllI (fun i (d : He.DefD) => FnT P w K mg base (clA K) (2 * n) (He.fAd K d.at_) (prog.call 3000 n i)) 0 fnl) : MD P w K mg base (clA K) (cx n) (2 * n) where
  fn := fun i x f e => AllI.get (p := fun _ (q : Str × Nat) => ∃ fA, mg q.1 = some (.ref fA) ∧ FnT P w K mg base (clA K) (2 * n) fA (prog.call 3000 n q.2)) (l := fns) (k := 0) ⟨⟨He.ga K "is_integer", He.glo_ok KX Gn (SD.fact 0 rfl), ih.get (i := 1) rfl⟩, ⟨He.ga K "are_integers", He.glo_ok KX Gn (SD.fact 1 rfl), ih.get (i := 3) rfl⟩, ⟨He.ga K "blocks_of", He.glo_ok KX Gn (SD.fact 2 rfl), ih.get (i := 2) rfl⟩, ⟨He.ga K "lines_of_block", He.glo_ok KX Gn (SD.fact 3 rfl), ih.get (i := 6) rfl⟩, ⟨He.ga K "number_in", He.glo_ok KX Gn (SD.fact 4 rfl), ih.get (i := 5) rfl⟩, ⟨He.ga K "is_statement_form", He.glo_ok KX Gn (SD.fact 5 rfl), ih.get (i := 4) rfl⟩, ⟨He.ga K "_law_fresh", He.glo_ok KX Gn (SD.fact 6 rfl), ih.get (i := 16) rfl⟩, ⟨He.ga K "_law_draw", He.glo_ok KX Gn (SD.fact 7 rfl), ih.get (i := 17) rfl⟩, ⟨He.ga K "_law_block", He.glo_ok KX Gn (SD.fact 8 rfl), ih.get (i := 20) rfl⟩, ⟨He.ga K "_law_statement", He.glo_ok KX Gn (SD.fact 9 rfl), ih.get (i := 19) rfl⟩, ⟨He.ga K "_law_blocks", He.glo_ok KX Gn (SD.fact 10 rfl), ih.get (i := 18) rfl⟩, ⟨He.ga K "_law_lines", He.glo_ok KX Gn (SD.fact 11 rfl), ih.get (i := 22) rfl⟩, ⟨He.ga K "_law_pen", He.glo_ok KX Gn (SD.fact 12 rfl), ih.get (i := 15) rfl⟩, ⟨He.ga K "_law_program", He.glo_ok KX Gn (SD.fact 13 rfl), ih.get (i := 21) rfl⟩, ⟨He.ga K "parse_program", He.glo_ok KX Gn (SD.fact 14 rfl), ih.get (i := 14) rfl⟩, ⟨He.ga K "format_program", He.glo_ok KX Gn (SD.fact 15 rfl), ih.get (i := 7) rfl⟩, trivial⟩ e
  cl := fun i x k f e => AllI.get (p := fun _ (q : Str × Nat × Nat) => mg q.1 = some (.ref (clA K q.2.1)) ∧ Cls K (clA K q.2.1) ∧ ∃ fA, Mk K (clA K q.2.1) fA ∧ FnT P w K mg base (clA K) (2 * n) fA (prog.call 3000 n q.2.2)) (l := clss) (k := 0) ⟨⟨He.glo_ok KX Gn (SD.fact 16 rfl), He.cls_ok (SD.fact 17 rfl), _, He.mkr_ok (SD.fact 18 rfl), ih.get (i := 8) rfl⟩, ⟨He.glo_ok KX Gn (SD.fact 19 rfl), He.cls_ok (SD.fact 20 rfl), _, He.mkr_ok (SD.fact 21 rfl), ih.get (i := 10) rfl⟩, trivial⟩ e
  fr := fun i x e => AllI.get (p := fun _ (q : Str) => mg q = none) (l := frees) (k := 0) ⟨He.free_ok KX Gn (SD.fact 22 rfl), He.free_ok KX Gn (SD.fact 23 rfl), He.free_ok KX Gn (SD.fact 24 rfl), He.free_ok KX Gn (SD.fact 25 rfl), He.free_ok KX Gn (SD.fact 26 rfl), He.free_ok KX Gn (SD.fact 27 rfl), He.free_ok KX Gn (SD.fact 28 rfl), He.free_ok KX Gn (SD.fact 29 rfl), He.free_ok KX Gn (SD.fact 30 rfl), He.free_ok KX Gn (SD.fact 31 rfl), He.free_ok KX Gn (SD.fact 32 rfl), trivial⟩ e
  con := fun i x d e => AllI.get (p := fun _ (q : Str × D) => ConM K mg q.1 q.2) (l := cons) (k := 0) ⟨(by obtain ⟨t, e⟩ := He.int_ok KX Gn (SD.fact 33 rfl); exact ⟨_, .int 7, e, ⟨t, rfl⟩, fun H ρ => .int _⟩), (by obtain ⟨t, e⟩ := He.int_ok KX Gn (SD.fact 34 rfl); exact ⟨_, .int 9, e, ⟨t, rfl⟩, fun H ρ => .int _⟩), (by obtain ⟨t, e⟩ := He.str_ok KX Gn (SD.fact 35 rfl); exact ⟨_, .str (sD w_0123456789), e, ⟨t, rfl⟩, fun H ρ => .str _⟩), ⟨_, .ref (He.ga K "SPOT_WORDS"), He.glo_ok KX Gn (SD.fact 36 rfl), rfl, fun H ρ => .tup (He.tupB_ok (exK0 EX) H) (.cons (.str _) (.cons (.str _) (.cons (.str _) .nil)))⟩, (by obtain ⟨t, e⟩ := He.int_ok KX Gn (SD.fact 37 rfl); exact ⟨_, .int 12, e, ⟨t, rfl⟩, fun H ρ => .int _⟩), (by obtain ⟨t, e⟩ := He.int_ok KX Gn (SD.fact 38 rfl); exact ⟨_, .int 40, e, ⟨t, rfl⟩, fun H ρ => .int _⟩), (by obtain ⟨t, e⟩ := He.int_ok KX Gn (SD.fact 39 rfl); exact ⟨_, .int 8, e, ⟨t, rfl⟩, fun H ρ => .int _⟩), (by obtain ⟨t, e⟩ := He.int_ok KX Gn (SD.fact 40 rfl); exact ⟨_, .int 5, e, ⟨t, rfl⟩, fun H ρ => .int _⟩), ⟨_, .ref (He.ga K "PLAIN_WORDS"), He.glo_ok KX Gn (SD.fact 41 rfl), rfl, fun H ρ => .tup (He.tupB_ok (exK1 EX) H) (.cons (.str _) (.cons (.str _) (.cons (.str _) (.cons (.str _) .nil))))⟩, (by obtain ⟨t, e⟩ := He.int_ok KX Gn (SD.fact 42 rfl); exact ⟨_, .int 4, e, ⟨t, rfl⟩, fun H ρ => .int _⟩), trivial⟩ e
include SD in
theorem meths_of {n : Nat} (ih : AllI (fun i (d : He.DefD) => FnT P w K mg base (clA K) (2 * n) (He.fAd K d.at_) (prog.call 3000 n i)) 0 fnl) : AllI (fun _ (x : Nat × List Nat × Nat) => ∃ fA, Meth K (clA K x.1) (sD x.2.1) fA ∧ FnT P w K mg base (clA K) (2 * n) fA (prog.call 3000 n x.2.2)) 0 prog.meths := ⟨⟨_, He.meth_ok (SD.fact 43 rfl), ih.get (i := 9) rfl⟩, ⟨_, He.meth_ok (SD.fact 44 rfl), ih.get (i := 11) rfl⟩, ⟨_, He.meth_ok (SD.fact 45 rfl), ih.get (i := 12) rfl⟩, ⟨_, He.meth_ok (SD.fact 46 rfl), ih.get (i := 13) rfl⟩, trivial⟩
include SD in
theorem flds_of : AllI (fun _ (x : Nat × List Nat) => NoAttr K (clA K x.1) (sD x.2) ∧ Cls K (clA K x.1)) 0 prog.flds := ⟨⟨He.noat_ok (SD.fact 47 rfl), He.cls_ok (SD.fact 17 rfl)⟩, ⟨He.noat_ok (SD.fact 48 rfl), He.cls_ok (SD.fact 17 rfl)⟩, ⟨He.noat_ok (SD.fact 49 rfl), He.cls_ok (SD.fact 17 rfl)⟩, ⟨He.noat_ok (SD.fact 50 rfl), He.cls_ok (SD.fact 20 rfl)⟩, ⟨He.noat_ok (SD.fact 51 rfl), He.cls_ok (SD.fact 20 rfl)⟩, ⟨He.noat_ok (SD.fact 52 rfl), He.cls_ok (SD.fact 20 rfl)⟩, ⟨He.noat_ok (SD.fact 53 rfl), He.cls_ok (SD.fact 20 rfl)⟩, trivial⟩
include KX Gn SD EX in
theorem step0 {n : Nat} (ih : AllI (fun i (d : He.DefD) => FnT P w K mg base (clA K) (2 * n) (He.fAd K d.at_) (prog.call 3000 n i)) 0 fnl) : FnT P w K mg base (clA K) (2 * (n + 1)) (He.fAd K dd0.at_) (prog.call 3000 (n + 1) 0) := by
  obtain ⟨fd, F⟩ := SD.def_ 0 rfl
  exact fnT_call rfl (fnT_body ⟨2, 2, b_ParseError____init__⟩ F sc0 (bn0 F) rfl rfl (fld_of (flds_of SD)) (meth_of (meths_of SD ih)) fun cdv A outer s H E G po => der0 (mod_of KX Gn SD EX ih) _ cdv A outer s H E G po)
include KX Gn SD EX in
theorem step1 {n : Nat} (ih : AllI (fun i (d : He.DefD) => FnT P w K mg base (clA K) (2 * n) (He.fAd K d.at_) (prog.call 3000 n i)) 0 fnl) : FnT P w K mg base (clA K) (2 * (n + 1)) (He.fAd K dd1.at_) (prog.call 3000 (n + 1) 1) := by
  obtain ⟨fd, F⟩ := SD.def_ 1 rfl
  exact fnT_call rfl (fnT_body ⟨3, 3, b_is_integer⟩ F sc1 (bn1 F) rfl rfl (fld_of (flds_of SD)) (meth_of (meths_of SD ih)) fun cdv A outer s H E G po => der1 (mod_of KX Gn SD EX ih) _ cdv A outer s H E G po)
include KX Gn SD EX in
theorem step2 {n : Nat} (ih : AllI (fun i (d : He.DefD) => FnT P w K mg base (clA K) (2 * n) (He.fAd K d.at_) (prog.call 3000 n i)) 0 fnl) : FnT P w K mg base (clA K) (2 * (n + 1)) (He.fAd K dd2.at_) (prog.call 3000 (n + 1) 2) := by
  obtain ⟨fd, F⟩ := SD.def_ 2 rfl
  exact fnT_call rfl (fnT_body ⟨1, 1, b_blocks_of⟩ F sc2 (bn2 F) rfl rfl (fld_of (flds_of SD)) (meth_of (meths_of SD ih)) fun cdv A outer s H E G po => der2 (mod_of KX Gn SD EX ih) _ cdv A outer s H E G po)
include KX Gn SD EX in
theorem step3 {n : Nat} (ih : AllI (fun i (d : He.DefD) => FnT P w K mg base (clA K) (2 * n) (He.fAd K d.at_) (prog.call 3000 n i)) 0 fnl) : FnT P w K mg base (clA K) (2 * (n + 1)) (He.fAd K dd3.at_) (prog.call 3000 (n + 1) 3) := by
  obtain ⟨fd, F⟩ := SD.def_ 3 rfl
  exact fnT_call rfl (fnT_body ⟨2, 4, b_are_integers⟩ F sc3 (bn3 F) rfl rfl (fld_of (flds_of SD)) (meth_of (meths_of SD ih)) fun cdv A outer s H E G po => der3 (mod_of KX Gn SD EX ih) _ cdv A outer s H E G po)
include KX Gn SD EX in
theorem step4 {n : Nat} (ih : AllI (fun i (d : He.DefD) => FnT P w K mg base (clA K) (2 * n) (He.fAd K d.at_) (prog.call 3000 n i)) 0 fnl) : FnT P w K mg base (clA K) (2 * (n + 1)) (He.fAd K dd4.at_) (prog.call 3000 (n + 1) 4) := by
  obtain ⟨fd, F⟩ := SD.def_ 4 rfl
  exact fnT_call rfl (fnT_body ⟨2, 5, b_is_statement_form⟩ F sc4 (bn4 F) rfl rfl (fld_of (flds_of SD)) (meth_of (meths_of SD ih)) fun cdv A outer s H E G po => der4 (mod_of KX Gn SD EX ih) _ cdv A outer s H E G po)
include KX Gn SD EX in
theorem step5 {n : Nat} (ih : AllI (fun i (d : He.DefD) => FnT P w K mg base (clA K) (2 * n) (He.fAd K d.at_) (prog.call 3000 n i)) 0 fnl) : FnT P w K mg base (clA K) (2 * (n + 1)) (He.fAd K dd5.at_) (prog.call 3000 (n + 1) 5) := by
  obtain ⟨fd, F⟩ := SD.def_ 5 rfl
  exact fnT_call rfl (fnT_body ⟨1, 1, b_number_in⟩ F sc5 (bn5 F) rfl rfl (fld_of (flds_of SD)) (meth_of (meths_of SD ih)) fun cdv A outer s H E G po => der5 (mod_of KX Gn SD EX ih) _ cdv A outer s H E G po)
include KX Gn SD EX in
theorem step6 {n : Nat} (ih : AllI (fun i (d : He.DefD) => FnT P w K mg base (clA K) (2 * n) (He.fAd K d.at_) (prog.call 3000 n i)) 0 fnl) : FnT P w K mg base (clA K) (2 * (n + 1)) (He.fAd K dd6.at_) (prog.call 3000 (n + 1) 6) := by
  obtain ⟨fd, F⟩ := SD.def_ 6 rfl
  exact fnT_call rfl (fnT_body ⟨2, 8, b_lines_of_block⟩ F sc6 (bn6 F) rfl rfl (fld_of (flds_of SD)) (meth_of (meths_of SD ih)) fun cdv A outer s H E G po => der6 (mod_of KX Gn SD EX ih) _ cdv A outer s H E G po)
include KX Gn SD EX in
theorem step7 {n : Nat} (ih : AllI (fun i (d : He.DefD) => FnT P w K mg base (clA K) (2 * n) (He.fAd K d.at_) (prog.call 3000 n i)) 0 fnl) : FnT P w K mg base (clA K) (2 * (n + 1)) (He.fAd K dd7.at_) (prog.call 3000 (n + 1) 7) := by
  obtain ⟨fd, F⟩ := SD.def_ 7 rfl
  exact fnT_call rfl (fnT_body ⟨1, 3, b_format_program⟩ F sc7 (bn7 F) rfl rfl (fld_of (flds_of SD)) (meth_of (meths_of SD ih)) fun cdv A outer s H E G po => der7 (mod_of KX Gn SD EX ih) _ cdv A outer s H E G po)
include KX Gn SD EX in
theorem step8 {n : Nat} (ih : AllI (fun i (d : He.DefD) => FnT P w K mg base (clA K) (2 * n) (He.fAd K d.at_) (prog.call 3000 n i)) 0 fnl) : FnT P w K mg base (clA K) (2 * (n + 1)) (He.fAd K dd8.at_) (prog.call 3000 (n + 1) 8) := by
  obtain ⟨fd, F⟩ := SD.def_ 8 rfl
  exact fnT_call rfl (fnT_body ⟨1, 1, b_OpenBlock____init__⟩ F sc8 (bn8 F) rfl rfl (fld_of (flds_of SD)) (meth_of (meths_of SD ih)) fun cdv A outer s H E G po => der8 (mod_of KX Gn SD EX ih) _ cdv A outer s H E G po)
include KX Gn SD EX in
theorem step9 {n : Nat} (ih : AllI (fun i (d : He.DefD) => FnT P w K mg base (clA K) (2 * n) (He.fAd K d.at_) (prog.call 3000 n i)) 0 fnl) : FnT P w K mg base (clA K) (2 * (n + 1)) (He.fAd K dd9.at_) (prog.call 3000 (n + 1) 9) := by
  obtain ⟨fd, F⟩ := SD.def_ 9 rfl
  exact fnT_call rfl (fnT_body ⟨1, 1, b_OpenBlock__finish⟩ F sc9 (bn9 F) rfl rfl (fld_of (flds_of SD)) (meth_of (meths_of SD ih)) fun cdv A outer s H E G po => der9 (mod_of KX Gn SD EX ih) _ cdv A outer s H E G po)
include KX Gn SD EX in
theorem step10 {n : Nat} (ih : AllI (fun i (d : He.DefD) => FnT P w K mg base (clA K) (2 * n) (He.fAd K d.at_) (prog.call 3000 n i)) 0 fnl) : FnT P w K mg base (clA K) (2 * (n + 1)) (He.fAd K dd10.at_) (prog.call 3000 (n + 1) 10) := by
  obtain ⟨fd, F⟩ := SD.def_ 10 rfl
  exact fnT_call rfl (fnT_body ⟨2, 2, b_ProgramReader____init__⟩ F sc10 (bn10 F) rfl rfl (fld_of (flds_of SD)) (meth_of (meths_of SD ih)) fun cdv A outer s H E G po => der10 (mod_of KX Gn SD EX ih) _ cdv A outer s H E G po)
include KX Gn SD EX in
theorem step11 {n : Nat} (ih : AllI (fun i (d : He.DefD) => FnT P w K mg base (clA K) (2 * n) (He.fAd K d.at_) (prog.call 3000 n i)) 0 fnl) : FnT P w K mg base (clA K) (2 * (n + 1)) (He.fAd K dd11.at_) (prog.call 3000 (n + 1) 11) := by
  obtain ⟨fd, F⟩ := SD.def_ 11 rfl
  exact fnT_call rfl (fnT_body ⟨2, 3, b_ProgramReader__close_to⟩ F sc11 (bn11 F) rfl rfl (fld_of (flds_of SD)) (meth_of (meths_of SD ih)) fun cdv A outer s H E G po => der11 (mod_of KX Gn SD EX ih) _ cdv A outer s H E G po)
include KX Gn SD EX in
theorem step12 {n : Nat} (ih : AllI (fun i (d : He.DefD) => FnT P w K mg base (clA K) (2 * n) (He.fAd K d.at_) (prog.call 3000 n i)) 0 fnl) : FnT P w K mg base (clA K) (2 * (n + 1)) (He.fAd K dd12.at_) (prog.call 3000 (n + 1) 12) := by
  obtain ⟨fd, F⟩ := SD.def_ 12 rfl
  exact fnT_call rfl (fnT_body ⟨2, 5, b_ProgramReader__read⟩ F sc12 (bn12 F) rfl rfl (fld_of (flds_of SD)) (meth_of (meths_of SD ih)) fun cdv A outer s H E G po => der12 (mod_of KX Gn SD EX ih) _ cdv A outer s H E G po)
include KX Gn SD EX in
theorem step13 {n : Nat} (ih : AllI (fun i (d : He.DefD) => FnT P w K mg base (clA K) (2 * n) (He.fAd K d.at_) (prog.call 3000 n i)) 0 fnl) : FnT P w K mg base (clA K) (2 * (n + 1)) (He.fAd K dd13.at_) (prog.call 3000 (n + 1) 13) := by
  obtain ⟨fd, F⟩ := SD.def_ 13 rfl
  exact fnT_call rfl (fnT_body ⟨2, 5, b_ProgramReader__read_statement⟩ F sc13 (bn13 F) rfl rfl (fld_of (flds_of SD)) (meth_of (meths_of SD ih)) fun cdv A outer s H E G po => der13 (mod_of KX Gn SD EX ih) _ cdv A outer s H E G po)
include KX Gn SD EX in
theorem step14 {n : Nat} (ih : AllI (fun i (d : He.DefD) => FnT P w K mg base (clA K) (2 * n) (He.fAd K d.at_) (prog.call 3000 n i)) 0 fnl) : FnT P w K mg base (clA K) (2 * (n + 1)) (He.fAd K dd14.at_) (prog.call 3000 (n + 1) 14) := by
  obtain ⟨fd, F⟩ := SD.def_ 14 rfl
  exact fnT_call rfl (fnT_body ⟨1, 7, b_parse_program⟩ F sc14 (bn14 F) rfl rfl (fld_of (flds_of SD)) (meth_of (meths_of SD ih)) fun cdv A outer s H E G po => der14 (mod_of KX Gn SD EX ih) _ cdv A outer s H E G po)
include KX Gn SD EX in
theorem step15 {n : Nat} (ih : AllI (fun i (d : He.DefD) => FnT P w K mg base (clA K) (2 * n) (He.fAd K d.at_) (prog.call 3000 n i)) 0 fnl) : FnT P w K mg base (clA K) (2 * (n + 1)) (He.fAd K dd15.at_) (prog.call 3000 (n + 1) 15) := by
  obtain ⟨fd, F⟩ := SD.def_ 15 rfl
  exact fnT_call rfl (fnT_body ⟨1, 1, b__law_pen⟩ F sc15 (bn15 F) rfl rfl (fld_of (flds_of SD)) (meth_of (meths_of SD ih)) fun cdv A outer s H E G po => der15 (mod_of KX Gn SD EX ih) _ cdv A outer s H E G po)
include KX Gn SD EX in
theorem step16 {n : Nat} (ih : AllI (fun i (d : He.DefD) => FnT P w K mg base (clA K) (2 * n) (He.fAd K d.at_) (prog.call 3000 n i)) 0 fnl) : FnT P w K mg base (clA K) (2 * (n + 1)) (He.fAd K dd16.at_) (prog.call 3000 (n + 1) 16) := by
  obtain ⟨fd, F⟩ := SD.def_ 16 rfl
  exact fnT_call rfl (fnT_body ⟨1, 7, b__law_fresh⟩ F sc16 (bn16 F) rfl rfl (fld_of (flds_of SD)) (meth_of (meths_of SD ih)) fun cdv A outer s H E G po => der16 (mod_of KX Gn SD EX ih) _ cdv A outer s H E G po)
include KX Gn SD EX in
theorem step17 {n : Nat} (ih : AllI (fun i (d : He.DefD) => FnT P w K mg base (clA K) (2 * n) (He.fAd K d.at_) (prog.call 3000 n i)) 0 fnl) : FnT P w K mg base (clA K) (2 * (n + 1)) (He.fAd K dd17.at_) (prog.call 3000 (n + 1) 17) := by
  obtain ⟨fd, F⟩ := SD.def_ 17 rfl
  exact fnT_call rfl (fnT_body ⟨2, 3, b__law_draw⟩ F sc17 (bn17 F) rfl rfl (fld_of (flds_of SD)) (meth_of (meths_of SD ih)) fun cdv A outer s H E G po => der17 (mod_of KX Gn SD EX ih) _ cdv A outer s H E G po)
include KX Gn SD EX in
theorem step18 {n : Nat} (ih : AllI (fun i (d : He.DefD) => FnT P w K mg base (clA K) (2 * n) (He.fAd K d.at_) (prog.call 3000 n i)) 0 fnl) : FnT P w K mg base (clA K) (2 * (n + 1)) (He.fAd K dd18.at_) (prog.call 3000 (n + 1) 18) := by
  obtain ⟨fd, F⟩ := SD.def_ 18 rfl
  exact fnT_call rfl (fnT_body ⟨1, 1, b__law_blocks⟩ F sc18 (bn18 F) rfl rfl (fld_of (flds_of SD)) (meth_of (meths_of SD ih)) fun cdv A outer s H E G po => der18 (mod_of KX Gn SD EX ih) _ cdv A outer s H E G po)
include KX Gn SD EX in
theorem step19 {n : Nat} (ih : AllI (fun i (d : He.DefD) => FnT P w K mg base (clA K) (2 * n) (He.fAd K d.at_) (prog.call 3000 n i)) 0 fnl) : FnT P w K mg base (clA K) (2 * (n + 1)) (He.fAd K dd19.at_) (prog.call 3000 (n + 1) 19) := by
  obtain ⟨fd, F⟩ := SD.def_ 19 rfl
  exact fnT_call rfl (fnT_body ⟨4, 9, b__law_statement⟩ F sc19 (bn19 F) rfl rfl (fld_of (flds_of SD)) (meth_of (meths_of SD ih)) fun cdv A outer s H E G po => der19 (mod_of KX Gn SD EX ih) _ cdv A outer s H E G po)
include KX Gn SD EX in
theorem step20 {n : Nat} (ih : AllI (fun i (d : He.DefD) => FnT P w K mg base (clA K) (2 * n) (He.fAd K d.at_) (prog.call 3000 n i)) 0 fnl) : FnT P w K mg base (clA K) (2 * (n + 1)) (He.fAd K dd20.at_) (prog.call 3000 (n + 1) 20) := by
  obtain ⟨fd, F⟩ := SD.def_ 20 rfl
  exact fnT_call rfl (fnT_body ⟨4, 6, b__law_block⟩ F sc20 (bn20 F) rfl rfl (fld_of (flds_of SD)) (meth_of (meths_of SD ih)) fun cdv A outer s H E G po => der20 (mod_of KX Gn SD EX ih) _ cdv A outer s H E G po)
include KX Gn SD EX in
theorem step21 {n : Nat} (ih : AllI (fun i (d : He.DefD) => FnT P w K mg base (clA K) (2 * n) (He.fAd K d.at_) (prog.call 3000 n i)) 0 fnl) : FnT P w K mg base (clA K) (2 * (n + 1)) (He.fAd K dd21.at_) (prog.call 3000 (n + 1) 21) := by
  obtain ⟨fd, F⟩ := SD.def_ 21 rfl
  exact fnT_call rfl (fnT_body ⟨5, 8, b__law_program⟩ F sc21 (bn21 F) rfl rfl (fld_of (flds_of SD)) (meth_of (meths_of SD ih)) fun cdv A outer s H E G po => der21 (mod_of KX Gn SD EX ih) _ cdv A outer s H E G po)
include KX Gn SD EX in
theorem step22 {n : Nat} (ih : AllI (fun i (d : He.DefD) => FnT P w K mg base (clA K) (2 * n) (He.fAd K d.at_) (prog.call 3000 n i)) 0 fnl) : FnT P w K mg base (clA K) (2 * (n + 1)) (He.fAd K dd22.at_) (prog.call 3000 (n + 1) 22) := by
  obtain ⟨fd, F⟩ := SD.def_ 22 rfl
  exact fnT_call rfl (fnT_body ⟨2, 8, b__law_lines⟩ F sc22 (bn22 F) rfl rfl (fld_of (flds_of SD)) (meth_of (meths_of SD ih)) fun cdv A outer s H E G po => der22 (mod_of KX Gn SD EX ih) _ cdv A outer s H E G po)
include KX Gn SD EX in
theorem step23 {n : Nat} (ih : AllI (fun i (d : He.DefD) => FnT P w K mg base (clA K) (2 * n) (He.fAd K d.at_) (prog.call 3000 n i)) 0 fnl) : FnT P w K mg base (clA K) (2 * (n + 1)) (He.fAd K dd23.at_) (prog.call 3000 (n + 1) 23) := by
  obtain ⟨fd, F⟩ := SD.def_ 23 rfl
  exact fnT_call rfl (fnT_body ⟨1, 9, b_law⟩ F sc23 (bn23 F) rfl rfl (fld_of (flds_of SD)) (meth_of (meths_of SD ih)) fun cdv A outer s H E G po => der23 (mod_of KX Gn SD EX ih) _ cdv A outer s H E G po)
include KX Gn SD EX in
theorem allOk : ∀ n, AllI (fun i (d : He.DefD) => FnT P w K mg base (clA K) (2 * n) (He.fAd K d.at_) (prog.call 3000 n i)) 0 fnl
  | 0 => ⟨zero0 SD, zero1 SD, zero2 SD, zero3 SD, zero4 SD, zero5 SD, zero6 SD, zero7 SD, zero8 SD, zero9 SD, zero10 SD, zero11 SD, zero12 SD, zero13 SD, zero14 SD, zero15 SD, zero16 SD, zero17 SD, zero18 SD, zero19 SD, zero20 SD, zero21 SD, zero22 SD, zero23 SD, trivial⟩
  | n + 1 => ⟨step0 KX Gn SD EX (allOk n), step1 KX Gn SD EX (allOk n), step2 KX Gn SD EX (allOk n), step3 KX Gn SD EX (allOk n), step4 KX Gn SD EX (allOk n), step5 KX Gn SD EX (allOk n), step6 KX Gn SD EX (allOk n), step7 KX Gn SD EX (allOk n), step8 KX Gn SD EX (allOk n), step9 KX Gn SD EX (allOk n), step10 KX Gn SD EX (allOk n), step11 KX Gn SD EX (allOk n), step12 KX Gn SD EX (allOk n), step13 KX Gn SD EX (allOk n), step14 KX Gn SD EX (allOk n), step15 KX Gn SD EX (allOk n), step16 KX Gn SD EX (allOk n), step17 KX Gn SD EX (allOk n), step18 KX Gn SD EX (allOk n), step19 KX Gn SD EX (allOk n), step20 KX Gn SD EX (allOk n), step21 KX Gn SD EX (allOk n), step22 KX Gn SD EX (allOk n), step23 KX Gn SD EX (allOk n), trivial⟩
end
abbrev lawM : List D → MI.R D := (⟨1, 9, b_law⟩ : MI.Fn).run (cx 100)
theorem law_ok {P : Program} {w : World} {K : PySem.W.Frag} {mg : Str → Option Value} {base h : Heap} (KX : K.In h) (Gn : h.Ns mainGlobals mg) (SD : He.SaysD fal fnl K) (EX : exB K = true) {fd : FuncData} (F : FunD K "law" "law" (defArgs s23) (defBody s23) (defScope s23) [] [] (He.ga K "law") fd) :
    MS.FnOk P w K mg base (L2.CX P w) (2 * 100 + 2) (He.ga K "law") fd ["script"] (spOf K (clA K) 1 lawM) :=
  fnOk_body (ps := P23) ⟨1, 9, b_law⟩ F sc23 (bn23 F) rfl rfl (fld_of (flds_of SD)) (meth_of (meths_of SD (allOk KX Gn SD EX 100))) fun cdv A outer s H E G po => der23 (mod_of KX Gn SD EX (allOk KX Gn SD EX 100)) _ cdv A outer s H E G po
theorem law_holds (pure : ∀ ns : List Int, ns.length ≤ 63 → ∃ st, lawM [.frz (ns.map D.int)] [] = some (.ok (.bl true), st)) : PySem.Challenge.rw_copyplaces_k77_programs_written_and_read.Holds := by
  open PySem PySem.W PySem.Calls PyProof.Rows in
  w_on; o_law
  refine HandSHeadRun.head_any (r := OpenLaw.row PySem.Challenge.rw_copyplaces_k77_programs_written_and_read) (q := view (OpenLaw.row PySem.Challenge.rw_copyplaces_k77_programs_written_and_read).prog [33]) (H := Dv.hk) (ob := Dv.ob) (M := 4000) (loose := Dv.loose) (d := HandSHeadRun.topDef (OpenLaw.row PySem.Challenge.rw_copyplaces_k77_programs_written_and_read).prog 33) (kwd := []) Dv.ob_eq
    (by kernel_rfl) (fun s => by kernel_rfl) Dv.run (by kernel_rfl) (by kernel_rfl) (by kernel_rfl) (by rfl) (by first | assumption | decide +kernel) (by decide +kernel) ⟨rfl, rfl, rfl, rfl, rfl, by decide +kernel⟩ ?hw ?hc
  case hw => w_witness2
  case hc =>
    refine MS.walk_ofG (l := PySem.Challenge.rw_copyplaces_k77_programs_written_and_read) (n := 63) (k := 2 * 100 + 2) (x := "script") (C := L2.CX0) rfl (by decide) (by kernel_rfl) ⟨rfl, by decide, by decide⟩ ?F (fun _ _ _ _ z => z)
    intro w mg fa h Y G hmg0
    obtain ⟨K, KX, SD, EX⟩ := Y
    have hmg : mg ("law" : PySem.Str) = some (.ref fa) := by
      have e : (HandSHeadRun.topDef (OpenLaw.row PySem.Challenge.rw_copyplaces_k77_programs_written_and_read).prog 33).name = ("law" : PySem.Str) := by kernel_rfl
      rw [← e]
      exact hmg0
    obtain ⟨fd, F⟩ := SD.def_ 23 rfl
    have e := hmg.symm.trans (He.glo_ok KX G (SD.fact 54 rfl))
    cases e
    exact ⟨K, fd, fun vs H Q _ => spOf K (clA K) 1 lawM vs H Q fun _ _ _ => False, KX, FunD.bindsA (ps := ["script"]) F (fun _ _ _ _ _ _ us hl => match us, hl with | [_], _ => rfl) |> fun b s v => b s [v] rfl, fun H a ns hl hO hS => sp_law pure hl hO hS, fun base _ _ => fnOk_none (law_ok KX G SD EX F)⟩
end Dv

set_option autoImplicit false
set_option maxRecDepth 100000
set_option linter.all false
/-! R0: running MI's combinators on plain data. -/
namespace MI
theorem call_np {p : Prog} {fuel n f : Nat} {fn : Fn} (h : p.fns[f]? = some fn) (hp : p.pures.contains f = false) : p.call fuel (n + 1) f = fn.run ⟨p.call fuel n, p.meth, p.fld, fuel⟩ := by
  rw [Prog.call, h]
  show (if p.pures.contains f = true then _ else _) = _
  rw [if_neg (by rw [hp]; decide)]
theorem call_p {p : Prog} {fuel n f : Nat} {fn : Fn} (h : p.fns[f]? = some fn) (hp : p.pures.contains f = true) : p.call fuel (n + 1) f = optC (fn.run ⟨p.call fuel n, p.meth, p.fld, fuel⟩) := by
  rw [Prog.call, h]
  show (if p.pures.contains f = true then _ else _) = _
  rw [if_pos hp]
mutual
theorem eqv_refl : ∀ (n : Nat) (d : D), D.ok n d = true → D.eqv d d = true
  | _, .non, _ => rfl
  | _, .bl b, _ => by simp [D.eqv]
  | _, .int b, _ => by simp [D.eqv]
  | _, .str b, _ => by simp [D.eqv]
  | 0, .tup _, h => by simp [D.ok] at h
  | n + 1, .tup l, h => by
    simp only [D.ok, Bool.and_eq_true] at h
    simp only [D.eqv]; exact eqvL_refl n l h.2
  | 0, .xtup _, h => by simp [D.ok] at h
  | n + 1, .xtup l, h => by
    simp only [D.ok, Bool.and_eq_true] at h
    simp only [D.eqv]; exact eqvL_refl n l h.2
  | 0, .frz _, h => by simp [D.ok] at h
  | n + 1, .frz l, h => by
    simp only [D.ok, Bool.and_eq_true] at h
    simp only [D.eqv]; exact eqvL_refl n l h.2
  | _, .loc _, h => by simp [D.ok] at h
theorem eqvL_refl : ∀ (n : Nat) (l : List D), D.okL n l = true → D.eqvL l l = true
  | _, [], _ => rfl
  | n, x :: xs, h => by
    simp only [D.okL, Bool.and_eq_true] at h
    simp only [D.eqvL, Bool.and_eq_true]
    exact ⟨eqv_refl n x h.1, eqvL_refl n xs h.2⟩
end
theorem dat_self {d : D} {st : Stt} {n : Nat} (h : D.ok n d = true) : dat d st = some d := by
  cases d <;> first | rfl | simp [D.ok] at h
/-! ### plain calls -/
theorem opt_run {g : List D → R D} {ds : List D} {st st' : Stt} {d : D} (ha : D.lfL ds = true) (h : g ds [] = some (.ok d, st')) (hn : ∀ n, d ≠ .loc n) (hd : D.lf d = true) : optC g ds st = some (.ok d, st) := by
  unfold optC
  rw [if_pos ha, h]
  cases d with
  | loc n => exact absurd rfl (hn n)
  | _ => simp only [hd, if_true]
theorem opt_lst {g : List D → R D} {ds : List D} {st st' : Stt} {n : Nat} {l : List D} (ha : D.lfL ds = true) (h : g ds [] = some (.ok (.loc n), st')) (hn : st'[n]? = some (.lst l)) (hd : D.lfL l = true) : optC g ds st = some (.ok (.frz l), st) := by
  unfold optC
  rw [if_pos ha, h]
  simp only [hn, hd, if_true]
theorem ret_run {e : SE} {c : Ctx} {env : Env} {st st' : Stt} {d : D} (h : e c env st = some (.ok d, st')) : sRet e c env st = some (.rt d, env, st') := by
  unfold sRet sBnd
  rw [h]
theorem expr_run {e : SE} {c : Ctx} {env : Env} {st st' : Stt} {d : D} (h : e c env st = some (.ok d, st')) : sExpr e c env st = some (.nx, env, st') := by
  unfold sExpr sBnd
  rw [h]
theorem call_run {f : Nat} {l : SL} {c : Ctx} {env : Env} {st st1 : Stt} {xs : List D} {r : Option (Rs D × Stt)} (h : l c env st = some (.ok xs, st1)) (hc : c.call f xs st1 = r) : eCall f l c env st = r := by
  unfold eCall
  rw [bnd_ok h]
  exact hc
theorem lnil_run {c : Ctx} {env : Env} {st : Stt} : lNil c env st = some (.ok [], st) := rfl
theorem lcons_run {a : SE} {l : SL} {c : Ctx} {env : Env} {st st1 st2 : Stt} {x : D} {xs : List D} (h : a c env st = some (.ok x, st1)) (hl : l c env st1 = some (.ok xs, st2)) : lCons a l c env st = some (.ok (x :: xs), st2) := by
  unfold lCons
  rw [bnd_ok h, bnd_ok hl]; rfl
theorem tup_run {l : SL} {c : Ctx} {env : Env} {st st1 : Stt} {xs : List D} (h : l c env st = some (.ok xs, st1)) (hl : xs.length < lim) : eTup l c env st = some (.ok (.tup xs), st1) := by
  unfold eTup
  rw [bnd_ok h, if_pos hl]; rfl
theorem cB_run {e : SE} {c : Ctx} {env : Env} {st st1 : Stt} {b : Bool} (h : e c env st = some (.ok (.bl b), st1)) : cB e c env st = some (.ok b, st1) := by
  unfold cB
  rw [bnd_ok h]; rfl
theorem if_t {t : ST} {a b : SS} {c : Ctx} {env : Env} {st st1 : Stt} (h : t c env st = some (.ok true, st1)) : sIf t a b c env st = a c env st1 := by
  unfold sIf sBnd
  rw [h]; rfl
theorem if_f {t : ST} {a b : SS} {c : Ctx} {env : Env} {st st1 : Stt} (h : t c env st = some (.ok false, st1)) : sIf t a b c env st = b c env st1 := by
  unfold sIf sBnd
  rw [h]; rfl
theorem for_run {g : SG} {it : SI} {b : SS} {c : Ctx} {env : Env} {st st1 : Stt} {s : Src} {r : Option (Fl × Env × Stt)} (h : it c env st = some (.ok s, st1)) (hf : forL s (turnOf g b c) c.fuel 0 env st1 = r) : sFor g it b c env st = r := by
  unfold sFor sBnd
  rw [h]; exact hf
theorem comp_run {own : List Nat} {g : SG} {it : SI} {t : ST} {e : SE} {c : Ctx} {env : Env} {st st1 st2 : Stt} {s : Src} {l : List D} (h : it c env st = some (.ok s, st1)) (hf : compL s (compT g t e c (wipeE env own)) c.fuel 0 [] st1 = some (.ok l, st2)) : eCompF own g it t e c env st = some (.ok (.frz l), st2) := by
  unfold eCompF
  rw [bnd_ok h, bnd_ok hf]; rfl
/-- a comprehension over items each of whose turns is known -/
theorem compL_map {l : List D} {T : D → R (Option D)} (f : D → Option D) {st : Stt} (step : ∀ (i : Nat) (d : D), l[i]? = some d → T d st = some (.ok (f d), st)) :
    ∀ (fuel i : Nat) (acc : List D), l.length < i + fuel → i ≤ l.length → acc.length + (l.length - i) < lim - 1 → compL (.items l) T fuel i acc st = some (.ok (acc ++ (l.drop i).filterMap f), st)
  | 0, i, acc, h1, h2, _ => by omega
  | fuel + 1, i, acc, h1, h2, h3 => by
    unfold compL
    by_cases hi : i < l.length
    · have e : l[i]? = some l[i] := List.getElem?_eq_getElem hi
      have e2 : l.drop i = l[i] :: l.drop (i + 1) := List.drop_eq_getElem_cons hi
      have q := step i _ e
      simp only [srcAt, e, q]
      cases hf : f l[i] with
      | none =>
        have := compL_map f step fuel (i + 1) acc (by omega) (by omega) (by omega)
        rw [e2, List.filterMap_cons, hf]
        exact this
      | some x =>
        have ha : acc.length < lim - 1 := by omega
        simp only [ha, if_true]
        have := compL_map f step fuel (i + 1) (acc ++ [x]) (by omega) (by omega) (by rw [List.length_append]; show acc.length + 1 + _ < _; omega)
        rw [e2, List.filterMap_cons, hf, this]
        simp
    · have e : l[i]? = none := List.getElem?_eq_none_iff.mpr (by omega)
      have hi' : l.drop i = [] := List.drop_eq_nil_of_le (by omega)
      simp only [srcAt, e, hi', List.filterMap_nil, List.append_nil]
theorem compF_map {own : List Nat} {g : SG} {it : SI} {t : ST} {e : SE} {c : Ctx} {env : Env} {st st1 : Stt} {l r : List D} (f : D → Option D) (h : it c env st = some (.ok (.items l), st1)) (step : ∀ (i : Nat) (d : D), l[i]? = some d → compT g t e c (wipeE env own) d st1 = some (.ok (f d), st1)) (hf : l.length < c.fuel) (hl : l.length < lim - 1) (hr : l.filterMap f = r) :
    eCompF own g it t e c env st = some (.ok (.frz r), st1) := by
  refine comp_run h ?_
  have := compL_map f step c.fuel 0 [] (by omega) (Nat.zero_le _) (by simpa using hl)
  rw [this]
  simp [hr]
/-- `T d env st` for each item in turn, what holds being P -/
theorem for_inv {g : SG} {it : SI} {b : SS} {c : Ctx} {env : Env} {st st1 : Stt} {l : List D} (P : Nat → Env → Stt → Prop) (h : it c env st = some (.ok (.items l), st1)) (h0 : P 0 env st1) (hf : l.length < c.fuel)
    (step : ∀ (i : Nat) (d : D) (env : Env) (st : Stt), l[i]? = some d → P i env st → ∃ env' st', turnOf g b c d env st = some (.nx, env', st') ∧ P (i + 1) env' st') :
    ∃ env' st', sFor g it b c env st = some (.nx, env', st') ∧ P l.length env' st' := by
  obtain ⟨env', st', e, p⟩ := forL_inv (l := l) (P := P) (T := turnOf g b c) step c.fuel 0 env st1 (by omega) (Nat.zero_le _) h0
  exact ⟨env', st', for_run h e, p⟩
theorem turn_var {i : Nat} {b : SS} {c : Ctx} {d : D} {env : Env} {st : Stt} {r : Option (Fl × Env × Stt)} (hi : i < env.length) (h : b c (env.set i (some d)) st = r) : turnOf (gVar i) b c d env st = r := by
  unfold turnOf gVar
  rw [if_pos hi]
  exact h
theorem turn_two {i j : Nat} {b : SS} {c : Ctx} {x y : D} {env : Env} {st : Stt} {r : Option (Fl × Env × Stt)} (hi : i < env.length) (hj : j < env.length) (h : b c ((env.set i (some x)).set j (some y)) st = r) : turnOf (gTup 2 (gCons (gVar i) (gCons (gVar j) gNil))) b c (.tup [x, y]) env st = r := by
  have hj' : j < (env.set i (some x)).length := by simpa using hj
  unfold turnOf gTup gCons gVar
  simp only [List.length_cons, List.length_nil, if_true, hi, gCons, gVar, hj', gNil]
  exact h
theorem enumD_get : ∀ (l : List D) (k i : Nat) (d : D), (enumD k l)[i]? = some d → ∃ x, l[i]? = some x ∧ d = .tup [.int ((k + i : Nat) : Int), x]
  | [], k, i, d, h => by simp [enumD] at h
  | x :: l, k, 0, d, h => by
    simp [enumD] at h
    exact ⟨x, by simp, by rw [← h]; simp⟩
  | x :: l, k, i + 1, d, h => by
    simp only [enumD, List.getElem?_cons_succ] at h
    obtain ⟨y, h1, h2⟩ := enumD_get l (k + 1) i d h
    exact ⟨y, by simpa using h1, by rw [h2, show k + 1 + i = k + (i + 1) by omega]⟩
theorem enumD_len : ∀ (l : List D) (k : Nat), (enumD k l).length = l.length
  | [], _ => rfl
  | x :: l, k => by simp [enumD, enumD_len l (k + 1)]
theorem append_run {a b : SE} {c : Ctx} {env : Env} {st st1 : Stt} {k : Nat} {l l' : List D} {y : D} (ha : a c env st = some (.ok (.loc k), st)) (hk : st[k]? = some (.lst l)) (hb : b c env st = some (.ok y, st1)) (hk1 : st1[k]? = some (.lst l')) (hl : l'.length < lim - 1) :
    eMt1 isLst mAppend a b c env st = some (.ok .non, st1.set k (.lst (l' ++ [y]))) := by
  have h1 : isLst (.loc k) st = some (.ok (), st) := by simp [isLst, hk]
  unfold eMt1
  rw [bnd_ok ha, bnd_ok h1, bnd_ok hb]
  simp only [mAppend, hk1, hl, if_true]
theorem extend_run {a b : SE} {c : Ctx} {env : Env} {st st1 : Stt} {k : Nat} {l l' m : List D} {y : D} (ha : a c env st = some (.ok (.loc k), st)) (hk : st[k]? = some (.lst l)) (hb : b c env st = some (.ok y, st1)) (hk1 : st1[k]? = some (.lst l')) (hm : lstD y st1 = some m) (hl : l'.length + m.length < lim) :
    eMt1 isLst mExtend a b c env st = some (.ok .non, st1.set k (.lst (l' ++ m))) := by
  have h1 : isLst (.loc k) st = some (.ok (), st) := by simp [isLst, hk]
  unfold eMt1
  rw [bnd_ok ha, bnd_ok h1, bnd_ok hb]
  simp only [mExtend, hk1, hm, hl, if_true]
theorem enum_run {a : SE} {c : Ctx} {env : Env} {st st1 : Stt} {l : List D} (h : a c env st = some (.ok (.tup l), st1)) (hl : l.length < lim) : iEnum a c env st = some (.ok (.items (enumD 0 l)), st1) := by
  unfold iEnum
  rw [bnd_ok h]
  simp only [hl, if_true]
theorem seq_tup {a : SE} {c : Ctx} {env : Env} {st st1 : Stt} {l : List D} (h : a c env st = some (.ok (.tup l), st1)) : iSeq a c env st = some (.ok (.items l), st1) := by
  unfold iSeq
  rw [bnd_ok h]
theorem seq_xtup {a : SE} {c : Ctx} {env : Env} {st st1 : Stt} {l : List D} (h : a c env st = some (.ok (.xtup l), st1)) : iSeq a c env st = some (.ok (.items l), st1) := by
  unfold iSeq
  rw [bnd_ok h]
theorem seq_frz {a : SE} {c : Ctx} {env : Env} {st st1 : Stt} {l : List D} (h : a c env st = some (.ok (.frz l), st1)) : iSeq a c env st = some (.ok (.items l), st1) := by
  unfold iSeq
  rw [bnd_ok h]
theorem lst_new {l : SL} {c : Ctx} {env : Env} {st st1 : Stt} {xs : List D} (h : l c env st = some (.ok xs, st1)) (hl : xs.length < lim) : eLst l c env st = some (.ok (.loc st1.length), st1 ++ [.lst xs]) := by
  unfold eLst
  rw [bnd_ok h, if_pos hl]; rfl
theorem tadd_run {l m : List D} (st : Stt) (h : l.length + m.length < lim) : opAdd (.tup l) (.tup m) st = some (.ok (.tup (l ++ m)), st) := by
  simp only [opAdd, h, if_true]
theorem ix_tup {l : List D} {k : Nat} {d : D} (st : Stt) (h : l[k]? = some d) : opIx (.tup l) (.int (k : Int)) st = some (.ok d, st) := by
  have hk := (List.getElem?_eq_some_iff.mp h).1
  simp only [opIx, ixN_ofNat hk, Option.bind_some, h]
theorem ix_xtup {l : List D} {k : Nat} {d : D} (st : Stt) (h : l[k]? = some d) : opIx (.xtup l) (.int (k : Int)) st = some (.ok d, st) := by
  have hk := (List.getElem?_eq_some_iff.mp h).1
  simp only [opIx, ixN_ofNat hk, Option.bind_some, h]
theorem ix_frz {l : List D} {k : Nat} {d : D} (st : Stt) (h : l[k]? = some d) : opIx (.frz l) (.int (k : Int)) st = some (.ok d, st) := by
  have hk := (List.getElem?_eq_some_iff.mp h).1
  simp only [opIx, ixN_ofNat hk, Option.bind_some, h]
theorem ix_loc {a : Nat} {l : List D} {k : Nat} {d : D} {st : Stt} (ha : st[a]? = some (.lst l)) (h : l[k]? = some d) : opIx (.loc a) (.int (k : Int)) st = some (.ok d, st) := by
  have hk := (List.getElem?_eq_some_iff.mp h).1
  simp only [opIx, ha, ixN_ofNat hk, Option.bind_some, h]
/-- x[-1] -/
theorem ix_last {l : List D} {d : D} (st : Stt) : opIx (.tup (l ++ [d])) (.int (-1)) st = some (.ok d, st) := by
  have e : ixN (l ++ [d]).length (-1) = some l.length := by
    unfold ixN
    rw [if_neg (by decide), if_pos (by simp; omega)]
    simp
    omega
  simp only [opIx, e, Option.bind_some]
  simp
/-- x[:-1] -/
theorem slc_last {a : SE} {c : Ctx} {env : Env} {st st1 : Stt} {l : List D} {d : D} (h : a c env st = some (.ok (.tup (l ++ [d])), st1)) : eSlc a oNone (oSome (eUn opNeg (eC (.int 1)))) c env st = some (.ok (.tup l), st1) := by
  have h2 : oSome (eUn opNeg (eC (.int 1))) c env st1 = some (.ok (some (-1)), st1) := rfl
  have e : cut (l ++ [d]) none (some (-1)) = l := by
    unfold cut clampI
    simp
    rw [show (-1 + ((l.length : Int) + 1)).toNat = l.length by omega]
    simp
  unfold eSlc
  rw [bnd_ok h, bnd_ok (x := oNone c env) (a := none) (st1 := st1) rfl, bnd_ok h2]
  simp only [opSlc, e]
theorem compL_mapG {α : Type} {xs : List α} {g : α → D} {T : D → R (Option D)} (f : α → Option D) {st : Stt} (step : ∀ x, x ∈ xs → T (g x) st = some (.ok (f x), st)) :
    ∀ (fuel i : Nat) (acc : List D), xs.length < i + fuel → i ≤ xs.length → acc.length + (xs.length - i) < lim - 1 → compL (.items (xs.map g)) T fuel i acc st = some (.ok (acc ++ (xs.drop i).filterMap f), st)
  | 0, i, acc, h1, h2, _ => by omega
  | fuel + 1, i, acc, h1, h2, h3 => by
    unfold compL
    by_cases hi : i < xs.length
    · have e : (xs.map g)[i]? = some (g xs[i]) := by rw [List.getElem?_map, List.getElem?_eq_getElem hi]; rfl
      have e2 : xs.drop i = xs[i] :: xs.drop (i + 1) := List.drop_eq_getElem_cons hi
      have q := step xs[i] (List.getElem_mem hi)
      simp only [srcAt, e, q]
      cases hf : f xs[i] with
      | none =>
        have := compL_mapG f step fuel (i + 1) acc (by omega) (by omega) (by omega)
        rw [e2, List.filterMap_cons, hf]
        exact this
      | some x =>
        have ha : acc.length < lim - 1 := by omega
        simp only [ha, if_true]
        have := compL_mapG f step fuel (i + 1) (acc ++ [x]) (by omega) (by omega) (by rw [List.length_append]; show acc.length + 1 + _ < _; omega)
        rw [e2, List.filterMap_cons, hf, this]
        simp
    · have e : (xs.map g)[i]? = none := List.getElem?_eq_none_iff.mpr (by rw [List.length_map]; omega)
      have hi' : xs.drop i = [] := List.drop_eq_nil_of_le (by omega)
      simp only [srcAt, e, hi', List.filterMap_nil, List.append_nil]
theorem compF_mapG {α : Type} {own : List Nat} {tg : SG} {it : SI} {t : ST} {e : SE} {c : Ctx} {env : Env} {st st1 : Stt} {xs : List α} {g : α → D} {r : List D} (f : α → Option D) (h : it c env st = some (.ok (.items (xs.map g)), st1)) (step : ∀ x, x ∈ xs → compT tg t e c (wipeE env own) (g x) st1 = some (.ok (f x), st1)) (hf : xs.length < c.fuel) (hl : xs.length < lim - 1) (hr : xs.filterMap f = r) :
    eCompF own tg it t e c env st = some (.ok (.frz r), st1) := by
  refine comp_run h ?_
  have := compL_mapG f step c.fuel 0 [] (by omega) (Nat.zero_le _) (by simpa using hl)
  rw [this]
  simp [hr]
/-- one turn of a comprehension over a name -/
theorem compT_y {i : Nat} {t : ST} {e : SE} {c : Ctx} {env : Env} {d x : D} {st st1 st2 : Stt} (hi : i < env.length) (ht : t c (env.set i (some d)) st = some (.ok true, st1)) (he : e c (env.set i (some d)) st1 = some (.ok x, st2)) : compT (gVar i) t e c env d st = some (.ok (some x), st2) := by
  unfold compT gVar
  rw [if_pos hi]
  show bnd (t c (env.set i (some d))) _ st = _
  rw [bnd_ok ht, if_pos rfl, bnd_ok he]; rfl
theorem compT_n {i : Nat} {t : ST} {e : SE} {c : Ctx} {env : Env} {d : D} {st st1 : Stt} (hi : i < env.length) (ht : t c (env.set i (some d)) st = some (.ok false, st1)) : compT (gVar i) t e c env d st = some (.ok none, st1) := by
  unfold compT gVar
  rw [if_pos hi]
  show bnd (t c (env.set i (some d))) _ st = _
  rw [bnd_ok ht]; rfl
theorem run_nx {fn : Fn} {c : Ctx} {ds : List D} {st st' : Stt} {env' : Env} (hl : ds.length = fn.pars) (h : fn.body c (ds.map some ++ List.replicate (fn.slots - fn.pars) none) st = some (.nx, env', st')) : fn.run c ds st = some (.ok .non, st') := by
  unfold Fn.run
  rw [if_pos hl, h]
theorem fr_rt {p k : Nat} {b : SS} {c : Ctx} {ds : List D} {env env' : Env} {st st' : Stt} {d : D} (hl : ds.length = p) (he : ds.map some ++ List.replicate (k - p) none = env) (h : b c env st = some (.rt d, env', st')) : (⟨p, k, b⟩ : Fn).run c ds st = some (.ok d, st') := by
  subst he
  exact run_rt (fn := ⟨p, k, b⟩) hl h
theorem fr_nx {p k : Nat} {b : SS} {c : Ctx} {ds : List D} {env env' : Env} {st st' : Stt} (hl : ds.length = p) (he : ds.map some ++ List.replicate (k - p) none = env) (h : b c env st = some (.nx, env', st')) : (⟨p, k, b⟩ : Fn).run c ds st = some (.ok .non, st') := by
  subst he
  exact run_nx (fn := ⟨p, k, b⟩) hl h
/-- the same over a list that stands in the store, unchanged by the turns -/
theorem compL_live {n : Nat} {l : List D} {T : D → R (Option D)} {st : Stt} (hn : st[n]? = some (.lst l)) (keep : ∀ d, d ∈ l → ∃ r, T d st = some (.ok r, st)) :
    ∀ (fuel i : Nat) (acc : List D), compL (.live n) T fuel i acc st = compL (.items l) T fuel i acc st
  | 0, _, _ => rfl
  | fuel + 1, i, acc => by
    unfold compL
    simp only [srcAt, hn]
    cases e : l[i]? with
    | none => rfl
    | some d =>
      obtain ⟨r, hr⟩ := keep d (List.mem_of_getElem? e)
      simp only [hr]
      cases r with
      | none => exact compL_live hn keep fuel (i + 1) acc
      | some x =>
        simp only
        by_cases h : acc.length < lim - 1
        · simp only [h, if_true]; exact compL_live hn keep fuel (i + 1) _
        · simp only [h, if_false]
theorem compF_live {α : Type} {own : List Nat} {tg : SG} {it : SI} {t : ST} {e : SE} {c : Ctx} {env : Env} {st st1 : Stt} {n : Nat} {xs : List α} {g : α → D} {r : List D} (f : α → Option D) (h : it c env st = some (.ok (.live n), st1)) (hn : st1[n]? = some (.lst (xs.map g))) (step : ∀ x, x ∈ xs → compT tg t e c (wipeE env own) (g x) st1 = some (.ok (f x), st1)) (hf : xs.length < c.fuel) (hl : xs.length < lim - 1) (hr : xs.filterMap f = r) :
    eCompF own tg it t e c env st = some (.ok (.frz r), st1) := by
  refine comp_run h ?_
  rw [compL_live hn (fun d hd => by
    obtain ⟨x, hx, rfl⟩ := List.mem_map.mp hd
    exact ⟨_, step x hx⟩)]
  have := compL_mapG f step c.fuel 0 [] (by omega) (Nat.zero_le _) (by simpa using hl)
  rw [this]
  simp [hr]
theorem seq_loc {a : SE} {c : Ctx} {env : Env} {st st1 : Stt} {n : Nat} {l : List D} (h : a c env st = some (.ok (.loc n), st1)) (hn : st1[n]? = some (.lst l)) : iSeq a c env st = some (.ok (.live n), st1) := by
  unfold iSeq
  rw [bnd_ok h]
  simp only [hn]
theorem tuple_frz {a : SE} {c : Ctx} {env : Env} {st st1 : Stt} {l : List D} (h : a c env st = some (.ok (.frz l), st1)) : eUn bTuple a c env st = some (.ok (.tup l), st1) := un_run h rfl
/-- a comprehension whose turns change the store -/
theorem compL_inv {l : List D} {T : D → R (Option D)} {P : Nat → List D → Stt → Prop} (step : ∀ (i : Nat) (d : D) (acc : List D) (st : Stt), l[i]? = some d → P i acc st → ∃ o st', T d st = some (.ok o, st') ∧ P (i + 1) (acc ++ o.toList) st') :
    ∀ (fuel i : Nat) (acc : List D) (st : Stt), l.length < i + fuel → i ≤ l.length → acc.length + (l.length - i) < lim - 1 → P i acc st → ∃ acc' st', compL (.items l) T fuel i acc st = some (.ok acc', st') ∧ P l.length acc' st'
  | 0, i, acc, st, h1, h2, _, _ => by omega
  | fuel + 1, i, acc, st, h1, h2, h3, p => by
    unfold compL
    by_cases hi : i < l.length
    · have e : l[i]? = some l[i] := List.getElem?_eq_getElem hi
      obtain ⟨o, st', q, p'⟩ := step i _ acc st e p
      simp only [srcAt, e, q]
      cases o with
      | none => exact compL_inv step fuel (i + 1) acc st' (by omega) (by omega) (by omega) (by simpa using p')
      | some x =>
        have ha : acc.length < lim - 1 := by omega
        simp only [ha, if_true]
        exact compL_inv step fuel (i + 1) (acc ++ [x]) st' (by omega) (by omega) (by rw [List.length_append]; show acc.length + 1 + _ < _; omega) (by simpa using p')
    · have e : l[i]? = none := List.getElem?_eq_none_iff.mpr (by omega)
      have hi' : i = l.length := by omega
      subst hi'
      exact ⟨acc, st, by simp only [srcAt, e], p⟩
theorem compF_inv {own : List Nat} {tg : SG} {it : SI} {t : ST} {e : SE} {c : Ctx} {env : Env} {st st1 : Stt} {l : List D} (P : Nat → List D → Stt → Prop) (h : it c env st = some (.ok (.items l), st1)) (h0 : P 0 [] st1) (hf : l.length < c.fuel) (hl : l.length < lim - 1)
    (step : ∀ (i : Nat) (d : D) (acc : List D) (st : Stt), l[i]? = some d → P i acc st → ∃ o st', compT tg t e c (wipeE env own) d st = some (.ok o, st') ∧ P (i + 1) (acc ++ o.toList) st') :
    ∃ acc st2, eCompF own tg it t e c env st = some (.ok (.frz acc), st2) ∧ P l.length acc st2 := by
  obtain ⟨acc, st2, q, p⟩ := compL_inv step c.fuel 0 [] st1 (by omega) (Nat.zero_le _) (by simpa using hl) h0
  exact ⟨acc, st2, comp_run h q, p⟩
end MI

set_option autoImplicit false
set_option maxRecDepth 100000
/-! E0: programs as trees. -/
namespace MI
open PySem
/-- what passes without a spot -/
inductive Pl where
  | fresh (x : Nat)
  | give (l x y : Nat)
  | change (l x m : Nat)
/-- a statement; br: a loop (one block) or a choice -/
inductive Stm where
  | pl (p : Pl)
  | look (x : Nat)
  | br (lp : Bool) (bs : List (List Stm))
def Pl.d : Pl → D
  | .fresh x => .tup [.str w_fresh, .int x]
  | .give l x y => .tup [.str w_give, .int l, .int x, .int y]
  | .change l x m => .tup [.str w_change, .int l, .int x, .int m]
mutual
def Stm.d : Stm → D
  | .pl p => p.d
  | .look x => .tup [.str w_look, .int x]
  | .br true bs => .tup (.str w_loop :: bsL bs)
  | .br false bs => .tup [.str w_choose, .tup (bsL bs)]
def blL : List Stm → List D
  | [] => []
  | s :: r => s.d :: blL r
def bsL : List (List Stm) → List D
  | [] => []
  | b :: r => .tup (blL b) :: bsL r
end
theorem blL_map : ∀ b : List Stm, blL b = b.map Stm.d
  | [] => rfl
  | s :: r => by simp [blL, blL_map r]
theorem bsL_map : ∀ b : List (List Stm), bsL b = b.map fun b => .tup (blL b)
  | [] => rfl
  | s :: r => by simp [bsL, bsL_map r]
def Stm.bs : Stm → List (List Stm)
  | .br _ bs => bs
  | _ => []
def Stm.isSpot : Stm → Bool
  | .pl _ => false
  | _ => true
def Stm.isLoop : Stm → Bool
  | .br lp _ => lp
  | _ => false
def Pl.ok (n : Nat) : Pl → Prop
  | .fresh x => x < n
  | .give l x y => x < n ∧ y < n ∧ x ≠ y ∧ l < 8
  | .change l x m => x < n ∧ l < 8 ∧ m < 10
mutual
/-- a statement about n names, so deep at most -/
def Stm.ok (n : Nat) : Nat → Stm → Prop
  | _, .pl p => p.ok n
  | _, .look x => x < n
  | 0, .br _ _ => False
  | k + 1, .br lp bs => ((lp = true → bs.length = 1) ∧ (lp = false → 2 ≤ bs.length)) ∧ bs.length ≤ 3 ∧ okBs n k bs
def okB (n : Nat) : Nat → List Stm → Prop
  | _, [] => True
  | k, s :: r => s.ok n k ∧ okB n k r
def okBs (n : Nat) : Nat → List (List Stm) → Prop
  | _, [] => True
  | k, b :: r => (b.length ≤ 8 ∧ okB n k b) ∧ okBs n k r
end
abbrev CX (N : Nat) : Ctx := ⟨prog.call 3000 N, prog.meth, prog.fld, 3000⟩
theorem lim_eq : lim = 16777216 := rfl
theorem lim1 : 1 < lim := by decide
theorem lim2 : 2 < lim := by decide
theorem Pl.lf (p : Pl) : D.lf p.d = true := by cases p <;> rfl
mutual
theorem Stm.lf : ∀ s : Stm, D.lf s.d = true
  | .pl p => p.lf
  | .look x => rfl
  | .br true bs => by simp only [Stm.d, D.lf, D.lfL, Bool.true_and]; exact bsL_lf bs
  | .br false bs => by simp only [Stm.d, D.lf, D.lfL, Bool.true_and, Bool.and_true]; exact bsL_lf bs
theorem blL_lf : ∀ b : List Stm, D.lfL (blL b) = true
  | [] => rfl
  | s :: r => by simp only [blL, D.lfL, Stm.lf s, blL_lf r, Bool.and_self]
theorem bsL_lf : ∀ b : List (List Stm), D.lfL (bsL b) = true
  | [] => rfl
  | s :: r => by simp only [bsL, D.lfL, D.lf, blL_lf s, bsL_lf r, Bool.and_self]
end
theorem bsL_len (bs : List (List Stm)) : (bsL bs).length = bs.length := by rw [bsL_map]; simp
theorem blL_len (bs : List Stm) : (blL bs).length = bs.length := by rw [blL_map]; simp
theorem blL_get (b : List Stm) (i : Nat) : (blL b)[i]? = b[i]?.map Stm.d := by rw [blL_map]; simp
theorem bsL_get (b : List (List Stm)) (i : Nat) : (bsL b)[i]? = b[i]?.map fun b => .tup (blL b) := by rw [bsL_map]; simp

theorem fn_blocks_of : prog.fns[F_blocks_of]? = some ⟨1, 1, b_blocks_of⟩ := rfl
theorem pure_tup {f N : Nat} {fn : Fn} {ds : List D} {d : D} {env' : Env} {st st' : Stt} (hf : prog.fns[f]? = some fn) (hp : prog.pures.contains f = true) (ha : D.lfL ds = true) (hl : ds.length = fn.pars)
    (h : fn.body (CX N) (ds.map some ++ List.replicate (fn.slots - fn.pars) none) [] = some (.rt d, env', st')) (hn : ∀ n, d ≠ .loc n) (hd : D.lf d = true) : prog.call 3000 (N + 1) f ds st = some (.ok d, st) := by
  rw [call_p hf hp]
  exact opt_run ha (run_rt hl h) hn hd
theorem pure_lst {f N n : Nat} {fn : Fn} {ds l : List D} {env' : Env} {st st' : Stt} (hf : prog.fns[f]? = some fn) (hp : prog.pures.contains f = true) (ha : D.lfL ds = true) (hl : ds.length = fn.pars)
    (h : fn.body (CX N) (ds.map some ++ List.replicate (fn.slots - fn.pars) none) [] = some (.rt (.loc n), env', st')) (hn : st'[n]? = some (.lst l)) (hd : D.lfL l = true) : prog.call 3000 (N + 1) f ds st = some (.ok (.frz l), st) := by
  rw [call_p hf hp]
  exact opt_lst ha (run_rt hl h) hn hd
theorem blocks_of_run {n k : Nat} {s : Stm} (h : s.ok n k) (N : Nat) (st : Stt) : prog.call 3000 (N + 1) F_blocks_of [s.d] st = some (.ok (.tup (bsL s.bs)), st) := by
  have lf : D.lfL [s.d] = true := by simp [D.lfL, Stm.lf s]
  have lf2 : D.lf (.tup (bsL s.bs)) = true := bsL_lf _
  refine pure_tup fn_blocks_of (by decide) lf rfl (env' := [some s.d]) (st' := []) ?_ (fun _ z => by cases z) lf2
  match s, h with
  | .pl (.fresh x), _ => rfl
  | .pl (.give l x y), _ => rfl
  | .pl (.change l x m), _ => rfl
  | .look x, _ => rfl
  | .br false bs, _ => kernel_rfl
  | .br true [b], _ => kernel_rfl
  | .br true [], h => cases k with
    | zero => exact h.elim
    | succ k => exact absurd (h.1.1 rfl) (by simp)
  | .br true (_ :: _ :: _), h => cases k with
    | zero => exact h.elim
    | succ k => exact absurd (h.1.1 rfl) (by simp)
def prD (n : Nat) (b : List Stm) : D := .tup [.int (n : Int), .tup (blL b)]
theorem prD_lf (n : Nat) (b : List Stm) : D.lf (prD n b) = true := by
  show (true && (D.lf (.tup (blL b)) && true)) = true
  rw [show D.lf (.tup (blL b)) = true from blL_lf b]; rfl
theorem tuple_loc {a : SE} {c : Ctx} {env : Env} {st st1 : Stt} {k : Nat} {l : List D} (h : a c env st = some (.ok (.loc k), st1)) (hk : st1[k]? = some (.lst l)) : eUn bTuple a c env st = some (.ok (.tup l), st1) := by
  refine un_run h ?_
  unfold bTuple
  have : seqOf (.loc k) st1 = some (.ok l, st1) := by simp [seqOf, hk]
  rw [bnd_ok this]; rfl
theorem while_t {t : Env → R Bool} {T : Env → Stt → Option (Fl × Env × Stt)} {f : Nat} {env env' : Env} {st st' : Stt} (ht : t env st = some (.ok true, st)) (h : T env st = some (.nx, env', st')) : whileL t T (f + 1) env st = whileL t T f env' st' := by
  rw [whileL, ht]
  simp only [h]
theorem while_rt {t : Env → R Bool} {T : Env → Stt → Option (Fl × Env × Stt)} {f : Nat} {env env' : Env} {st st' : Stt} {d : D} (ht : t env st = some (.ok true, st)) (h : T env st = some (.rt d, env', st')) : whileL t T (f + 1) env st = some (.rt d, env', st') := by
  rw [whileL, ht]
  simp only [h]
theorem lt_run (i l : Nat) (st : Stt) : opLt (.int (i : Int)) (.int (l : Int)) st = some (.ok (.bl (decide (i < l))), st) := by
  simp only [opLt, Int.ofNat_lt]
theorem eqs (s t : List Nat) (hs : (s.all (· < 1114112)) = true) (ht : (t.all (· < 1114112)) = true) (st : Stt) : opEq (.str s) (.str t) st = some (.ok (.bl (s == t)), st) := by
  have e : eqD (.str s) (.str t) st = some (.ok (s == t), st) := by
    unfold eqD
    simp only [dat, deep, D.ok, hs, ht, Bool.and_self, if_true, D.eqv]
  unfold opEq
  rw [bnd_ok e]; rfl
theorem eqi (i j : Int) (st : Stt) : opEq (.int i) (.int j) st = some (.ok (.bl (i == j)), st) := by
  have e : eqD (.int i) (.int j) st = some (.ok (i == j), st) := by
    unfold eqD
    simp only [dat, deep, D.ok, Bool.and_self, if_true, D.eqv]
  unfold opEq
  rw [bnd_ok e]; rfl
theorem or_run {a b : ST} {c : Ctx} {env : Env} {st : Stt} {x y : Bool} (h1 : a c env st = some (.ok x, st)) (h2 : b c env st = some (.ok y, st)) : cOr a b c env st = some (.ok (x || y), st) := by
  unfold cOr bnd
  rw [h1]
  cases x with
  | true => rfl
  | false => exact h2
theorem cx_call (N f : Nat) (ds : List D) (st : Stt) : (CX N).call f ds st = prog.call 3000 N f ds st := rfl
theorem range_items (n : Nat) : rangeL 0 (n : Int) = (List.range n).map fun (k : Nat) => D.int (k : Int) := by
  unfold rangeL
  simp
theorem range1_run {a : SE} {c : Ctx} {env : Env} {st st1 : Stt} {n : Nat} (h : a c env st = some (.ok (.int (n : Int)), st1)) (hn : n < lim) : iRange1 a c env st = some (.ok (.items ((List.range n).map fun (k : Nat) => D.int (k : Int))), st1) := by
  unfold iRange1
  rw [bnd_ok h]
  show (if -(lim : Int) < (n : Int) ∧ (n : Int) < lim then ret (Src.items (rangeL 0 (n : Int))) else fail) st1 = _
  rw [lim_eq] at hn
  rw [if_pos ⟨by rw [lim_eq]; omega, by rw [lim_eq]; omega⟩, range_items]; rfl
theorem len_loc {a : SE} {c : Ctx} {env : Env} {st : Stt} {k : Nat} {l : List D} (h : a c env st = some (.ok (.loc k), st)) (hk : st[k]? = some (.lst l)) : eUn bLen a c env st = some (.ok (.int (l.length : Int)), st) :=
  un_run h (by simp [bLen, hk])
theorem asg_sub {c : Ctx} {env : Env} {a i e : SE} {st st1 : Stt} {k j : Nat} {l : List D} {d : D} (he : e c env st = some (.ok d, st1)) (ha : a c env st1 = some (.ok (.loc k), st1)) (hi : i c env st1 = some (.ok (.int (j : Int)), st1)) (hk : st1[k]? = some (.lst l)) (hj : j < l.length) :
    sAsg (gSub a i) e c env st = some (.nx, env, st1.set k (.lst (l.set j d))) := by
  unfold sAsg sBnd
  rw [he]
  simp only [gSub, gBnd, ha, hi, putIx, setIx, hk, ixN_ofNat hj]
end MI

set_option autoImplicit false
set_option maxRecDepth 100000
set_option linter.all false
/-! R13: drawing programs. -/
namespace MI
open PySem
theorem fn_pen : prog.fns[F__law_pen]? = some ⟨1, 1, b__law_pen⟩ := rfl
theorem fn_fresh : prog.fns[F__law_fresh]? = some ⟨1, 7, b__law_fresh⟩ := rfl
theorem fn_draw : prog.fns[F__law_draw]? = some ⟨2, 3, b__law_draw⟩ := rfl
theorem eq_pen : b__law_pen = q_pen := rfl
theorem eq_fresh : b__law_fresh = q_fresh := rfl
theorem eq_draw : b__law_draw = q_draw F__law_fresh := rfl
theorem fresh_at (N : Nat) (xs : List Int) (hx : xs.length ≤ 63) (a q : Int) (rest : Stt) : ∃ v, prog.call 3000 (N + 1) F__law_fresh [.loc 0] (penO xs a q :: rest) = some (.ok (.int v), penO xs (a + 1) q :: rest) := by
  rw [call_np fn_fresh (by decide)]
  obtain ⟨v, env', h⟩ := fresh_run ⟨prog.call 3000 N, prog.meth, prog.fld, 3000⟩ (by show 6 < 3000; decide) xs (by rw [lim_eq]; omega) a q rest
  exact ⟨v, run_rt rfl (by rw [eq_fresh]; exact h)⟩
/-- the law's pen stands at 0 -/
def Pen (xs : List Int) (st : Stt) : Prop := ∃ a q, st[0]? = some (penO xs a q)
theorem draw_at (N : Nat) {xs : List Int} (hx : xs.length ≤ 63) {many : Nat} (h0 : 0 < many) (h1 : many < 1000) {st : Stt} (hp : Pen xs st) :
    ∃ m a' q', m < many ∧ (CX (N + 2)).call F__law_draw [.loc 0, .int (many : Int)] st = some (.ok (.int ((m : Nat) : Int)), st.set 0 (penO xs a' q')) := by
  obtain ⟨a, q, hp⟩ := hp
  cases st with
  | nil => simp at hp
  | cons o rest =>
    have e : o = penO xs a q := by simpa using hp
    subst e
    rw [cx_call, call_np fn_draw (by decide)]
    obtain ⟨m, a', q', env', p0, p1, h⟩ := draw_run ⟨prog.call 3000 (N + 1), prog.meth, prog.fld, 3000⟩ F__law_fresh xs (many : Int) (by omega) (by omega) a q rest (fresh_at N xs hx a q rest)
    obtain ⟨k, rfl⟩ := Int.eq_ofNat_of_zero_le p0
    exact ⟨k, a', q', by omega, run_rt rfl (by rw [eq_draw]; exact h)⟩
theorem pen_set0 {xs : List Int} {st : Stt} (hp : Pen xs st) (a q : Int) : Pen xs (st.set 0 (penO xs a q)) := by
  obtain ⟨a0, q0, hp⟩ := hp
  have := (List.getElem?_eq_some_iff.mp hp).1
  exact ⟨a, q, by rw [List.getElem?_set_self this]⟩
/-- only the pen and what stands at k are changed; more may be there -/
structure Fr (k : Nat) (st st' : Stt) : Prop where
  len : st.length ≤ st'.length
  same : ∀ i, i < st.length → i ≠ 0 → i ≠ k → st'[i]? = st[i]?
theorem Fr.refl (k : Nat) (st : Stt) : Fr k st st := ⟨Nat.le_refl _, fun _ _ _ _ => rfl⟩
theorem Fr.trans {k : Nat} {a b c : Stt} (h : Fr k a b) (g : Fr k b c) : Fr k a c := ⟨Nat.le_trans h.len g.len, fun i hi h0 hk => (g.same i (Nat.lt_of_lt_of_le hi h.len) h0 hk).trans (h.same i hi h0 hk)⟩
theorem Fr.set0 (k : Nat) (st : Stt) (o : Ob) : Fr k st (st.set 0 o) := ⟨by simp, fun i _ h0 _ => List.getElem?_set_ne (Ne.symm h0)⟩
theorem Fr.setk (k : Nat) (st : Stt) (o : Ob) : Fr k st (st.set k o) := ⟨by simp, fun i _ _ hk => List.getElem?_set_ne (Ne.symm hk)⟩
def szO (d s p : Nat) : Ob := .lst [.int (d : Int), .int (s : Int), .int (p : Int)]
/-- the pen, and the sizes at k -/
structure DS (xs : List Int) (k d s p : Nat) (st : Stt) : Prop where
  pen : Pen xs st
  sz : st[k]? = some (szO d s p)
  k0 : k ≠ 0
theorem DS.set0 {xs : List Int} {k d s p : Nat} {st : Stt} (h : DS xs k d s p st) (a q : Int) : DS xs k d s p (st.set 0 (penO xs a q)) := ⟨pen_set0 h.pen a q, by rw [List.getElem?_set_ne (Ne.symm h.k0)]; exact h.sz, h.k0⟩
theorem DS.setk {xs : List Int} {k d s p : Nat} {st : Stt} (h : DS xs k d s p st) (d' s' p' : Nat) : DS xs k d' s' p' (st.set k (szO d' s' p')) := by
  obtain ⟨a, q, e⟩ := h.pen
  exact ⟨⟨a, q, by rw [List.getElem?_set_ne h.k0]; exact e⟩, by rw [List.getElem?_set_self (List.getElem?_eq_some_iff.mp h.sz).1], h.k0⟩
/-- a draw -/
theorem DS.draw {xs : List Int} (hx : xs.length ≤ 63) {k d s p : Nat} {st : Stt} (h : DS xs k d s p st) (N : Nat) {many : Nat} (h0 : 0 < many) (h1 : many < 1000) : ∃ m st', m < many ∧ (CX (N + 2)).call F__law_draw [.loc 0, .int (many : Int)] st = some (.ok (.int ((m : Nat) : Int)), st') ∧ DS xs k d s p st' ∧ Fr k st st' := by
  obtain ⟨m, a, q, hm, e⟩ := draw_at N hx h0 h1 h.pen
  exact ⟨m, _, hm, e, h.set0 a q, Fr.set0 k st _⟩
mutual
def Stm.cnt : Stm → Nat
  | .br _ bs => 1 + cntBs bs
  | .pl _ => 1
  | .look _ => 1
def cntB : List Stm → Nat
  | [] => 0
  | s :: r => s.cnt + cntB r
def cntBs : List (List Stm) → Nat
  | [] => 0
  | b :: r => cntB b + cntBs r
end
mutual
def Stm.spt : Stm → Nat
  | .br _ bs => 1 + spBs bs
  | .pl _ => 0
  | .look _ => 1
def spB : List Stm → Nat
  | [] => 0
  | s :: r => s.spt + spB r
def spBs : List (List Stm) → Nat
  | [] => 0
  | b :: r => spB b + spBs r
end
theorem spB_snoc : ∀ (b : List Stm) (s : Stm), spB (b ++ [s]) = spB b + s.spt
  | [], s => by simp [spB]
  | x :: b, s => by simp [spB, spB_snoc b s]; omega
theorem spBs_snoc : ∀ (b : List (List Stm)) (s : List Stm), spBs (b ++ [s]) = spBs b + spB s
  | [], s => by simp [spBs]
  | x :: b, s => by simp [spBs, spBs_snoc b s]; omega
theorem cntB_snoc : ∀ (b : List Stm) (s : Stm), cntB (b ++ [s]) = cntB b + s.cnt
  | [], s => by simp [cntB]
  | x :: b, s => by simp [cntB, cntB_snoc b s]; omega
theorem cntBs_snoc : ∀ (b : List (List Stm)) (s : List Stm), cntBs (b ++ [s]) = cntBs b + cntB s
  | [], s => by simp [cntBs]
  | x :: b, s => by simp [cntBs, cntBs_snoc b s]; omega
theorem okB_snoc {n k : Nat} : ∀ {b : List Stm} {s : Stm}, okB n k b → s.ok n k → okB n k (b ++ [s])
  | [], _, _, h => ⟨h, trivial⟩
  | _ :: _, _, hb, h => ⟨hb.1, okB_snoc hb.2 h⟩
theorem okBs_snoc {n k : Nat} : ∀ {b : List (List Stm)} {s : List Stm}, okBs n k b → (s.length ≤ 8 ∧ okB n k s) → okBs n k (b ++ [s])
  | [], _, _, h => ⟨h, trivial⟩
  | _ :: _, _, hb, h => ⟨hb.1, okBs_snoc hb.2 h⟩
mutual
theorem ok_mono {n : Nat} : ∀ (s : Stm) (k : Nat), s.ok n k → s.ok n (k + 1)
  | .br lp bs, 0, h => h.elim
  | .br lp bs, k + 1, h => ⟨h.1, h.2.1, okBs_mono bs k h.2.2⟩
  | .pl p, k, h => by cases k <;> exact h
  | .look x, k, h => by cases k <;> exact h
theorem okB_mono {n : Nat} : ∀ (b : List Stm) (k : Nat), okB n k b → okB n (k + 1) b
  | [], _, _ => trivial
  | s :: r, k, h => ⟨ok_mono s k h.1, okB_mono r k h.2⟩
theorem okBs_mono {n : Nat} : ∀ (b : List (List Stm)) (k : Nat), okBs n k b → okBs n (k + 1) b
  | [], _, _ => trivial
  | s :: r, k, h => ⟨⟨h.1.1, okB_mono s k h.1.2⟩, okBs_mono r k h.2⟩
end
theorem ok_pl {n k : Nat} {p : Pl} (h : p.ok n) : (Stm.pl p).ok n k := by cases k <;> exact h
theorem ok_look {n k x : Nat} (h : x < n) : (Stm.look x).ok n k := by cases k <;> exact h
theorem blL_snoc (b : List Stm) (s : Stm) : blL (b ++ [s]) = blL b ++ [s.d] := by simp [blL_map]
theorem bsL_snoc (b : List (List Stm)) (s : List Stm) : bsL (b ++ [s]) = bsL b ++ [.tup (blL s)] := by simp [bsL_map]
theorem fn_statement : prog.fns[F__law_statement]? = some ⟨4, 9, b__law_statement⟩ := rfl
theorem fn_block : prog.fns[F__law_block]? = some ⟨4, 6, b__law_block⟩ := rfl
/-- a drawn statement -/
def SSpec (xs : List Int) (n L d : Nat) : Prop := ∀ (N k s p : Nat) (st : Stt), 2 * d + 4 ≤ N → DS xs k d s p st → 0 < s →
  ∃ (t : Stm) (st' : Stt) (s' p' : Nat), (CX N).call F__law_statement [.loc 0, .int (n : Int), .int (L : Int), .loc k] st = some (.ok t.d, st') ∧ t.ok n d ∧ DS xs k d s' p' st' ∧ (s' + t.cnt ≤ s ∧ p' + t.spt ≤ p) ∧ Fr k st st'
def BSpec (xs : List Int) (n L d : Nat) : Prop := ∀ (N k s p : Nat) (st : Stt), 2 * d + 5 ≤ N → DS xs k d s p st →
  ∃ (b : List Stm) (st' : Stt) (s' p' : Nat), (CX N).call F__law_block [.loc 0, .int (n : Int), .int (L : Int), .loc k] st = some (.ok (.tup (blL b)), st') ∧ okB n d b ∧ b.length ≤ 3 ∧ DS xs k d s' p' st' ∧ (s' + cntB b ≤ s ∧ p' + spB b ≤ p) ∧ Fr k st st'
theorem sz_get {xs : List Int} {k d s p : Nat} {st : Stt} (h : DS xs k d s p st) {i : SE} {c : Ctx} {env : Env} {x1 x2 x3 : Option D} {j v : Nat} (hj : ([d, s, p] : List Nat)[j]? = some v) : (eBin opIx (eVar 3) (eC (.int (j : Int)))) c (x1 :: x2 :: x3 :: some (.loc k) :: env) st = some (.ok (.int (v : Int)), st) := by
  refine bin_run (var_run (x := .loc k) rfl) (y := .int (j : Int)) rfl (ix_loc h.sz ?_)
  have : ([d, s, p].map fun (k : Nat) => D.int (k : Int))[j]? = some (.int (v : Int)) := by rw [List.getElem?_map, hj]; rfl
  exact this
end MI

set_option autoImplicit false
set_option maxRecDepth 100000
set_option linter.all false
/-! R14: drawing statements and blocks. -/
namespace MI
open PySem
theorem DS.setq {xs : List Int} {k d s p q : Nat} {st : Stt} (h : DS xs k d s p st) (o : Ob) (q0 : q ≠ 0) (qk : q ≠ k) : DS xs k d s p (st.set q o) := by
  obtain ⟨a, b, e⟩ := h.pen
  exact ⟨⟨a, b, by rw [List.getElem?_set_ne q0]; exact e⟩, by rw [List.getElem?_set_ne qk]; exact h.sz, h.k0⟩
theorem Fr.setq {k q : Nat} {a b : Stt} (h : Fr k a b) (o : Ob) (hq : a.length ≤ q) : Fr k a (b.set q o) := ⟨by simp [h.len], fun i hi h0 hk => by rw [List.getElem?_set_ne (by omega)]; exact h.same i hi h0 hk⟩
theorem DS.push {xs : List Int} {k d s p : Nat} {st : Stt} (h : DS xs k d s p st) (o : Ob) : DS xs k d s p (st ++ [o]) := by
  obtain ⟨a, b, e⟩ := h.pen
  refine ⟨⟨a, b, ?_⟩, ?_, h.k0⟩
  · rw [List.getElem?_append_left (List.getElem?_eq_some_iff.mp e).1]; exact e
  · rw [List.getElem?_append_left (List.getElem?_eq_some_iff.mp h.sz).1]; exact h.sz
theorem Fr.push (k : Nat) (st : Stt) (o : Ob) : Fr k st (st ++ [o]) := ⟨by simp, fun i hi _ _ => List.getElem?_append_left hi⟩
theorem gt0_run (s : Nat) (st : Stt) : opGt (.int (s : Int)) (.int 0) st = some (.ok (.bl (decide (0 < s))), st) := by
  have : (decide ((0 : Int) < (s : Int))) = decide (0 < s) := by simp
  simp only [opGt, this]
/-- a draw said in a call -/
theorem drawE {xs : List Int} (hx : xs.length ≤ 63) {k d s p : Nat} {st : Stt} (h : DS xs k d s p st) (N : Nat) {many : Nat} (h0 : 0 < many) (h1 : many < 1000) {e : SE} {env : Env} (he : ∀ st, e (CX (N + 2)) (some (.loc 0) :: env) st = some (.ok (.int (many : Int)), st)) :
    ∃ m st', m < many ∧ eCall F__law_draw (lCons (eVar 0) (lCons e lNil)) (CX (N + 2)) (some (.loc 0) :: env) st = some (.ok (.int ((m : Nat) : Int)), st') ∧ DS xs k d s p st' ∧ Fr k st st' := by
  obtain ⟨m, st', hm, e1, h2, f⟩ := h.draw hx N h0 h1
  refine ⟨m, st', hm, ?_, h2, f⟩
  unfold eCall
  rw [bnd_ok (lcons_run (var_run (x := .loc 0) rfl) (lcons_run (he st) lnil_run))]
  exact e1
theorem block_of {xs : List Int} (hx : xs.length ≤ 63) {n L d : Nat} (hS : SSpec xs n L d) : BSpec xs n L d := by
  intro N k s p st hN h
  obtain ⟨M, rfl⟩ : ∃ M, N = M + 3 := ⟨N - 3, by omega⟩
  have hk0 := h.k0
  have hkl := (List.getElem?_eq_some_iff.mp h.sz).1
  rw [cx_call, call_np fn_block (by decide)]
  obtain ⟨m, st1, hm, e1, h1, f1⟩ := drawE hx (h.push (.lst [])) M (many := 4) (by omega) (by omega) (e := eC (.int 4)) (env := [some (.int (n : Int)), some (.int (L : Int)), some (.loc k), some (.loc st.length), none]) (fun _ => rfl)
  have q1 : st1[st.length]? = some (.lst []) := by
    rw [f1.same st.length (by simp) (by omega) (by omega)]; simp
  have len1 : st.length < st1.length := (List.getElem?_eq_some_iff.mp q1).1
  have ff : Fr k st st1 := (Fr.push k st _).trans f1
  have h0 : b__law_block_0 (CX (M + 2)) [some (.loc 0), some (.int (n : Int)), some (.int (L : Int)), some (.loc k), none, none] st = some (.nx, [some (.loc 0), some (.int (n : Int)), some (.int (L : Int)), some (.loc k), some (.loc st.length), none], st ++ [.lst []]) :=
    set_run (lst_new lnil_run (by decide)) (by show 4 < 6; decide)
  obtain ⟨env', st', e, x5, b, s', p', rfl, hb1, hb2, hb3, hb4, hb5, hb6⟩ := for_inv (g := gVar 5) (it := iRange1 (eCall F__law_draw (lCons (eVar 0) (lCons (eC (.int 4)) lNil)))) (b := (sIf (cB (eBin opGt (eBin opIx (eVar 3) (eC (.int 1))) (eC (.int 0))))
  (sExpr (eMt1 isLst mAppend (eVar 4) (eCall F__law_statement (lCons (eVar 0) (lCons (eVar 1) (lCons (eVar 2) (lCons (eVar 3) lNil)))))))
  sPass)) (c := CX (M + 2)) (env := [some (.loc 0), some (.int (n : Int)), some (.int (L : Int)), some (.loc k), some (.loc st.length), none]) (st := st ++ [.lst []]) (st1 := st1) (l := (List.range m).map fun (k : Nat) => D.int (k : Int))
    (fun i env st' => ∃ x5 b s' p', env = [some (.loc 0), some (.int (n : Int)), some (.int (L : Int)), some (.loc k), some (.loc st.length), x5] ∧ b.length ≤ i ∧ okB n d b ∧ DS xs k d s' p' st' ∧ (s' + cntB b ≤ s ∧ p' + spB b ≤ p) ∧ st'[st.length]? = some (.lst (blL b)) ∧ Fr k st st')
    (range1_run e1 (by rw [lim_eq]; omega)) ⟨none, [], s, p, rfl, by simp, trivial, h1, by simp [cntB, spB], q1, ff⟩ (by rw [List.length_map, List.length_range]; show m < 3000; omega) (by
      rintro i x env st' hd ⟨x5, b, s', p', rfl, hb1, hb2, hb3, hb4, hb5, hb6⟩
      have hil : i < m := by have := (List.getElem?_eq_some_iff.mp hd).1; simpa using this
      have ht : (cB (eBin opGt (eBin opIx (eVar 3) (eC (.int 1))) (eC (.int 0)))) (CX (M + 2)) [some (.loc 0), some (.int (n : Int)), some (.int (L : Int)), some (.loc k), some (.loc st.length), some x] st' = some (.ok (decide (0 < s')), st') :=
        cB_run (bin_run (y := .int 0) (sz_get (i := eVar 0) hb3 (j := 1) rfl) rfl (gt0_run s' _))
      by_cases hs : 0 < s'
      · obtain ⟨t, st2, s2, p2, e2, ok2, ds2, c2, f2⟩ := hS (M + 2) k s' p' st' (by omega) hb3 hs
        have q2 : st2[st.length]? = some (.lst (blL b)) := by
          rw [f2.same st.length (List.getElem?_eq_some_iff.mp hb5).1 (by omega) (by omega)]; exact hb5
        have hcall : eCall F__law_statement (lCons (eVar 0) (lCons (eVar 1) (lCons (eVar 2) (lCons (eVar 3) lNil)))) (CX (M + 2)) [some (.loc 0), some (.int (n : Int)), some (.int (L : Int)), some (.loc k), some (.loc st.length), some x] st' = some (.ok t.d, st2) := by
          unfold eCall
          rw [bnd_ok (a := [.loc 0, .int (n : Int), .int (L : Int), .loc k]) (st1 := st') rfl]
          exact e2
        have ap := append_run (c := CX (M + 2)) (env := [some (.loc 0), some (.int (n : Int)), some (.int (L : Int)), some (.loc k), some (.loc st.length), some x]) (a := eVar 4) (k := st.length) (var_run rfl) hb5 hcall q2 (by rw [blL_len, lim_eq]; omega)
        refine ⟨_, _, turn_var (by show 5 < 6; decide) ((if_t (by rw [← decide_eq_true hs]; exact ht)).trans (expr_run ap)), some x, b ++ [t], s2, p2, rfl, by simp; omega, okB_snoc hb2 ok2, ds2.setq _ (by omega) (by omega), by rw [cntB_snoc, spB_snoc]; omega, ?_, (hb6.trans f2).setq _ (Nat.le_refl _)⟩
        rw [List.getElem?_set_self (List.getElem?_eq_some_iff.mp q2).1, blL_snoc]
      · exact ⟨_, _, turn_var (by show 5 < 6; decide) ((if_f (by rw [← decide_eq_false hs]; exact ht)).trans rfl), some x, b, s', p', rfl, by omega, hb2, hb3, hb4, hb5, hb6⟩)
  rw [List.length_map, List.length_range] at hb1
  have hbody : b__law_block (CX (M + 2)) [some (.loc 0), some (.int (n : Int)), some (.int (L : Int)), some (.loc k), none, none] st = some (.rt (.tup (blL b)), [some (.loc 0), some (.int (n : Int)), some (.int (L : Int)), some (.loc k), some (.loc st.length), x5], st') := by
    unfold b__law_block
    rw [seq_nx h0]
    refine (seq_nx (a := b__law_block_1) e).trans ?_
    exact ret_run (tuple_loc (var_run rfl) hb5)
  exact ⟨b, st', s', p', fr_rt rfl rfl hbody, hb2, by omega, hb3, hb4, hb6⟩
end MI

set_option autoImplicit false
set_option maxRecDepth 100000
set_option linter.all false
/-! R15: drawing statements. -/
namespace MI
open PySem
theorem ltN_run (i l : Nat) (st : Stt) : opLt (.int (i : Int)) (.int (l : Int)) st = some (.ok (.bl (decide (i < l))), st) := lt_run i l st
theorem gtN_run (i l : Nat) (st : Stt) : opGt (.int (i : Int)) (.int (l : Int)) st = some (.ok (.bl (decide (l < i))), st) := by
  simp only [opGt, Int.ofNat_lt]
theorem and_f {a b : ST} {c : Ctx} {env : Env} {st : Stt} (h1 : a c env st = some (.ok false, st)) : cAnd a b c env st = some (.ok false, st) := by
  unfold cAnd
  rw [bnd_ok h1]; rfl
abbrev eS (n L k : Nat) (x4 x5 x6 x7 x8 : Option D) : Env := [some (.loc 0), some (.int (n : Int)), some (.int (L : Int)), some (.loc k), x4, x5, x6, x7, x8]
section
variable {xs : List Int} {n L d k s p N : Nat} {st : Stt}
/-- sizes[j] = sizes[j] - 1 -/
theorem dec_run {c : Ctx} {x4 x5 x6 x7 x8 : Option D} {j v : Nat} (h : DS xs k d s p st) (hj : ([d, s, p] : List Nat)[j]? = some (v + 1)) (op : D → D → R D) (hop : op (.int ((v + 1 : Nat) : Int)) (.int 1) st = some (.ok (.int (v : Int)), st)) :
    (sAsg (gSub (eVar 3) (eC (.int (j : Int)))) (eBin op (eBin opIx (eVar 3) (eC (.int (j : Int)))) (eC (.int 1)))) c (eS n L k x4 x5 x6 x7 x8) st = some (.nx, eS n L k x4 x5 x6 x7 x8, st.set k (.lst (([d, s, p].map fun (k : Nat) => D.int (k : Int)).set j (.int (v : Int))))) := by
  have h1 := (List.getElem?_eq_some_iff.mp hj).1
  exact asg_sub (c := c) (env := eS n L k x4 x5 x6 x7 x8) (a := eVar 3) (i := eC (.int (j : Int))) (k := k) (j := j) (l := [.int (d : Int), .int (s : Int), .int (p : Int)]) (bin_run (y := .int 1) (sz_get (i := eVar 0) h hj) rfl hop) (var_run rfl) rfl h.sz (by simpa using h1)
theorem sub1 (v : Nat) (st : Stt) : opSub (.int ((v + 1 : Nat) : Int)) (.int 1) st = some (.ok (.int (v : Int)), st) := by
  have : ((v + 1 : Nat) : Int) - 1 = (v : Int) := by omega
  simp only [opSub, this]
end
theorem gsub_run {a i : SE} {c : Ctx} {env : Env} {st : Stt} {k j : Nat} {l : List D} {d : D} (ha : a c env st = some (.ok (.loc k), st)) (hi : i c env st = some (.ok (.int (j : Int)), st)) (hk : st[k]? = some (.lst l)) (hj : j < l.length) : gSub a i c d env st = some (env, st.set k (.lst (l.set j d))) := by
  simp only [gSub, gBnd, ha, hi, putIx, setIx, hk, ixN_ofNat hj]
theorem asg_two' {g1 g2 : SG} {e : SE} {c : Ctx} {env env1 env2 : Env} {st st1 st2 st3 : Stt} {x y : D} (he : e c env st = some (.ok (.tup [x, y]), st1)) (h1 : g1 c x env st1 = some (env1, st2)) (h2 : g2 c y env1 st2 = some (env2, st3)) : sAsg (gTup 2 (gCons g1 (gCons g2 gNil))) e c env st = some (.nx, env2, st3) := by
  unfold sAsg sBnd
  rw [he]
  simp only [gTup, List.length_cons, List.length_nil, if_true, gCons, h1, h2, gNil]
theorem mod_ne {n x m : Nat} (hn : n ≤ 4) (h1 : 1 < n) (hx : x < n) (hm : m < n - 1) : (x + 1 + m) % n < n ∧ (x + 1 + m) % n ≠ x := by
  match n, hn, h1 with
  | 2, _, _ => omega
  | 3, _, _ => omega
  | 4, _, _ => omega
theorem often_get (m : Nat) (hm : m < 4) : ∃ o, 1 ≤ o ∧ o ≤ 3 ∧ ([.int 1, .int 2, .int 2, .int 3] : List D)[m]? = some (.int ((o : Nat) : Int)) := by
  match m, hm with
  | 0, _ => exact ⟨1, by omega, by omega, rfl⟩
  | 1, _ => exact ⟨2, by omega, by omega, rfl⟩
  | 2, _ => exact ⟨2, by omega, by omega, rfl⟩
  | 3, _ => exact ⟨3, by omega, by omega, rfl⟩
theorem statement_of {xs : List Int} (hx : xs.length ≤ 63) {n L d : Nat} (hn0 : 1 ≤ n) (hn : n ≤ 4) (hL0 : 1 ≤ L) (hL : L ≤ 8) (hB : ∀ d', d = d' + 1 → BSpec xs n L d') : SSpec xs n L d := by
  intro N k s p st hN h hs
  obtain ⟨M, rfl⟩ : ∃ M, N = M + 3 := ⟨N - 3, by omega⟩
  obtain ⟨s, rfl⟩ : ∃ z, s = z + 1 := ⟨s - 1, by omega⟩
  have hk0 := h.k0
  rw [cx_call, call_np fn_statement (by decide)]
  -- one statement less
  have s0 : b__law_statement_0 (CX (M + 2)) (eS n L k none none none none none) st = some (.nx, eS n L k none none none none none, st.set k (szO d s p)) := dec_run h (j := 1) rfl opSub (sub1 s _)
  have h0 := h.setk d s p
  -- the option, the name
  obtain ⟨o, st1, ho, e1, h1, f1⟩ := drawE hx h0 M (many := 10) (by omega) (by omega) (e := eC (.int 10)) (env := [some (.int (n : Int)), some (.int (L : Int)), some (.loc k), none, none, none, none, none]) (fun _ => rfl)
  obtain ⟨x, st2, hxn, e2, h2, f2⟩ := drawE hx h1 M (many := n) (by omega) (by omega) (e := eVar 1) (env := [some (.int (n : Int)), some (.int (L : Int)), some (.loc k), none, none, none, none, none]) (fun _ => rfl)
  have F2 : Fr k st st2 := ((Fr.setk k st _).trans f1).trans f2
  have s1 : b__law_statement_1 (CX (M + 2)) (eS n L k none none none none none) (st.set k (szO d s p)) = some (.nx, eS n L k (some (.int (o : Int))) (some (.int (x : Int))) none none none, st2) := by
    have hl := lcons_run e1 (lcons_run e2 lnil_run)
    unfold b__law_statement_1 sPar sBnd
    rw [hl]; rfl
  -- what is read
  have to : ∀ (v : Nat) (x6 x7 x8 : Option D) (st : Stt), (cB (eBin opLt (eVar 4) (eC (.int (v : Int))))) (CX (M + 2)) (eS n L k (some (.int (o : Int))) (some (.int (x : Int))) x6 x7 x8) st = some (.ok (decide (o < v)), st) := fun v x6 x7 x8 st => cB_run (bin_run (y := .int (v : Int)) (var_run rfl) rfl (lt_run o v _))
  have tp : (cB (eBin opGt (eBin opIx (eVar 3) (eC (.int 2))) (eC (.int 0)))) (CX (M + 2)) (eS n L k (some (.int (o : Int))) (some (.int (x : Int))) none none none) st2 = some (.ok (decide (0 < p)), st2) := cB_run (bin_run (y := .int 0) (sz_get (i := eVar 0) h2 (j := 2) rfl) rfl (gt0_run p _))
  have td : (cB (eBin opGt (eBin opIx (eVar 3) (eC (.int 0))) (eC (.int 0)))) (CX (M + 2)) (eS n L k (some (.int (o : Int))) (some (.int (x : Int))) none none none) st2 = some (.ok (decide (0 < d)), st2) := cB_run (bin_run (y := .int 0) (sz_get (i := eVar 0) h2 (j := 0) rfl) rfl (gt0_run d _))
  have to2 : (cB (eBin opLt (eVar 4) (eC (.int 2)))) (CX (M + 2)) (eS n L k (some (.int (o : Int))) (some (.int (x : Int))) none none none) st2 = some (.ok (decide (o < 2)), st2) := to 2 _ _ _ _
  have to4 : (cB (eBin opLt (eVar 4) (eC (.int 4)))) (CX (M + 2)) (eS n L k (some (.int (o : Int))) (some (.int (x : Int))) none none none) st2 = some (.ok (decide (o < 4)), st2) := to 4 _ _ _ _
  have to7 : (cB (eBin opLt (eVar 4) (eC (.int 7)))) (CX (M + 2)) (eS n L k (some (.int (o : Int))) (some (.int (x : Int))) none none none) st2 = some (.ok (decide (o < 7)), st2) := to 7 _ _ _ _
  have to9 : (cB (eBin opLt (eVar 4) (eC (.int 9)))) (CX (M + 2)) (eS n L k (some (.int (o : Int))) (some (.int (x : Int))) none none none) st2 = some (.ok (decide (o < 9)), st2) := to 9 _ _ _ _
  have t2 := and_run to2 tp
  have t3 := and_run to4 (and_run tp td)
  have finish : ∀ {t : Stm} {env' : Env} {st' : Stt} {s' p' : Nat}, b__law_statement (CX (M + 2)) (eS n L k none none none none none) st = some (.rt t.d, env', st') → t.ok n d → DS xs k d s' p' st' → (s' + t.cnt ≤ s + 1 ∧ p' + t.spt ≤ p) → Fr k st st' →
      ∃ (t : Stm) (st' : Stt) (s' p' : Nat), (⟨4, 9, b__law_statement⟩ : Fn).run ⟨prog.call 3000 (M + 2), prog.meth, prog.fld, 3000⟩ [.loc 0, .int (n : Int), .int (L : Int), .loc k] st = some (.ok t.d, st') ∧ t.ok n d ∧ DS xs k d s' p' st' ∧ (s' + t.cnt ≤ s + 1 ∧ p' + t.spt ≤ p) ∧ Fr k st st' := fun {t env' st' s' p'} hb a b c e => ⟨t, st', s', p', fr_rt rfl rfl hb, a, b, c, e⟩
  by_cases c2 : o < 2 ∧ 0 < p
  · -- a look
    obtain ⟨p, rfl⟩ : ∃ z, p = z + 1 := ⟨p - 1, by omega⟩
    have a1 : (sAsg (gSub (eVar 3) (eC (.int 2))) (eBin opSub (eBin opIx (eVar 3) (eC (.int 2))) (eC (.int 1)))) (CX (M + 2)) (eS n L k (some (.int (o : Int))) (some (.int (x : Int))) none none none) st2 = some (.nx, eS n L k (some (.int (o : Int))) (some (.int (x : Int))) none none none, st2.set k (szO d s p)) := dec_run h2 (j := 2) rfl opSub (sub1 p _)
    have hb : b__law_statement (CX (M + 2)) (eS n L k none none none none none) st = some (.rt (Stm.look x).d, eS n L k (some (.int (o : Int))) (some (.int (x : Int))) none none none, st2.set k (szO d s p)) := by
      unfold b__law_statement
      rw [seq_nx s0, seq_nx s1]
      refine seq_rt (a := b__law_statement_2) ((if_t (by rw [t2, decide_eq_true c2.1, decide_eq_true c2.2]; rfl)).trans ((seq_nx a1).trans ?_))
      exact ret_run (d := (Stm.look x).d) rfl
    exact finish hb (ok_look hxn) (h2.setk d s p) (by simp [Stm.cnt, Stm.spt]) (F2.trans (Fr.setk k _ _))
  have b2 : (decide (o < 2) && decide (0 < p)) = false := by
    rw [← Bool.decide_and]; exact decide_eq_false c2
  have q2 : b__law_statement_2 (CX (M + 2)) (eS n L k (some (.int (o : Int))) (some (.int (x : Int))) none none none) st2 = some (.nx, eS n L k (some (.int (o : Int))) (some (.int (x : Int))) none none none, st2) := (if_f (by rw [t2, b2])).trans rfl
  by_cases c3 : o < 4 ∧ 0 < p ∧ 0 < d
  · obtain ⟨p, rfl⟩ : ∃ z, p = z + 1 := ⟨p - 1, by omega⟩
    obtain ⟨d, rfl⟩ : ∃ z, d = z + 1 := ⟨d - 1, by omega⟩
    have hB' := hB d rfl
    have hz : st2[k]? = some (szO (d + 1) s (p + 1)) := h2.sz
    have hkl := (List.getElem?_eq_some_iff.mp hz).1
    have ea : (eTup (lCons (eBin opSub (eBin opIx (eVar 3) (eC (.int 0))) (eC (.int 1))) (lCons (eBin opSub (eBin opIx (eVar 3) (eC (.int 2))) (eC (.int 1))) lNil))) (CX (M + 2)) (eS n L k (some (.int (o : Int))) (some (.int (x : Int))) none none none) st2 = some (.ok (.tup [.int (d : Int), .int (p : Int)]), st2) :=
      tup_run (lcons_run (bin_run (y := .int 1) (sz_get (i := eVar 0) h2 (j := 0) rfl) rfl (sub1 d _)) (lcons_run (bin_run (y := .int 1) (sz_get (i := eVar 0) h2 (j := 2) rfl) rfl (sub1 p _)) lnil_run)) lim2
    have a1 : (sAsg (gTup 2 (gCons (gSub (eVar 3) (eC (.int 0))) (gCons (gSub (eVar 3) (eC (.int 2))) gNil))) (eTup (lCons (eBin opSub (eBin opIx (eVar 3) (eC (.int 0))) (eC (.int 1))) (lCons (eBin opSub (eBin opIx (eVar 3) (eC (.int 2))) (eC (.int 1))) lNil)))) (CX (M + 2)) (eS n L k (some (.int (o : Int))) (some (.int (x : Int))) none none none) st2 = some (.nx, eS n L k (some (.int (o : Int))) (some (.int (x : Int))) none none none, st2.set k (szO d s p)) := by
      refine (asg_two' ea (gsub_run (a := eVar 3) (i := eC (.int 0)) (j := 0) (var_run rfl) rfl hz (by show 0 < 3; decide)) (gsub_run (a := eVar 3) (i := eC (.int 2)) (j := 2) (var_run rfl) rfl (List.getElem?_set_self hkl) (by show 2 < 3; decide))).trans ?_
      rw [List.set_set]; rfl
    have h3 := h2.setk d s p
    obtain ⟨m, st4, hm, e4, h4, f4⟩ := drawE hx h3 M (many := 4) (by omega) (by omega) (e := eC (.int 4)) (env := [some (.int (n : Int)), some (.int (L : Int)), some (.loc k), some (.int (o : Int)), some (.int (x : Int)), none, none, none]) (fun _ => rfl)
    obtain ⟨w, w1, w3, hw⟩ := often_get m hm
    have a2 : (sSet 6 (eBin opIx (eLstF (lCons (eC (.int 1)) (lCons (eC (.int 2)) (lCons (eC (.int 2)) (lCons (eC (.int 3)) lNil))))) (eCall F__law_draw (lCons (eVar 0) (lCons (eC (.int 4)) lNil))))) (CX (M + 2)) (eS n L k (some (.int (o : Int))) (some (.int (x : Int))) none none none) (st2.set k (szO d s p)) = some (.nx, eS n L k (some (.int (o : Int))) (some (.int (x : Int))) (some (.int (w : Int))) none none, st4) :=
      set_run (bin_run (x := .frz [.int 1, .int 2, .int 2, .int 3]) rfl e4 (ix_frz _ hw)) (by show 6 < 9; decide)
    obtain ⟨acc, st5, e5, bs, s', p', rfl, hbl, hbok, h5, c5, f5⟩ := compF_inv (own := [8]) (tg := gVar 8) (it := iRange1 (eVar 6)) (t := cYes) (e := eCall F__law_block (lCons (eVar 0) (lCons (eVar 1) (lCons (eVar 2) (lCons (eVar 3) lNil))))) (c := CX (M + 2)) (env := eS n L k (some (.int (o : Int))) (some (.int (x : Int))) (some (.int (w : Int))) none none) (st := st4) (st1 := st4) (l := (List.range w).map fun (k : Nat) => D.int (k : Int))
      (fun i acc st' => ∃ bs s' p', acc = bsL bs ∧ bs.length = i ∧ okBs n d bs ∧ DS xs k d s' p' st' ∧ (s' + cntBs bs ≤ s ∧ p' + spBs bs ≤ p) ∧ Fr k st4 st')
      (range1_run (var_run rfl) (by rw [lim_eq]; omega)) ⟨[], s, p, rfl, rfl, trivial, h4, by simp [cntBs, spBs], Fr.refl _ _⟩ (by rw [List.length_map, List.length_range]; show w < 3000; omega) (by rw [List.length_map, List.length_range, lim_eq]; omega) (by
        rintro i y acc st' hd ⟨bs, s', p', rfl, hbl, hbok, h5, c5, f5⟩
        obtain ⟨b, st6, s6, p6, e6, ok6, l6, h6, c6, f6⟩ := hB' (M + 2) k s' p' st' (by omega) h5
        refine ⟨some (.tup (blL b)), st6, compT_y (st1 := st') (by show 8 < 9; decide) rfl ?_, bs ++ [b], s6, p6, by rw [bsL_snoc]; rfl, by simp [hbl], okBs_snoc hbok ⟨by omega, ok6⟩, h6, by rw [cntBs_snoc, spBs_snoc]; omega, f5.trans f6⟩
        unfold eCall
        rw [bnd_ok (a := [.loc 0, .int (n : Int), .int (L : Int), .loc k]) (st1 := st') rfl]
        exact e6)
    rw [List.length_map, List.length_range] at hbl
    have a3 : (sSet 7 (eUn bTuple (eCompF [8] (gVar 8) (iRange1 (eVar 6)) cYes (eCall F__law_block (lCons (eVar 0) (lCons (eVar 1) (lCons (eVar 2) (lCons (eVar 3) lNil)))))))) (CX (M + 2)) (eS n L k (some (.int (o : Int))) (some (.int (x : Int))) (some (.int (w : Int))) none none) st4 = some (.nx, eS n L k (some (.int (o : Int))) (some (.int (x : Int))) (some (.int (w : Int))) (some (.tup (bsL bs))) none, st5) :=
      set_run (tuple_frz e5) (by show 7 < 9; decide)
    have a4 : (sAsg (gSub (eVar 3) (eC (.int 0))) (eBin opAdd (eBin opIx (eVar 3) (eC (.int 0))) (eC (.int 1)))) (CX (M + 2)) (eS n L k (some (.int (o : Int))) (some (.int (x : Int))) (some (.int (w : Int))) (some (.tup (bsL bs))) none) st5 = some (.nx, eS n L k (some (.int (o : Int))) (some (.int (x : Int))) (some (.int (w : Int))) (some (.tup (bsL bs))) none, st5.set k (szO (d + 1) s' p')) :=
      asg_sub (c := CX (M + 2)) (env := eS n L k (some (.int (o : Int))) (some (.int (x : Int))) (some (.int (w : Int))) (some (.tup (bsL bs))) none) (a := eVar 3) (i := eC (.int 0)) (k := k) (j := 0) (l := [.int (d : Int), .int (s' : Int), .int (p' : Int)]) (d := .int ((d + 1 : Nat) : Int)) (bin_run (y := .int 1) (sz_get (i := eVar 0) h5 (j := 0) rfl) rfl rfl) (var_run rfl) rfl h5.sz (by show 0 < 3; decide)
    have tl : (cB (eBin opEq (eUn bLen (eVar 7)) (eC (.int 1)))) (CX (M + 2)) (eS n L k (some (.int (o : Int))) (some (.int (x : Int))) (some (.int (w : Int))) (some (.tup (bsL bs))) none) (st5.set k (szO (d + 1) s' p')) = some (.ok (decide (w = 1)), st5.set k (szO (d + 1) s' p')) := by
      have hlen : (eUn bLen (eVar 7)) (CX (M + 2)) (eS n L k (some (.int (o : Int))) (some (.int (x : Int))) (some (.int (w : Int))) (some (.tup (bsL bs))) none) (st5.set k (szO (d + 1) s' p')) = some (.ok (.int (w : Int)), st5.set k (szO (d + 1) s' p')) := by
        rw [← hbl, ← bsL_len]; rfl
      refine cB_run (bin_run (x := .int (w : Int)) (y := .int 1) hlen rfl ?_)
      · rw [eqi]
        have : ((w : Int) == 1) = decide (w = 1) := by
          by_cases h : w = 1
          · subst h; rfl
          · rw [decide_eq_false h]; simp; omega
        rw [this]
    have hret : ∃ lp, ((lp = true → bs.length = 1) ∧ (lp = false → 2 ≤ bs.length)) ∧ (sRet (eIf (cB (eBin opEq (eUn bLen (eVar 7)) (eC (.int 1)))) (eTup (lCons (eC (.str w_loop)) (lCons (eBin opIx (eVar 7) (eC (.int 0))) lNil))) (eTup (lCons (eC (.str w_choose)) (lCons (eVar 7) lNil))))) (CX (M + 2)) (eS n L k (some (.int (o : Int))) (some (.int (x : Int))) (some (.int (w : Int))) (some (.tup (bsL bs))) none) (st5.set k (szO (d + 1) s' p')) = some (.rt (Stm.br lp bs).d, eS n L k (some (.int (o : Int))) (some (.int (x : Int))) (some (.int (w : Int))) (some (.tup (bsL bs))) none, st5.set k (szO (d + 1) s' p')) := by
      by_cases hw1 : w = 1
      · refine ⟨true, ⟨fun _ => by omega, fun h => by cases h⟩, ret_run ?_⟩
        rw [decide_eq_true hw1] at tl
        unfold eIf
        rw [bnd_ok tl, if_pos rfl]
        match bs, hbl.trans hw1 with
        | [b], _ => rfl
      · refine ⟨false, ⟨(fun h => by cases h), fun _ => by omega⟩, ret_run ?_⟩
        rw [decide_eq_false hw1] at tl
        unfold eIf
        rw [bnd_ok tl, if_neg (by decide)]
        rfl
    obtain ⟨lp, hlp, hret⟩ := hret
    have hb : b__law_statement (CX (M + 2)) (eS n L k none none none none none) st = some (.rt (Stm.br lp bs).d, eS n L k (some (.int (o : Int))) (some (.int (x : Int))) (some (.int (w : Int))) (some (.tup (bsL bs))) none, st5.set k (szO (d + 1) s' p')) := by
      unfold b__law_statement
      rw [seq_nx s0, seq_nx s1, seq_nx q2]
      refine seq_rt (a := b__law_statement_3) ((if_t (by rw [t3, decide_eq_true c3.1, decide_eq_true c3.2.1, decide_eq_true c3.2.2]; rfl)).trans ((seq_nx a1).trans ((seq_nx a2).trans ((seq_nx a3).trans ((seq_nx a4).trans hret)))))
    exact finish hb ⟨hlp, by omega, hbok⟩ (h5.setk (d + 1) s' p') (by simp only [Stm.cnt, Stm.spt]; omega) ((((F2.trans (Fr.setk k _ _)).trans f4).trans f5).trans (Fr.setk k _ _))
  have b3 : (decide (o < 4) && (decide (0 < p) && decide (0 < d))) = false := by
    rw [← Bool.decide_and, ← Bool.decide_and]; exact decide_eq_false c3
  have q3 : b__law_statement_3 (CX (M + 2)) (eS n L k (some (.int (o : Int))) (some (.int (x : Int))) none none none) st2 = some (.nx, eS n L k (some (.int (o : Int))) (some (.int (x : Int))) none none none, st2) := (if_f (by rw [t3, b3])).trans rfl
  have tn : (cB (eBin opGt (eVar 1) (eC (.int 1)))) (CX (M + 2)) (eS n L k (some (.int (o : Int))) (some (.int (x : Int))) none none none) st2 = some (.ok (decide (1 < n)), st2) := cB_run (bin_run (y := .int 1) (var_run rfl) rfl (gtN_run n 1 _))
  have t4 := and_run to7 tn
  by_cases c4 : o < 7 ∧ 1 < n
  · -- a give
    obtain ⟨l, st3, hl, e3, h3, f3⟩ := drawE hx h2 M (many := L) (by omega) (by omega) (e := eVar 2) (env := [some (.int (n : Int)), some (.int (L : Int)), some (.loc k), some (.int (o : Int)), some (.int (x : Int)), none, none, none]) (fun _ => rfl)
    obtain ⟨m, st4, hm, e4, h4, f4⟩ := drawE hx h3 M (many := n - 1) (by omega) (by omega) (e := eBin opSub (eVar 1) (eC (.int 1))) (env := [some (.int (n : Int)), some (.int (L : Int)), some (.loc k), some (.int (o : Int)), some (.int (x : Int)), none, none, none]) (fun st => by
      refine bin_run (x := .int (n : Int)) (y := .int 1) rfl rfl ?_
      have : (n : Int) - 1 = ((n - 1 : Nat) : Int) := by omega
      simp only [opSub, this])
    have hy := mod_ne hn c4.2 hxn hm
    have ey : (eBin opMod (eUn bInt (eBin opAdd (eBin opAdd (eVar 5) (eC (.int 1))) (eCall F__law_draw (lCons (eVar 0) (lCons (eBin opSub (eVar 1) (eC (.int 1))) lNil))))) (eVar 1)) (CX (M + 2)) (eS n L k (some (.int (o : Int))) (some (.int (x : Int))) none none none) st3 = some (.ok (.int ((x + 1 + m) % n : Nat)), st4) := by
      refine bin_run (x := .int ((x + 1 + m : Nat) : Int)) (y := .int (n : Int)) (un_run (x := .int ((x + 1 + m : Nat) : Int)) (bin_run (x := .int ((x + 1 : Nat) : Int)) (y := .int (m : Int)) (bin_run (x := .int (x : Int)) (y := .int 1) rfl rfl rfl) e4 rfl) rfl) rfl ?_
      have : (0 : Int) < (n : Int) := by omega
      simp only [opMod, this, if_true]
      rfl
    have hb : b__law_statement (CX (M + 2)) (eS n L k none none none none none) st = some (.rt (Stm.pl (.give l x ((x + 1 + m) % n))).d, eS n L k (some (.int (o : Int))) (some (.int (x : Int))) none none none, st4) := by
      unfold b__law_statement
      rw [seq_nx s0, seq_nx s1, seq_nx q2, seq_nx q3]
      refine seq_rt (a := b__law_statement_4) ((if_t (by rw [t4, decide_eq_true c4.1, decide_eq_true c4.2]; rfl)).trans ?_)
      exact ret_run (tup_run (xs := [.str w_give, .int (l : Int), .int (x : Int), .int ((x + 1 + m) % n : Nat)]) (lcons_run (x := .str w_give) rfl (lcons_run e3 (lcons_run (x := .int (x : Int)) rfl (lcons_run ey lnil_run)))) (by show 4 < lim; decide))
    exact finish hb (ok_pl ⟨hxn, hy.1, Ne.symm hy.2, by omega⟩) h4 (by simp [Stm.cnt, Stm.spt]) ((F2.trans f3).trans f4)
  have b4 : (decide (o < 7) && decide (1 < n)) = false := by
    rw [← Bool.decide_and]; exact decide_eq_false c4
  have q4 : b__law_statement_4 (CX (M + 2)) (eS n L k (some (.int (o : Int))) (some (.int (x : Int))) none none none) st2 = some (.nx, eS n L k (some (.int (o : Int))) (some (.int (x : Int))) none none none, st2) := (if_f (by rw [t4, b4])).trans rfl
  by_cases c5 : o < 9
  · -- a change
    obtain ⟨l, st3, hl, e3, h3, f3⟩ := drawE hx h2 M (many := L) (by omega) (by omega) (e := eVar 2) (env := [some (.int (n : Int)), some (.int (L : Int)), some (.loc k), some (.int (o : Int)), some (.int (x : Int)), none, none, none]) (fun _ => rfl)
    obtain ⟨m, st4, hm, e4, h4, f4⟩ := drawE hx h3 M (many := 10) (by omega) (by omega) (e := eC (.int 10)) (env := [some (.int (n : Int)), some (.int (L : Int)), some (.loc k), some (.int (o : Int)), some (.int (x : Int)), none, none, none]) (fun _ => rfl)
    have hb : b__law_statement (CX (M + 2)) (eS n L k none none none none none) st = some (.rt (Stm.pl (.change l x m)).d, eS n L k (some (.int (o : Int))) (some (.int (x : Int))) none none none, st4) := by
      unfold b__law_statement
      rw [seq_nx s0, seq_nx s1, seq_nx q2, seq_nx q3, seq_nx q4]
      refine ret_run ?_
      have ht := to9
      rw [decide_eq_true c5] at ht
      unfold eIf
      rw [bnd_ok ht, if_pos rfl]
      exact tup_run (xs := [.str w_change, .int (l : Int), .int (x : Int), .int (m : Int)]) (lcons_run (x := .str w_change) rfl (lcons_run e3 (lcons_run (x := .int (x : Int)) rfl (lcons_run e4 lnil_run)))) (by show 4 < lim; decide)
    exact finish hb (ok_pl ⟨hxn, by omega, hm⟩) h4 (by simp [Stm.cnt, Stm.spt]) ((F2.trans f3).trans f4)
  · have hb : b__law_statement (CX (M + 2)) (eS n L k none none none none none) st = some (.rt (Stm.pl (.fresh x)).d, eS n L k (some (.int (o : Int))) (some (.int (x : Int))) none none none, st2) := by
      unfold b__law_statement
      rw [seq_nx s0, seq_nx s1, seq_nx q2, seq_nx q3, seq_nx q4]
      refine ret_run ?_
      have ht := to9
      rw [decide_eq_false c5] at ht
      unfold eIf
      rw [bnd_ok ht, if_neg (by decide)]
      exact tup_run (xs := [.str w_fresh, .int (x : Int)]) (lcons_run (x := .str w_fresh) rfl (lcons_run (x := .int (x : Int)) rfl lnil_run)) (by show 2 < lim; decide)
    exact finish hb (ok_pl hxn) h2 (by simp [Stm.cnt, Stm.spt]) F2
end MI

set_option autoImplicit false
set_option maxRecDepth 100000
set_option linter.all false
/-! R16: drawing programs, ways, copyings. -/
namespace MI
open PySem
theorem all_spec {xs : List Int} (hx : xs.length ≤ 63) {n L : Nat} (hn0 : 1 ≤ n) (hn : n ≤ 4) (hL0 : 1 ≤ L) (hL : L ≤ 8) : ∀ d, SSpec xs n L d ∧ BSpec xs n L d
  | 0 => by
    have h := statement_of hx (d := 0) hn0 hn hL0 hL (fun d' e => by omega)
    exact ⟨h, block_of hx h⟩
  | d + 1 => by
    have h := statement_of hx (d := d + 1) hn0 hn hL0 hL (fun d' e => by
      have : d' = d := by omega
      subst this
      exact (all_spec hx hn0 hn hL0 hL d').2)
    exact ⟨h, block_of hx h⟩
/-- only the pen is changed; more may be there -/
structure FrP (st st' : Stt) : Prop where
  len : st.length ≤ st'.length
  same : ∀ i, i < st.length → i ≠ 0 → st'[i]? = st[i]?
theorem FrP.refl (st : Stt) : FrP st st := ⟨Nat.le_refl _, fun _ _ _ => rfl⟩
theorem FrP.trans {a b c : Stt} (h : FrP a b) (g : FrP b c) : FrP a c := ⟨Nat.le_trans h.len g.len, fun i hi h0 => (g.same i (Nat.lt_of_lt_of_le hi h.len) h0).trans (h.same i hi h0)⟩
theorem FrP.of {k : Nat} {a b : Stt} (h : Fr k a b) (hk : a.length ≤ k) : FrP a b := ⟨h.len, fun i hi h0 => h.same i hi h0 (by omega)⟩
theorem pen_draw {xs : List Int} (hx : xs.length ≤ 63) {st : Stt} (h : Pen xs st) (N : Nat) {many : Nat} (h0 : 0 < many) (h1 : many < 1000) {e : SE} {env : Env} (he : ∀ st, e (CX (N + 2)) (some (.loc 0) :: env) st = some (.ok (.int (many : Int)), st)) :
    ∃ m st', m < many ∧ eCall F__law_draw (lCons (eVar 0) (lCons e lNil)) (CX (N + 2)) (some (.loc 0) :: env) st = some (.ok (.int ((m : Nat) : Int)), st') ∧ Pen xs st' ∧ FrP st st' := by
  obtain ⟨m, a, q, hm, e1⟩ := draw_at N hx h0 h1 h
  refine ⟨m, _, hm, ?_, pen_set0 h a q, ⟨by simp, fun i _ h0 => List.getElem?_set_ne (Ne.symm h0)⟩⟩
  unfold eCall
  rw [bnd_ok (lcons_run (var_run (x := .loc 0) rfl) (lcons_run (he st) lnil_run))]
  exact e1
theorem sz_at {xs : List Int} {k d s p : Nat} {st : Stt} (h : DS xs k d s p st) {c : Ctx} {env : Env} {i j v : Nat} (hi : env[i]? = some (some (.loc k))) (hj : ([d, s, p] : List Nat)[j]? = some v) : (eBin opIx (eVar i) (eC (.int (j : Int)))) c env st = some (.ok (.int (v : Int)), st) := by
  refine bin_run (var_run (x := .loc k) hi) (y := .int (j : Int)) rfl (ix_loc h.sz ?_)
  have : ([d, s, p].map fun (k : Nat) => D.int (k : Int))[j]? = some (.int (v : Int)) := by rw [List.getElem?_map, hj]; rfl
  exact this
theorem fn_program : prog.fns[F__law_program]? = some ⟨5, 8, b__law_program⟩ := rfl
abbrev eP (n L S P k q : Nat) (x7 : Option D) : Env := [some (.loc 0), some (.int (n : Int)), some (.int (L : Int)), some (.int (S : Int)), some (.int (P : Int)), some (.loc k), some (.loc q), x7]
theorem program_run {xs : List Int} (hx : xs.length ≤ 63) {n L S P : Nat} (hn0 : 1 ≤ n) (hn : n ≤ 4) (hL0 : 1 ≤ L) (hL : L ≤ 8) (hS : S ≤ 100) {st : Stt} (hp : Pen xs st) {N : Nat} (hN : 20 ≤ N) :
    ∃ (b : List Stm) (st' : Stt), (CX N).call F__law_program [.loc 0, .int (n : Int), .int (L : Int), .int (S : Int), .int (P : Int)] st = some (.ok (prD n b), st') ∧ (okB n 4 b ∧ b.length ≤ 7 ∧ cntB b ≤ S ∧ spB b ≤ P) ∧ Pen xs st' ∧ FrP st st' := by
  obtain ⟨M, rfl⟩ : ∃ M, N = M + 3 := ⟨N - 3, by omega⟩
  have h1st : 1 ≤ st.length := by
    obtain ⟨a, q, e⟩ := hp
    exact (List.getElem?_eq_some_iff.mp e).1
  rw [cx_call, call_np fn_program (by decide)]
  have hsp := (all_spec hx hn0 hn hL0 hL 4).1
  -- sizes, found
  have s0 : b__law_program_0 (CX (M + 2)) [some (.loc 0), some (.int (n : Int)), some (.int (L : Int)), some (.int (S : Int)), some (.int (P : Int)), none, none, none] st = some (.nx, eP n L S P st.length (st.length + 1) none, st ++ [szO 4 S P] ++ [.lst []]) := by
    have hl : (lCons (eLst (lCons (eC (.int 4)) (lCons (eVar 3) (lCons (eVar 4) lNil)))) (lCons (eLst lNil) lNil)) (CX (M + 2)) [some (.loc 0), some (.int (n : Int)), some (.int (L : Int)), some (.int (S : Int)), some (.int (P : Int)), none, none, none] st = some (.ok [.loc st.length, .loc (st.length + 1)], st ++ [szO 4 S P] ++ [.lst []]) := by
      have a1 := lst_new (l := (lCons (eC (.int 4)) (lCons (eVar 3) (lCons (eVar 4) lNil)))) (c := CX (M + 2)) (env := [some (.loc 0), some (.int (n : Int)), some (.int (L : Int)), some (.int (S : Int)), some (.int (P : Int)), none, none, none]) (st := st) (st1 := st) (xs := [.int 4, .int (S : Int), .int (P : Int)]) rfl (by show 3 < lim; decide)
      have a2 := lst_new (l := lNil) (c := CX (M + 2)) (env := [some (.loc 0), some (.int (n : Int)), some (.int (L : Int)), some (.int (S : Int)), some (.int (P : Int)), none, none, none]) (st := st ++ [szO 4 S P]) (st1 := st ++ [szO 4 S P]) lnil_run (by show 0 < lim; decide)
      have el : (st ++ [szO 4 S P]).length = st.length + 1 := by simp
      rw [el] at a2
      exact lcons_run a1 (lcons_run a2 lnil_run)
    unfold b__law_program_0 sPar sBnd
    rw [hl]; rfl
  generalize hk : st.length = k at s0 h1st
  have ds0 : DS xs k 4 S P (st ++ [szO 4 S P] ++ [.lst []]) := by
    obtain ⟨a, q, e⟩ := hp
    have e0 := (List.getElem?_eq_some_iff.mp e).1
    refine ⟨⟨a, q, ?_⟩, ?_, by omega⟩
    · rw [List.append_assoc, List.getElem?_append_left e0]; exact e
    · rw [← hk, List.append_assoc]; simp
  have q0 : (st ++ [szO 4 S P] ++ [.lst []])[k + 1]? = some (.lst []) := by
    rw [← hk]
    rw [List.getElem?_append_right (by simp)]
    simp
  have fr0 : FrP st (st ++ [szO 4 S P] ++ [.lst []]) := ⟨by simp, fun i hi _ => by rw [List.append_assoc, List.getElem?_append_left hi]⟩
  obtain ⟨m, st1, hm, e1, h1, f1⟩ := drawE hx ds0 M (many := 5) (by omega) (by omega) (e := eC (.int 5)) (env := [some (.int (n : Int)), some (.int (L : Int)), some (.int (S : Int)), some (.int (P : Int)), some (.loc k), some (.loc (k + 1)), none]) (fun _ => rfl)
  have q1 : st1[k + 1]? = some (.lst []) := by
    rw [f1.same (k + 1) (List.getElem?_eq_some_iff.mp q0).1 (by omega) (by omega)]; exact q0
  have frk : ∀ {a b : Stt}, FrP st a → Fr k a b → FrP st b := fun ha hb => ⟨Nat.le_trans ha.len hb.len, fun i hi h0 => (hb.same i (Nat.lt_of_lt_of_le hi ha.len) h0 (by omega)).trans (ha.same i hi h0)⟩
  have frq : ∀ {a : Stt} (o : Ob), FrP st a → FrP st (a.set (k + 1) o) := fun o ha => ⟨by simp [ha.len], fun i hi h0 => by rw [List.getElem?_set_ne (by omega)]; exact ha.same i hi h0⟩
  have e1' : (eBin opAdd (eC (.int 2)) (eCall F__law_draw (lCons (eVar 0) (lCons (eC (.int 5)) lNil)))) (CX (M + 2)) (eP n L S P k (k + 1) none) (st ++ [szO 4 S P] ++ [.lst []]) = some (.ok (.int ((2 + m : Nat) : Int)), st1) :=
    bin_run (x := .int 2) (y := .int (m : Int)) rfl e1 rfl
  obtain ⟨env2, st2, e2, x7, b, s', p', rfl, hb1, hb2, hb3, hb4, hb5, hb6⟩ := for_inv (g := gVar 7) (it := iRange1 (eBin opAdd (eC (.int 2)) (eCall F__law_draw (lCons (eVar 0) (lCons (eC (.int 5)) lNil))))) (b := (sIf (cB (eBin opGt (eBin opIx (eVar 5) (eC (.int 1))) (eC (.int 0))))
  (sExpr (eMt1 isLst mAppend (eVar 6) (eCall F__law_statement (lCons (eVar 0) (lCons (eVar 1) (lCons (eVar 2) (lCons (eVar 5) lNil)))))))
  sPass)) (c := CX (M + 2)) (env := eP n L S P k (k + 1) none) (st := st ++ [szO 4 S P] ++ [.lst []]) (st1 := st1) (l := (List.range (2 + m)).map fun (k : Nat) => D.int (k : Int))
    (fun i env st' => ∃ x7 b s' p', env = eP n L S P k (k + 1) x7 ∧ b.length ≤ i ∧ okB n 4 b ∧ DS xs k 4 s' p' st' ∧ (s' + cntB b ≤ S ∧ p' + spB b ≤ P) ∧ st'[k + 1]? = some (.lst (blL b)) ∧ FrP st st')
    (range1_run e1' (by rw [lim_eq]; omega)) ⟨none, [], S, P, rfl, by simp, trivial, h1, by simp [cntB, spB], q1, frk fr0 f1⟩ (by rw [List.length_map, List.length_range]; show 2 + m < 3000; omega) (by
      rintro i x env st' hd ⟨x7, b, s', p', rfl, hb1, hb2, hb3, hb4, hb5, hb6⟩
      have hil : i < 2 + m := by have := (List.getElem?_eq_some_iff.mp hd).1; simpa using this
      have ht : (cB (eBin opGt (eBin opIx (eVar 5) (eC (.int 1))) (eC (.int 0)))) (CX (M + 2)) (eP n L S P k (k + 1) (some x)) st' = some (.ok (decide (0 < s')), st') :=
        cB_run (bin_run (y := .int 0) (sz_at hb3 (i := 5) (j := 1) rfl rfl) rfl (gt0_run s' _))
      by_cases hs : 0 < s'
      · obtain ⟨t, st2, s2, p2, e2, ok2, ds2, c2, f2⟩ := hsp (M + 2) k s' p' st' (by omega) hb3 hs
        have q2 : st2[k + 1]? = some (.lst (blL b)) := by
          rw [f2.same (k + 1) (List.getElem?_eq_some_iff.mp hb5).1 (by omega) (by omega)]; exact hb5
        have hcall : eCall F__law_statement (lCons (eVar 0) (lCons (eVar 1) (lCons (eVar 2) (lCons (eVar 5) lNil)))) (CX (M + 2)) (eP n L S P k (k + 1) (some x)) st' = some (.ok t.d, st2) := by
          unfold eCall
          rw [bnd_ok (a := [.loc 0, .int (n : Int), .int (L : Int), .loc k]) (st1 := st') rfl]
          exact e2
        have ap := append_run (c := CX (M + 2)) (env := eP n L S P k (k + 1) (some x)) (a := eVar 6) (k := k + 1) (var_run rfl) hb5 hcall q2 (by rw [blL_len, lim_eq]; omega)
        refine ⟨_, _, turn_var (by show 7 < 8; decide) ((if_t (by rw [← decide_eq_true hs]; exact ht)).trans (expr_run ap)), some x, b ++ [t], s2, p2, rfl, by simp; omega, okB_snoc hb2 ok2, ds2.setq _ (by omega) (by omega), by rw [cntB_snoc, spB_snoc]; omega, ?_, frq _ (frk hb6 f2)⟩
        rw [List.getElem?_set_self (List.getElem?_eq_some_iff.mp q2).1, blL_snoc]
      · exact ⟨_, _, turn_var (by show 7 < 8; decide) ((if_f (by rw [← decide_eq_false hs]; exact ht)).trans rfl), some x, b, s', p', rfl, by omega, hb2, hb3, hb4, hb5, hb6⟩)
  rw [List.length_map, List.length_range] at hb1
  have ts : (cB (eBin opGt (eBin opIx (eVar 5) (eC (.int 1))) (eC (.int 0)))) (CX (M + 2)) (eP n L S P k (k + 1) x7) st2 = some (.ok (decide (0 < s')), st2) := cB_run (bin_run (y := .int 0) (sz_at hb3 (i := 5) (j := 1) rfl rfl) rfl (gt0_run s' _))
  have tp : (cB (eBin opGt (eBin opIx (eVar 5) (eC (.int 2))) (eC (.int 0)))) (CX (M + 2)) (eP n L S P k (k + 1) x7) st2 = some (.ok (decide (0 < p')), st2) := cB_run (bin_run (y := .int 0) (sz_at hb3 (i := 5) (j := 2) rfl rfl) rfl (gt0_run p' _))
  -- the last look
  have last : ∃ (b' : List Stm) (st3 : Stt), b__law_program_2 (CX (M + 2)) (eP n L S P k (k + 1) x7) st2 = some (.nx, eP n L S P k (k + 1) x7, st3) ∧ b'.length ≤ 7 ∧ okB n 4 b' ∧ (cntB b' ≤ S ∧ spB b' ≤ P) ∧ st3[k + 1]? = some (.lst (blL b')) ∧ Pen xs st3 ∧ FrP st st3 := by
    by_cases hs : 0 < s'
    · by_cases hpp : 0 < p'
      · obtain ⟨w, st3, hw, e3, h3, f3⟩ := drawE hx hb3 M (many := 2) (by omega) (by omega) (e := eC (.int 2)) (env := [some (.int (n : Int)), some (.int (L : Int)), some (.int (S : Int)), some (.int (P : Int)), some (.loc k), some (.loc (k + 1)), x7]) (fun _ => rfl)
        have q3 : st3[k + 1]? = some (.lst (blL b)) := by
          rw [f3.same (k + 1) (List.getElem?_eq_some_iff.mp hb5).1 (by omega) (by omega)]; exact hb5
        have tw : (cB (eBin opEq (eCall F__law_draw (lCons (eVar 0) (lCons (eC (.int 2)) lNil))) (eC (.int 0)))) (CX (M + 2)) (eP n L S P k (k + 1) x7) st2 = some (.ok ((w : Int) == 0), st3) := cB_run (bin_run (y := .int 0) e3 rfl (eqi _ _ _))
        have tt : (cAnd (cB (eBin opGt (eBin opIx (eVar 5) (eC (.int 1))) (eC (.int 0)))) (cAnd (cB (eBin opGt (eBin opIx (eVar 5) (eC (.int 2))) (eC (.int 0)))) (cB (eBin opEq (eCall F__law_draw (lCons (eVar 0) (lCons (eC (.int 2)) lNil))) (eC (.int 0)))))) (CX (M + 2)) (eP n L S P k (k + 1) x7) st2 = some (.ok ((w : Int) == 0), st3) := by
          rw [decide_eq_true hs] at ts
          rw [decide_eq_true hpp] at tp
          unfold cAnd
          rw [bnd_ok ts, if_pos rfl, bnd_ok tp, if_pos rfl]
          exact tw
        by_cases hw0 : w = 0
        · subst hw0
          obtain ⟨x, st4, hxn, e4, h4, f4⟩ := drawE hx h3 M (many := n) (by omega) (by omega) (e := eVar 1) (env := [some (.int (n : Int)), some (.int (L : Int)), some (.int (S : Int)), some (.int (P : Int)), some (.loc k), some (.loc (k + 1)), x7]) (fun _ => rfl)
          have q4 : st4[k + 1]? = some (.lst (blL b)) := by
            rw [f4.same (k + 1) (List.getElem?_eq_some_iff.mp q3).1 (by omega) (by omega)]; exact q3
          have ap := append_run (c := CX (M + 2)) (env := eP n L S P k (k + 1) x7) (a := eVar 6) (b := (eTup (lCons (eC (.str w_look)) (lCons (eCall F__law_draw (lCons (eVar 0) (lCons (eVar 1) lNil))) lNil)))) (k := k + 1) (y := (Stm.look x).d) (var_run rfl) q3 (tup_run (xs := [.str w_look, .int (x : Int)]) (lcons_run (x := .str w_look) rfl (lcons_run e4 lnil_run)) lim2) q4 (by rw [blL_len, lim_eq]; omega)
          have hd := h4.setq (q := k + 1) (.lst (blL b ++ [(Stm.look x).d])) (by omega) (by omega)
          refine ⟨b ++ [.look x], _, (if_t (by rw [tt]; rfl)).trans (expr_run ap), by simp; omega, okB_snoc hb2 (ok_look hxn), by rw [cntB_snoc, spB_snoc]; simp only [Stm.cnt, Stm.spt]; omega, ?_, hd.pen, frq _ (frk (frk hb6 f3) f4)⟩
          rw [List.getElem?_set_self (List.getElem?_eq_some_iff.mp q4).1, blL_snoc]
        · have hwf : ((w : Int) == 0) = false := by simp; omega
          exact ⟨b, st3, (if_f (by rw [tt, hwf])).trans rfl, by omega, hb2, by omega, q3, h3.pen, frk hb6 f3⟩
      · rw [decide_eq_false hpp] at tp
        rw [decide_eq_true hs] at ts
        have tt : (cAnd (cB (eBin opGt (eBin opIx (eVar 5) (eC (.int 1))) (eC (.int 0)))) (cAnd (cB (eBin opGt (eBin opIx (eVar 5) (eC (.int 2))) (eC (.int 0)))) (cB (eBin opEq (eCall F__law_draw (lCons (eVar 0) (lCons (eC (.int 2)) lNil))) (eC (.int 0)))))) (CX (M + 2)) (eP n L S P k (k + 1) x7) st2 = some (.ok false, st2) := by
          unfold cAnd
          rw [bnd_ok ts, if_pos rfl, bnd_ok tp]; rfl
        exact ⟨b, st2, (if_f tt).trans rfl, by omega, hb2, by omega, hb5, hb3.pen, hb6⟩
    · rw [decide_eq_false hs] at ts
      exact ⟨b, st2, (if_f (and_f ts)).trans rfl, by omega, hb2, by omega, hb5, hb3.pen, hb6⟩
  obtain ⟨b', st3, s2, l7, ok4, c4, q5, pen5, fr5⟩ := last
  have hbody : b__law_program (CX (M + 2)) [some (.loc 0), some (.int (n : Int)), some (.int (L : Int)), some (.int (S : Int)), some (.int (P : Int)), none, none, none] st = some (.rt (prD n b'), eP n L S P k (k + 1) x7, st3) := by
    unfold b__law_program
    rw [seq_nx s0]
    refine (seq_nx (a := b__law_program_1) e2).trans ((seq_nx s2).trans ?_)
    exact ret_run (tup_run (xs := [.int (n : Int), .tup (blL b')]) (lcons_run (var_run rfl) (lcons_run (tuple_loc (var_run rfl) q5) lnil_run)) lim2)
  exact ⟨b', st3, fr_rt rfl rfl hbody, ⟨ok4, l7, c4.1, c4.2⟩, pen5, fr5⟩
end MI

set_option autoImplicit false
set_option maxRecDepth 100000
set_option linter.all false
/-! E5: the lines of a program. -/
namespace MI
open PySem
def dg (x : Nat) : List Nat := [48 + x]
theorem strI_dg : ∀ x : Nat, x < 10 → strI (x : Int) = dg x := by
  intro x h
  match x, h with
  | 0, _ => decide +kernel
  | 1, _ => decide +kernel
  | 2, _ => decide +kernel
  | 3, _ => decide +kernel
  | 4, _ => decide +kernel
  | 5, _ => decide +kernel
  | 6, _ => decide +kernel
  | 7, _ => decide +kernel
  | 8, _ => decide +kernel
  | 9, _ => decide +kernel
theorem log_dg : ∀ x : Nat, x < 10 → ((x : Int)).natAbs.log2 < 1920 := by
  intro x h
  have : ∀ y : Fin 10, ((y.val : Int)).natAbs.log2 < 1920 := by decide +kernel
  exact this ⟨x, h⟩
theorem bStr_dg {x : Nat} (h : x < 10) (st : Stt) : bStr (.int (x : Int)) st = some (.ok (.str (dg x)), st) := by
  simp only [bStr, log_dg x h, if_true, strI_dg x h]
/-- the words of a statement's line -/
def Stm.hd : Stm → List (List Nat)
  | .pl (.fresh x) => [w_fresh, dg x]
  | .pl (.give l x y) => [w_give, dg l, dg x, dg y]
  | .pl (.change l x m) => [w_change, dg l, dg x, dg m]
  | .look x => [w_look, dg x]
  | .br true _ => [w_loop]
  | .br false _ => [w_choose]
def sps (k : Nat) : List Nat := List.replicate (2 * k) 32
theorem sps_succ (k : Nat) : sps k ++ [32, 32] = sps (k + 1) := by
  unfold sps
  rw [show 2 * (k + 1) = 2 * k + 2 by omega, ← List.replicate_append_replicate]; rfl
def lnW (k : Nat) (s : Stm) : List Nat := sps k ++ joinN [32] s.hd
mutual
def lnS : Stm → Nat → List (List Nat)
  | .br true bs, k => lnW k (.br true bs) :: lnBs true bs k
  | .br false bs, k => lnW k (.br false bs) :: lnBs false bs k
  | .pl p, k => [lnW k (.pl p)]
  | .look x, k => [lnW k (.look x)]
def lnB : List Stm → Nat → List (List Nat)
  | [], _ => []
  | s :: r, k => lnS s k ++ lnB r k
def lnBs (lp : Bool) : List (List Stm) → Nat → List (List Nat)
  | [], _ => []
  | b :: r, k => (if lp then [] else [sps k ++ w_way]) ++ (lnB b (k + 1) ++ lnBs lp r k)
end
theorem lnS_eq (s : Stm) (k : Nat) : lnS s k = lnW k s :: lnBs s.isLoop s.bs k := by
  match s with
  | .pl _ => simp [lnS, Stm.bs, lnBs]
  | .look _ => simp [lnS, Stm.bs, lnBs]
  | .br true _ => simp [lnS, Stm.bs, Stm.isLoop]
  | .br false _ => simp [lnS, Stm.bs, Stm.isLoop]
theorem lnB_app : ∀ (a b : List Stm) (k : Nat), lnB (a ++ b) k = lnB a k ++ lnB b k
  | [], b, k => by simp [lnB]
  | s :: a, b, k => by simp [lnB, lnB_app a b k]
theorem lnBs_app (lp : Bool) : ∀ (a b : List (List Stm)) (k : Nat), lnBs lp (a ++ b) k = lnBs lp a k ++ lnBs lp b k
  | [], b, k => by simp [lnBs]
  | s :: a, b, k => by simp [lnBs, lnBs_app lp a b k]
theorem lnB_take {b : List Stm} {i : Nat} {s : Stm} (h : b[i]? = some s) (k : Nat) : lnB (b.take (i + 1)) k = lnB (b.take i) k ++ lnS s k := by
  obtain ⟨hi, e⟩ := List.getElem?_eq_some_iff.mp h
  rw [List.take_succ_eq_append_getElem hi, lnB_app, e]
  simp [lnB]
theorem lnBs_take {lp : Bool} {b : List (List Stm)} {i : Nat} {s : List Stm} (h : b[i]? = some s) (k : Nat) : lnBs lp (b.take (i + 1)) k = lnBs lp (b.take i) k ++ ((if lp then [] else [sps k ++ w_way]) ++ lnB s (k + 1)) := by
  obtain ⟨hi, e⟩ := List.getElem?_eq_some_iff.mp h
  rw [List.take_succ_eq_append_getElem hi, lnBs_app, e]
  simp [lnBs]
mutual
theorem lnS_len : ∀ (s : Stm) (n d k : Nat), s.ok n d → (lnS s k).length ≤ 4 * s.cnt
  | .br lp bs, n, 0, k, h => h.elim
  | .br true bs, n, d + 1, k, h => by
    have := lnBs_len true bs n d k h.2.2
    have h3 := h.2.1
    simp only [lnS, Stm.cnt, List.length_cons]; omega
  | .br false bs, n, d + 1, k, h => by
    have := lnBs_len false bs n d k h.2.2
    have h3 := h.2.1
    simp only [lnS, Stm.cnt, List.length_cons]; omega
  | .pl p, _, _, k, _ => by simp [lnS, Stm.cnt]
  | .look x, _, _, k, _ => by simp [lnS, Stm.cnt]
theorem lnB_len : ∀ (b : List Stm) (n d k : Nat), okB n d b → (lnB b k).length ≤ 4 * cntB b
  | [], _, _, _, _ => by simp [lnB]
  | s :: r, n, d, k, h => by
    have h1 := lnS_len s n d k h.1
    have h2 := lnB_len r n d k h.2
    simp only [lnB, cntB, List.length_append]; omega
theorem lnBs_len (lp : Bool) : ∀ (bs : List (List Stm)) (n d k : Nat), okBs n d bs → (lnBs lp bs k).length ≤ bs.length + 4 * cntBs bs
  | [], _, _, _, _ => by simp [lnBs]
  | b :: r, n, d, k, h => by
    have h1 := lnB_len b n d (k + 1) h.1.2
    have h2 := lnBs_len lp r n d k h.2
    cases lp <;> simp only [lnBs, cntBs, List.length_append, List.length_cons, List.length_nil, if_true, if_false, Bool.false_eq_true] <;> omega
end
/-- a line: short, plain signs, one line -/
def LnOk (l : List Nat) : Prop := l.length ≤ 40 ∧ (∀ c ∈ l, c < 128) ∧ 10 ∉ l
theorem sps_mem {k c : Nat} (h : c ∈ sps k) : c = 32 := (List.mem_replicate.mp h).2
theorem sps_len (k : Nat) : (sps k).length = 2 * k := by simp [sps]
theorem lnOk_app {k : Nat} {w : List Nat} (hk : k ≤ 5) (hl : w.length ≤ 20) (h1 : ∀ c ∈ w, c < 128 ∧ c ≠ 10) : LnOk (sps k ++ w) := by
  refine ⟨by rw [List.length_append, sps_len]; omega, fun c hc => ?_, fun hc => ?_⟩
  · rcases List.mem_append.mp hc with h | h
    · have := sps_mem h; omega
    · exact (h1 c h).1
  · rcases List.mem_append.mp hc with h | h
    · have := sps_mem h; omega
    · exact (h1 10 h).2 rfl
theorem dg_mem {x c : Nat} (hx : x < 10) (h : c ∈ dg x) : c < 128 ∧ c ≠ 10 := by
  simp [dg] at h; omega
theorem joinN_mem {c : Nat} : ∀ {ws : List (List Nat)}, c ∈ joinN [32] ws → c = 32 ∨ ∃ w ∈ ws, c ∈ w
  | [], h => by simp [joinN] at h
  | [x], h => .inr ⟨x, by simp, h⟩
  | x :: y :: r, h => by
    rw [joinN, List.append_assoc] at h
    rcases List.mem_append.mp h with h | h
    · exact .inr ⟨x, by simp, h⟩
    · rcases List.mem_append.mp h with h | h
      · exact .inl (by simpa using h)
      · rcases joinN_mem h with h | ⟨w, hw, h⟩
        · exact .inl h
        · exact .inr ⟨w, List.mem_cons_of_mem _ hw, h⟩
theorem hd_words {s : Stm} {n d : Nat} (hn : n ≤ 4) (h : s.ok n d) : ∀ w ∈ s.hd, (∀ c ∈ w, c < 128 ∧ c ≠ 10 ∧ c ≠ 32) ∧ w.length ≤ 6 ∧ w ≠ [] := by
  have fx : ∀ w : List Nat, w ∈ [w_fresh, w_give, w_change, w_look, w_loop, w_choose] → (∀ c ∈ w, c < 128 ∧ c ≠ 10 ∧ c ≠ 32) ∧ w.length ≤ 6 ∧ w ≠ [] := by decide +kernel
  have fd : ∀ x, x < 10 → (∀ c ∈ dg x, c < 128 ∧ c ≠ 10 ∧ c ≠ 32) ∧ (dg x).length ≤ 6 ∧ dg x ≠ [] := fun x hx => ⟨fun c hc => by simp [dg] at hc; omega, by simp [dg], by simp [dg]⟩
  have ok1 : ∀ {p : Pl}, (Stm.pl p).ok n d → p.ok n := fun h => by cases d <;> exact h
  have ok2 : ∀ {x}, (Stm.look x).ok n d → x < n := fun h => by cases d <;> exact h
  intro w hw
  match s, h with
  | .pl (.fresh x), h =>
    have := ok1 h
    simp [Stm.hd] at hw
    rcases hw with rfl | rfl
    · exact fx _ (by simp)
    · exact fd _ (by have : x < n := this; omega)
  | .pl (.give l x y), h =>
    have ⟨h1, h2, h3, h4⟩ := ok1 h
    simp [Stm.hd] at hw
    rcases hw with rfl | rfl | rfl | rfl
    · exact fx _ (by simp)
    · exact fd _ (by omega)
    · exact fd _ (by omega)
    · exact fd _ (by omega)
  | .pl (.change l x m), h =>
    have ⟨h1, h2, h3⟩ := ok1 h
    simp [Stm.hd] at hw
    rcases hw with rfl | rfl | rfl | rfl
    · exact fx _ (by simp)
    · exact fd _ (by omega)
    · exact fd _ (by omega)
    · exact fd _ (by omega)
  | .look x, h =>
    have := ok2 h
    simp [Stm.hd] at hw
    rcases hw with rfl | rfl
    · exact fx _ (by simp)
    · exact fd _ (by omega)
  | .br true _, _ => simp [Stm.hd] at hw; subst hw; exact fx _ (by simp)
  | .br false _, _ => simp [Stm.hd] at hw; subst hw; exact fx _ (by simp)
theorem hd_len (s : Stm) : 1 ≤ s.hd.length ∧ s.hd.length ≤ 4 := by
  match s with
  | .pl (.fresh _) => simp [Stm.hd]
  | .pl (.give _ _ _) => simp [Stm.hd]
  | .pl (.change _ _ _) => simp [Stm.hd]
  | .look _ => simp [Stm.hd]
  | .br true _ => simp [Stm.hd]
  | .br false _ => simp [Stm.hd]
theorem hd_join_len {s : Stm} : (joinN [32] s.hd).length ≤ 20 := by
  match s with
  | .pl (.fresh _) => simp [Stm.hd, joinN, dg]
  | .pl (.give _ _ _) => simp [Stm.hd, joinN, dg]
  | .pl (.change _ _ _) => simp [Stm.hd, joinN, dg]
  | .look _ => simp [Stm.hd, joinN, dg]
  | .br true _ => simp [Stm.hd, joinN]
  | .br false _ => simp [Stm.hd, joinN]
theorem lnW_ok {s : Stm} {n d k : Nat} (hn : n ≤ 4) (h : s.ok n d) (hk : k ≤ 5) : LnOk (lnW k s) := by
  refine lnOk_app hk hd_join_len fun c hc => ?_
  rcases joinN_mem hc with h1 | ⟨w, hw, h1⟩
  · omega
  · have := (hd_words hn h w hw).1 c h1
    exact ⟨this.1, this.2.1⟩
theorem way_ok {k : Nat} (hk : k ≤ 5) : LnOk (sps k ++ w_way) := lnOk_app hk (by decide) (by decide +kernel)
mutual
theorem lnS_ok : ∀ (s : Stm) (n d k : Nat), n ≤ 4 → k + d ≤ 5 → s.ok n d → ∀ l ∈ lnS s k, LnOk l
  | .br lp bs, n, 0, k, _, _, h => h.elim
  | .br lp bs, n, d + 1, k, hn, hk, h => by
    intro l hl
    rw [lnS_eq] at hl
    rcases List.mem_cons.mp hl with e | hl
    · subst e; exact lnW_ok hn h (by omega)
    · exact lnBs_ok _ bs n d k hn (by omega) h.2.2 l hl
  | .pl p, n, d, k, hn, hk, h => by
    intro l hl
    simp only [lnS, List.mem_singleton] at hl
    subst hl; exact lnW_ok hn h (by omega)
  | .look x, n, d, k, hn, hk, h => by
    intro l hl
    simp only [lnS, List.mem_singleton] at hl
    subst hl; exact lnW_ok hn h (by omega)
theorem lnB_ok : ∀ (b : List Stm) (n d k : Nat), n ≤ 4 → k + d ≤ 5 → okB n d b → ∀ l ∈ lnB b k, LnOk l
  | [], _, _, _, _, _, _ => by intro l hl; simp [lnB] at hl
  | s :: r, n, d, k, hn, hk, h => by
    intro l hl
    rw [lnB] at hl
    rcases List.mem_append.mp hl with hl | hl
    · exact lnS_ok s n d k hn hk h.1 l hl
    · exact lnB_ok r n d k hn hk h.2 l hl
theorem lnBs_ok (lp : Bool) : ∀ (bs : List (List Stm)) (n d k : Nat), n ≤ 4 → k + d + 1 ≤ 5 → okBs n d bs → ∀ l ∈ lnBs lp bs k, LnOk l
  | [], _, _, _, _, _, _ => by intro l hl; simp [lnBs] at hl
  | b :: r, n, d, k, hn, hk, h => by
    intro l hl
    rw [lnBs] at hl
    rcases List.mem_append.mp hl with hl | hl
    · cases lp with
      | true => simp at hl
      | false => simp at hl; subst hl; exact way_ok (by omega)
    · rcases List.mem_append.mp hl with hl | hl
      · exact lnB_ok b n d (k + 1) hn (by omega) h.1.2 l hl
      · exact lnBs_ok lp r n d k hn hk h.2 l hl
end
end MI

set_option autoImplicit false
set_option maxRecDepth 100000
set_option linter.all false
/-! E6: programs as data; runs on texts; the walk that prints lines. -/
namespace MI
open PySem
mutual
theorem ok_up : ∀ (n : Nat) (d : D), D.ok n d = true → D.ok (n + 1) d = true
  | n, .non, _ => by simp [D.ok]
  | n, .bl _, _ => by simp [D.ok]
  | n, .int _, _ => by simp [D.ok]
  | n, .str s, h => by simp only [D.ok] at h ⊢; exact h
  | 0, .tup _, h => by simp [D.ok] at h
  | n + 1, .tup l, h => by
    simp only [D.ok, Bool.and_eq_true] at h ⊢
    exact ⟨h.1, okL_up n l h.2⟩
  | 0, .xtup _, h => by simp [D.ok] at h
  | n + 1, .xtup l, h => by
    simp only [D.ok, Bool.and_eq_true] at h ⊢
    exact ⟨h.1, okL_up n l h.2⟩
  | 0, .frz _, h => by simp [D.ok] at h
  | n + 1, .frz l, h => by
    simp only [D.ok, Bool.and_eq_true] at h ⊢
    exact ⟨h.1, okL_up n l h.2⟩
  | _, .loc _, h => by simp [D.ok] at h
theorem okL_up : ∀ (n : Nat) (l : List D), D.okL n l = true → D.okL (n + 1) l = true
  | _, [], _ => by simp [D.okL]
  | n, x :: xs, h => by
    simp only [D.okL, Bool.and_eq_true] at h ⊢
    exact ⟨ok_up n x h.1, okL_up n xs h.2⟩
end
theorem ne_self {d : D} (ho : D.ok deep d = true) (st : Stt) : opNe d d st = some (.ok (.bl false), st) := by
  have e : eqD d d st = some (.ok true, st) := by
    unfold eqD
    rw [dat_self ho]
    simp [ho, eqv_refl _ _ ho]
  unfold opNe
  rw [bnd_ok e]; rfl

theorem okB_get {n k : Nat} : ∀ {b : List Stm} {i : Nat} {s : Stm}, okB n k b → b[i]? = some s → s.ok n k
  | [], _, _, _, h => by simp at h
  | x :: r, 0, s, h, e => by simp at e; subst e; exact h.1
  | x :: r, i + 1, s, h, e => okB_get (i := i) h.2 (by simpa using e)
theorem okBs_get {n k : Nat} : ∀ {b : List (List Stm)} {i : Nat} {s : List Stm}, okBs n k b → b[i]? = some s → s.length ≤ 8 ∧ okB n k s
  | [], _, _, _, h => by simp at h
  | x :: r, 0, s, h, e => by simp at e; subst e; exact h.1
  | x :: r, i + 1, s, h, e => okBs_get (i := i) h.2 (by simpa using e)
theorem ok_le {m m' : Nat} {d : D} (h : m ≤ m') (hd : D.ok m d = true) : D.ok m' d = true := by
  induction h with
  | refl => exact hd
  | step _ ih => exact ok_up _ _ ih
theorem tup_ok {m : Nat} {l : List D} (hl : l.length < lim) (h : D.okL m l = true) : D.ok (m + 1) (.tup l) = true := by
  simp only [D.ok, h, decide_eq_true hl, Bool.and_self]
theorem str_ok' {m : Nat} {s : List Nat} (h : ∀ c ∈ s, c < 128) : D.ok m (.str s) = true := by
  have : s.all (· < 1114112) = true := List.all_eq_true.mpr fun c hc => by have := h c hc; simp; omega
  cases m <;> simpa only [D.ok] using this
mutual
theorem Stm.dok {n : Nat} : ∀ (s : Stm) (d : Nat), s.ok n d → D.ok (3 * d + 2) s.d = true
  | .pl (.fresh x), d, _ => by simp [Stm.d, Pl.d, D.ok, D.okL, lim_eq, w_fresh]
  | .pl (.give l x y), d, _ => by simp [Stm.d, Pl.d, D.ok, D.okL, lim_eq, w_give]
  | .pl (.change l x y), d, _ => by simp [Stm.d, Pl.d, D.ok, D.okL, lim_eq, w_change]
  | .look x, d, _ => by simp [Stm.d, D.ok, D.okL, lim_eq, w_look]
  | .br _ _, 0, h => h.elim
  | .br true bs, d + 1, h => by
    have h1 := bsL_dok bs d h.2.2
    have h3 := h.2.1
    refine tup_ok (m := 3 * d + 4) (by rw [List.length_cons, bsL_len, lim_eq]; omega) ?_
    simp only [D.okL, okL_up _ _ h1, Bool.and_true]
    exact str_ok' (by decide +kernel)
  | .br false bs, d + 1, h => by
    have h1 := bsL_dok bs d h.2.2
    have h3 := h.2.1
    refine tup_ok (m := 3 * d + 4) (by show 2 < lim; decide) ?_
    have h4 : D.ok (3 * d + 4) (.tup (bsL bs)) = true := tup_ok (by rw [bsL_len, lim_eq]; omega) h1
    have h5 : D.ok (3 * d + 4) (.str w_choose) = true := str_ok' (by decide +kernel)
    simp only [D.okL, h4, h5, Bool.and_self]
theorem blL_dok {n : Nat} : ∀ (b : List Stm) (d : Nat), okB n d b → D.okL (3 * d + 2) (blL b) = true
  | [], _, _ => by simp [blL, D.okL]
  | s :: r, d, h => by simp only [blL, D.okL, Stm.dok s d h.1, blL_dok r d h.2, Bool.and_self]
theorem bsL_dok {n : Nat} : ∀ (bs : List (List Stm)) (d : Nat), okBs n d bs → D.okL (3 * d + 3) (bsL bs) = true
  | [], _, _ => by simp [bsL, D.okL]
  | b :: r, d, h => by
    have h1 : D.ok (3 * d + 3) (.tup (blL b)) = true := tup_ok (by rw [blL_len, lim_eq]; have := h.1.1; omega) (blL_dok b d h.1.2)
    simp only [bsL, D.okL, h1, bsL_dok r d h.2, Bool.and_self]
end
theorem prD_ok {n d : Nat} {b : List Stm} (h : okB n d b) (hl : b.length ≤ 100) (hd : d ≤ 10) : D.ok deep (prD n b) = true := by
  have h1 : D.ok (3 * d + 3) (.tup (blL b)) = true := tup_ok (by rw [blL_len, lim_eq]; omega) (blL_dok b d h)
  have h2 : D.ok (3 * d + 4) (prD n b) = true := by
    refine tup_ok (by show 2 < lim; decide) ?_
    have hi : D.ok (3 * d + 3) (.int (n : Int)) = true := by simp [D.ok]
    simp only [D.okL, hi, h1, Bool.and_self]
  exact ok_le (by show 3 * d + 4 ≤ 40; omega) h2
/-! ### texts -/
theorem strs_map : ∀ ws : List (List Nat), strs? (ws.map D.str) = some ws
  | [] => rfl
  | w :: ws => by simp [strs?, strs_map ws]
theorem sum_le {l : List (List Nat)} {k : Nat} (h : ∀ w ∈ l, w.length ≤ k) : (l.map (·.length)).sum ≤ k * l.length := by
  induction l with
  | nil => simp
  | cons w l ih =>
    have h1 := h w (by simp)
    have h2 := ih fun x hx => h x (by simp [hx])
    simp only [List.map_cons, List.sum_cons, List.length_cons]
    rw [Nat.mul_succ]; omega
theorem join_run {y : D} {a : List Nat} {ws : List (List Nat)} {st : Stt} (hy : seqOf y st = some (.ok (ws.map D.str), st)) (ha : a.length ≤ 1) (hw : ∀ w ∈ ws, w.length ≤ 100) (hl : ws.length ≤ 10000) : mJoin (.str a) y st = some (.ok (.str (joinN a ws)), st) := by
  have h1 := sum_le hw
  have h2 : ws.length * a.length ≤ 10000 * 1 := Nat.mul_le_mul hl ha
  have h3 : (ws.map (·.length)).sum + ws.length * a.length < lim := by rw [lim_eq]; omega
  unfold mJoin
  rw [bnd_ok hy]
  simp only [strs_map, h3, if_true, ret]
theorem joinE {e : SE} {a : List Nat} {c : Ctx} {env : Env} {st : Stt} {y : D} {ws : List (List Nat)} (he : e c env st = some (.ok y, st)) (hy : seqOf y st = some (.ok (ws.map D.str), st)) (ha : a.length ≤ 1) (hw : ∀ w ∈ ws, w.length ≤ 100) (hl : ws.length ≤ 10000) : eMt1 isStr mJoin (eC (.str a)) e c env st = some (.ok (.str (joinN a ws)), st) := by
  unfold eMt1
  rw [bnd_ok (a := .str a) (st1 := st) rfl, bnd_ok (a := ()) (st1 := st) rfl, bnd_ok he]
  exact join_run hy ha hw hl
theorem sadd_run {a b : List Nat} (st : Stt) (h : a.length + b.length < lim) : opAdd (.str a) (.str b) st = some (.ok (.str (a ++ b)), st) := by
  simp only [opAdd, h, if_true]
/-- the items of a statement in words -/
def wdD : D → List Nat
  | .int i => strI i
  | .str s => s
  | _ => []
theorem strs_run {c : Ctx} {env : Env} {st : Stt} {v : Nat} {l : List D} {e : SE} {ws : List (List Nat)} (he : e c env st = some (.ok (.tup l), st)) (hv : v < env.length) (hl : l.length ≤ 100) (hc : 100 < c.fuel) (hd : ∀ d ∈ l, (∃ x : Nat, x < 10 ∧ d = .int (x : Int)) ∨ ∃ s, d = .str s) (hw : l.map wdD = ws) :
    eCompF [v] (gVar v) (iSeq e) cYes (eUn bStr (eVar v)) c env st = some (.ok (.frz (ws.map D.str)), st) := by
  refine compF_map (fun d => some (.str (wdD d))) (seq_tup he) (fun i d hi => ?_) (by omega) (by rw [lim_eq]; omega) ?_
  · have hm := hd d (List.mem_of_getElem? hi)
    have hw : v < (wipeE env [v]).length := by simp [wipeE, hv]
    refine compT_y (st1 := st) (d := d) hw rfl (un_run (x := d) (var_run (by rw [List.getElem?_set_self hw])) ?_)
    rcases hm with ⟨x, hx, rfl⟩ | ⟨s, rfl⟩
    · rw [bStr_dg hx, wdD, strI_dg x hx]
    · rfl
  · rw [← hw]; simp [List.filterMap_eq_map, Function.comp_def]
/-- old cells are as they were -/
structure Ex (st st' : Stt) : Prop where
  len : st.length ≤ st'.length
  same : ∀ i, i < st.length → st'[i]? = st[i]?
theorem Ex.refl (st : Stt) : Ex st st := ⟨Nat.le_refl _, fun _ _ => rfl⟩
theorem Ex.trans {a b c : Stt} (h : Ex a b) (g : Ex b c) : Ex a c := ⟨Nat.le_trans h.len g.len, fun i hi => (g.same i (Nat.lt_of_lt_of_le hi h.len)).trans (h.same i hi)⟩
theorem Ex.push (st : Stt) (o : Ob) : Ex st (st ++ [o]) := ⟨by simp, fun i hi => List.getElem?_append_left hi⟩
theorem Ex.set {a b : Stt} (h : Ex a b) {q : Nat} (hq : a.length ≤ q) (o : Ob) : Ex a (b.set q o) := ⟨by simp [h.len], fun i hi => by rw [List.getElem?_set_ne (by omega)]; exact h.same i hi⟩
def Stm.chs : Stm → Bool
  | .br false _ => true
  | _ => false
def q_inner (F : Nat) : SS := (sSeq (sIf (cB (eBin opEq (eBin opIx (eVar 3) (eC (.int 0))) (eC (.str w_choose))))
  (sExpr (eMt1 isLst mAppend (eVar 2) (eBin opAdd (eVar 1) (eC (.str w_way)))))
  sPass)
  (sExpr (eMt1 isLst mExtend (eVar 2) (eCall F (lCons (eVar 6) (lCons (eBin opAdd (eVar 1) (eC (.str w__32__32_))) lNil))))))
def q_turn (F : Nat) (A4 A5 : SS) (JE : SE) : SS := (sSeq A4 (sSeq A5 (sSeq (sExpr (eMt1 isLst mAppend (eVar 2) (eBin opAdd (eVar 1) JE))) (sFor (gVar 6) (iSeq (eVar 4)) (q_inner F)))))
def q_lines (F : Nat) (A4 A5 : SS) (JE : SE) : SS := sSeq (sSet 2 (eLst lNil)) (sSeq (sFor (gVar 3) (iSeq (eVar 0)) (q_turn F A4 A5 JE)) (sRet (eVar 2)))
abbrev eL (b : List Stm) (k q : Nat) (x3 x4 x5 x6 x7 : Option D) : Env := [some (.tup (blL b)), some (.str (sps k)), some (.loc q), x3, x4, x5, x6, x7]
/-- what a turn finds out about a statement -/
def TurnOk (n : Nat) (A4 A5 : SS) (JE : SE) : Prop := ∀ (N d k q : Nat) (b : List Stm) (s : Stm) (x4 x5 x6 x7 : Option D) (st : Stt), 2 ≤ N → s.ok n d → d ≤ 5 →
  ∃ y4 y5, A4 (CX N) (eL b k q (some s.d) x4 x5 x6 x7) st = some (.nx, eL b k q (some s.d) (some y4) x5 x6 x7, st) ∧
    A5 (CX N) (eL b k q (some s.d) (some y4) x5 x6 x7) st = some (.nx, eL b k q (some s.d) (some y4) (some y5) x6 x7, st) ∧
    JE (CX N) (eL b k q (some s.d) (some y4) (some y5) x6 x7) st = some (.ok (.str (joinN [32] s.hd)), st) ∧ (y4 = .tup (bsL s.bs) ∨ y4 = .frz (bsL s.bs))
theorem seq_of {y : D} {l : List D} {c : Ctx} {env : Env} {st : Stt} {i : Nat} (h : env[i]? = some (some y)) (hy : y = .tup l ∨ y = .frz l) : iSeq (eVar i) c env st = some (.ok (.items l), st) := by
  rcases hy with rfl | rfl
  · exact seq_tup (var_run h)
  · exact seq_frz (var_run h)
theorem lines_gen {F : Nat} {A4 A5 : SS} {JE : SE} (hf : prog.fns[F]? = some ⟨2, 8, q_lines F A4 A5 JE⟩) (hp : prog.pures.contains F = false) {n : Nat} (hn : n ≤ 4) (hT : TurnOk n A4 A5 JE) :
    ∀ (d : Nat) (b : List Stm) (k : Nat), okB n d b → b.length ≤ 8 → cntB b ≤ 100 → k + d ≤ 5 → ∀ (N : Nat) (st : Stt), d + 2 ≤ N →
    ∃ q st', prog.call 3000 (N + 1) F [.tup (blL b), .str (sps k)] st = some (.ok (.loc q), st') ∧ st'[q]? = some (.lst ((lnB b k).map D.str)) ∧ st.length ≤ q ∧ Ex st st' := by
  intro d
  induction d using Nat.strongRecOn with
  | ind d ih =>
  intro b k hb hl8 hc hk N st hN
  rw [call_np hf hp]
  generalize hq : st.length = q
  have hx0 : Ex st (st ++ [.lst []]) := Ex.push st _
  have g0 : (st ++ [Ob.lst []])[q]? = some (.lst []) := by rw [← hq]; simp
  have s0 : (sSet 2 (eLst lNil)) (CX N) [some (.tup (blL b)), some (.str (sps k)), none, none, none, none, none, none] st = some (.nx, eL b k q none none none none none, st ++ [.lst []]) := by
    rw [← hq]; exact set_run (lst_new lnil_run (by decide)) (by show 2 < 8; decide)
  obtain ⟨env1, st1, e1, x3, x4, x5, x6, x7, rfl, g1, hx1⟩ := for_inv (g := gVar 3) (it := iSeq (eVar 0)) (b := q_turn F A4 A5 JE) (c := CX N) (env := eL b k q none none none none none) (st := st ++ [.lst []]) (st1 := st ++ [.lst []]) (l := blL b)
    (fun i env st' => ∃ x3 x4 x5 x6 x7, env = eL b k q x3 x4 x5 x6 x7 ∧ st'[q]? = some (.lst ((lnB (b.take i) k).map D.str)) ∧ Ex st st')
    (seq_tup (var_run rfl)) ⟨none, none, none, none, none, rfl, by simpa [lnB] using g0, hx0⟩ (by rw [blL_len]; show _ < 3000; omega) (by
      rintro i dd env st1 hd ⟨x3, x4, x5, x6, x7, rfl, g1, hx1⟩
      rw [blL_get] at hd
      obtain ⟨s, hs, rfl⟩ := Option.map_eq_some_iff.mp hd
      have hsok := okB_get hb hs
      obtain ⟨y4, y5, t4, t5, tj, hy4⟩ := hT N d k q b s x4 x5 x6 x7 st1 (by omega) hsok (by omega)
      have htake : (lnB (b.take i) k).length ≤ 400 := by
        have h1 := lnB_len b n d k hb
        have e : lnB b k = lnB (b.take i) k ++ lnB (b.drop i) k := by rw [← lnB_app, List.take_append_drop]
        rw [e, List.length_append] at h1; omega
      have htake2 : (lnB (b.take (i + 1)) k).length ≤ 400 := by
        have h1 := lnB_len b n d k hb
        have e : lnB b k = lnB (b.take (i + 1)) k ++ lnB (b.drop (i + 1)) k := by rw [← lnB_app, List.take_append_drop]
        rw [e, List.length_append] at h1; omega
      rw [lnB_take hs, lnS_eq] at htake2
      have hlw := hd_join_len (s := s)
      have ap := append_run (c := CX N) (env := eL b k q (some s.d) (some y4) (some y5) x6 x7) (a := eVar 2) (b := eBin opAdd (eVar 1) JE) (k := q) (y := .str (lnW k s)) (var_run rfl) g1 (bin_run (var_run rfl) tj (sadd_run _ (by rw [sps_len, lim_eq]; omega))) g1 (by rw [List.length_map, lim_eq]; omega)
      have hq1 := (List.getElem?_eq_some_iff.mp g1).1
      have g2 : (st1.set q (.lst ((lnB (b.take i) k).map D.str ++ [.str (lnW k s)])))[q]? = some (.lst ((lnB (b.take i) k ++ lnW k s :: lnBs s.isLoop (s.bs.take 0) k).map D.str)) := by
        rw [List.getElem?_set_self hq1]; simp [lnBs]
      obtain ⟨env3, st3, e3, z6, rfl, g3, hx3⟩ := for_inv (g := gVar 6) (it := iSeq (eVar 4)) (b := q_inner F) (c := CX N) (env := eL b k q (some s.d) (some y4) (some y5) x6 x7) (st := st1.set q (.lst ((lnB (b.take i) k).map D.str ++ [.str (lnW k s)]))) (st1 := st1.set q (.lst ((lnB (b.take i) k).map D.str ++ [.str (lnW k s)]))) (l := bsL s.bs)
        (fun j env st' => ∃ z6, env = eL b k q (some s.d) (some y4) (some y5) z6 x7 ∧ st'[q]? = some (.lst ((lnB (b.take i) k ++ lnW k s :: lnBs s.isLoop (s.bs.take j) k).map D.str)) ∧ Ex st st')
        (seq_of rfl hy4) ⟨x6, rfl, g2, hx1.set (by omega) _⟩ (by
          rw [bsL_len]; show _ < 3000
          cases s with
          | pl p => exact Nat.zero_lt_succ _
          | look x => exact Nat.zero_lt_succ _
          | br lp bs => cases d with
            | zero => exact hsok.elim
            | succ d => have := hsok.2.1; show bs.length < 3000; omega) (by
          rintro j bd env st2 hbd ⟨z6, rfl, g2, hx2⟩
          rw [bsL_get] at hbd
          obtain ⟨bb, hbb, rfl⟩ := Option.map_eq_some_iff.mp hbd
          obtain ⟨lp, bs, rfl⟩ : ∃ lp bs, s = .br lp bs := by
            cases s with
            | pl p => simp [Stm.bs] at hbb
            | look x => simp [Stm.bs] at hbb
            | br lp bs => exact ⟨lp, bs, rfl⟩
          obtain ⟨d, rfl⟩ : ∃ z, d = z + 1 := by cases d with
            | zero => exact hsok.elim
            | succ d => exact ⟨d, rfl⟩
          have hbb' : bs[j]? = some bb := hbb
          have hbok := okBs_get hsok.2.2 hbb'
          have hbl := lnBs_take (lp := lp) hbb' k
          have hpre : (lnBs lp (bs.take (j + 1)) k).length ≤ (lnBs lp bs k).length := by
            have e : lnBs lp bs k = lnBs lp (bs.take (j + 1)) k ++ lnBs lp (bs.drop (j + 1)) k := by rw [← lnBs_app, List.take_append_drop]
            rw [e, List.length_append]; omega
          have hq2 := (List.getElem?_eq_some_iff.mp g2).1
          have htot : (lnB (b.take i) k).length + 1 + (lnBs lp bs k).length ≤ 400 := by
            simpa [List.length_append, Stm.isLoop, Stm.bs, Nat.add_assoc, Nat.add_comm, Nat.add_left_comm] using htake2
          have hcb : cntB bb ≤ 100 := by
            have h1 : cntBs bs = cntBs (bs.take j) + (cntB bb + cntBs (bs.drop (j + 1))) := by
              have : ∀ (l : List (List Stm)) (j : Nat) (x : List Stm), l[j]? = some x → cntBs l = cntBs (l.take j) + (cntB x + cntBs (l.drop (j + 1))) := by
                intro l
                induction l with
                | nil => intro j x h; simp at h
                | cons y l ihl =>
                  intro j x h
                  cases j with
                  | zero => simp at h; subst h; simp [cntBs]
                  | succ j => have := ihl j x (by simpa using h); simp [cntBs]; omega
              exact this bs j bb hbb'
            have h2 : (Stm.br lp bs).cnt ≤ cntB b := by
              have : ∀ (l : List Stm) (j : Nat) (x : Stm), l[j]? = some x → x.cnt ≤ cntB l := by
                intro l
                induction l with
                | nil => intro j x h; simp at h
                | cons y l ihl =>
                  intro j x h
                  cases j with
                  | zero => simp at h; subst h; simp [cntB]
                  | succ j => have := ihl j x (by simpa using h); simp [cntB]; omega
              exact this b i _ hs
            simp only [Stm.cnt] at h2
            omega
          -- the way's line
          have ht : (cB (eBin opEq (eBin opIx (eVar 3) (eC (.int 0))) (eC (.str w_choose)))) (CX N) (eL b k q (some (Stm.br lp bs).d) (some y4) (some y5) (some (.tup (blL bb))) x7) st2 = some (.ok (!lp), st2) := by
            cases lp with
            | true => exact cB_run (bin_run (x := .str w_loop) (y := .str w_choose) (bin_run (var_run rfl) (y := .int 0) rfl (ix_tup (k := 0) _ rfl)) rfl (eqs _ _ (by decide +kernel) (by decide +kernel) _))
            | false => exact cB_run (bin_run (x := .str w_choose) (y := .str w_choose) (bin_run (var_run rfl) (y := .int 0) rfl (ix_tup (k := 0) _ rfl)) rfl (eqs _ _ (by decide +kernel) (by decide +kernel) _))
          have way : ∃ st3, (sIf (cB (eBin opEq (eBin opIx (eVar 3) (eC (.int 0))) (eC (.str w_choose)))) (sExpr (eMt1 isLst mAppend (eVar 2) (eBin opAdd (eVar 1) (eC (.str w_way))))) sPass) (CX N) (eL b k q (some (Stm.br lp bs).d) (some y4) (some y5) (some (.tup (blL bb))) x7) st2 = some (.nx, eL b k q (some (Stm.br lp bs).d) (some y4) (some y5) (some (.tup (blL bb))) x7, st3) ∧ st3[q]? = some (.lst ((lnB (b.take i) k ++ lnW k (.br lp bs) :: (lnBs lp (bs.take j) k ++ (if lp then [] else [sps k ++ w_way]))).map D.str)) ∧ Ex st st3 := by
            cases lp with
            | true => exact ⟨st2, if_f ht, by simpa [Stm.isLoop, Stm.bs] using g2, hx2⟩
            | false =>
              have ap := append_run (c := CX N) (env := eL b k q (some (Stm.br false bs).d) (some y4) (some y5) (some (.tup (blL bb))) x7) (a := eVar 2) (b := eBin opAdd (eVar 1) (eC (.str w_way))) (k := q) (y := .str (sps k ++ w_way)) (var_run rfl) g2 (bin_run (var_run rfl) (y := .str w_way) rfl (sadd_run _ (by rw [sps_len, lim_eq]; show 2 * k + 3 < _; omega))) g2 (by
                rw [List.length_map, lim_eq, List.length_append, List.length_cons]
                have : (lnBs (Stm.br false bs).isLoop ((Stm.br false bs).bs.take j) k).length ≤ (lnBs false bs k).length := by
                  have e : lnBs false bs k = lnBs false (bs.take j) k ++ lnBs false (bs.drop j) k := by rw [← lnBs_app, List.take_append_drop]
                  rw [e, List.length_append]; exact Nat.le_add_right _ _
                omega)
              refine ⟨_, (if_t ht).trans (expr_run ap), ?_, hx2.set (by omega) _⟩
              rw [List.getElem?_set_self hq2]; simp [Stm.isLoop, Stm.bs]
          obtain ⟨st3, w1, w2, w3⟩ := way
          obtain ⟨M, rfl⟩ : ∃ M, N = M + 1 := ⟨N - 1, by omega⟩
          obtain ⟨q4, st4, c1, c2, c3, c4⟩ := ih d (by omega) bb (k + 1) hbok.2 hbok.1 hcb (by omega) M st3 (by omega)
          have hq3 := (List.getElem?_eq_some_iff.mp w2).1
          have hcall : eCall F (lCons (eVar 6) (lCons (eBin opAdd (eVar 1) (eC (.str w__32__32_))) lNil)) (CX (M + 1)) (eL b k q (some (Stm.br lp bs).d) (some y4) (some y5) (some (.tup (blL bb))) x7) st3 = some (.ok (.loc q4), st4) := by
            refine call_run (lcons_run (var_run rfl) (lcons_run (bin_run (var_run rfl) (y := .str [32, 32]) rfl (sadd_run _ (by rw [sps_len, lim_eq]; show 2 * k + 2 < _; omega))) lnil_run)) ?_
            rw [sps_succ]; exact c1
          have w4 : st4[q]? = some (.lst ((lnB (b.take i) k ++ lnW k (.br lp bs) :: (lnBs lp (bs.take j) k ++ (if lp then [] else [sps k ++ w_way]))).map D.str)) := by rw [c4.same q hq3]; exact w2
          have hfin : (lnB (b.take i) k ++ lnW k (.br lp bs) :: (lnBs lp (bs.take j) k ++ (if lp then [] else [sps k ++ w_way]))).length + (lnB bb (k + 1)).length ≤ 400 := by
            rw [hbl] at hpre
            simp only [List.length_append, List.length_cons] at hpre ⊢
            omega
          have ex := extend_run (c := CX (M + 1)) (env := eL b k q (some (Stm.br lp bs).d) (some y4) (some y5) (some (.tup (blL bb))) x7) (a := eVar 2) (k := q) (y := .loc q4) (m := (lnB bb (k + 1)).map D.str) (var_run rfl) w2 hcall w4 (by simp only [lstD, c2]) (by rw [List.length_map, List.length_map, lim_eq]; omega)
          refine ⟨_, _, turn_var (by show 6 < 8; decide) ((seq_nx w1).trans (expr_run ex)), some (.tup (blL bb)), rfl, ?_, (w3.trans c4).set (by omega) _⟩
          have hq4 := (List.getElem?_eq_some_iff.mp w4).1
          rw [List.getElem?_set_self hq4]
          simp only [Stm.isLoop, Stm.bs]
          rw [hbl]
          simp)
      refine ⟨_, _, turn_var (by show 3 < 8; decide) ((seq_nx t4).trans ((seq_nx t5).trans ((seq_nx (expr_run ap)).trans e3))), some s.d, some y4, some y5, z6, x7, rfl, ?_, hx3⟩
      rw [g3, lnB_take hs, lnS_eq, bsL_len, List.take_length])
  rw [blL_len, List.take_length] at g1
  refine ⟨q, st1, fr_rt rfl rfl ((seq_nx s0).trans ((seq_nx e1).trans (ret_run (var_run rfl)))), g1, Nat.le_refl _, hx1⟩
end MI

set_option autoImplicit false
set_option maxRecDepth 100000
set_option linter.all false
/-! E7: format_program, _law_lines run. -/
namespace MI
open PySem
theorem fn_lob : prog.fns[F_lines_of_block]? = some ⟨2, 8, b_lines_of_block⟩ := rfl
theorem fn_lln : prog.fns[F__law_lines]? = some ⟨2, 8, b__law_lines⟩ := rfl
theorem fn_fmt : prog.fns[F_format_program]? = some ⟨1, 3, b_format_program⟩ := rfl
theorem fn_lbl : prog.fns[F__law_blocks]? = some ⟨1, 1, b__law_blocks⟩ := rfl
theorem eqD_ok {a b : D} (ha : D.ok deep a = true) (hb : D.ok deep b = true) (st : Stt) : eqD a b st = some (.ok (D.eqv a b), st) := by
  unfold eqD
  rw [dat_self ha]
  simp only [dat_self hb, ha, hb, Bool.and_self, if_true]
theorem opEq_ok {a b : D} (ha : D.ok deep a = true) (hb : D.ok deep b = true) (st : Stt) : opEq a b st = some (.ok (.bl (D.eqv a b)), st) := by
  unfold opEq; rw [bnd_ok (eqD_ok ha hb st)]; rfl
theorem opNe_ok {a b : D} (ha : D.ok deep a = true) (hb : D.ok deep b = true) (st : Stt) : opNe a b st = some (.ok (.bl (!(D.eqv a b))), st) := by
  unfold opNe; rw [bnd_ok (eqD_ok ha hb st)]; rfl
theorem eqvL_nil (l : List D) : D.eqvL l [] = l.isEmpty := by cases l <;> rfl
theorem Stm.bs_ok {n d : Nat} : ∀ {s : Stm}, s.ok n d → ∃ d', d' ≤ d ∧ okBs n d' s.bs ∧ s.bs.length ≤ 3
  | .pl _, _ => ⟨d, Nat.le_refl _, trivial, by simp [Stm.bs]⟩
  | .look _, _ => ⟨d, Nat.le_refl _, trivial, by simp [Stm.bs]⟩
  | .br lp bs, h => by
    cases d with
    | zero => exact h.elim
    | succ d => exact ⟨d, Nat.le_succ _, h.2.2, h.2.1⟩
theorem bs_dok {n d : Nat} {s : Stm} (h : s.ok n d) (hd : d ≤ 5) : D.okL 39 (bsL s.bs) = true ∧ (bsL s.bs).length < lim := by
  obtain ⟨d', h1, h2, h3⟩ := Stm.bs_ok h
  refine ⟨?_, by rw [bsL_len, lim_eq]; omega⟩
  have := bsL_dok s.bs d' h2
  have up : ∀ {m m' : Nat} {l : List D}, m ≤ m' → D.okL m l = true → D.okL m' l = true := fun {m m' l} h hl => by
    induction h with
    | refl => exact hl
    | step _ ih => exact okL_up _ _ ih
  exact up (by omega) this
theorem nil_eq (bs : List (List Stm)) : (bsL bs).isEmpty = bs.isEmpty := by cases bs <;> rfl
theorem simple_items {s : Stm} {n d : Nat} (hn : n ≤ 4) (h : s.ok n d) (hb : s.bs = []) (hbr : ∀ lp bs, s ≠ .br lp bs) : ∃ l, s.d = .tup l ∧ l.length ≤ 100 ∧ (∀ d ∈ l, (∃ x : Nat, x < 10 ∧ d = .int (x : Int)) ∨ ∃ s, d = .str s) ∧ l.map wdD = s.hd := by
  have ok1 : ∀ {p : Pl}, (Stm.pl p).ok n d → p.ok n := fun h => by cases d <;> exact h
  have ok2 : ∀ {x}, (Stm.look x).ok n d → x < n := fun h => by cases d <;> exact h
  have nu : ∀ x : Nat, x < 10 → (∃ y : Nat, y < 10 ∧ D.int (x : Int) = .int (y : Int)) ∨ ∃ s, D.int (x : Int) = .str s := fun x hx => .inl ⟨x, hx, rfl⟩
  match s, h with
  | .pl (.fresh x), h =>
    have h1 : x < n := ok1 h
    refine ⟨_, rfl, by simp, fun d hd => ?_, by simp [wdD, Stm.hd, strI_dg x (by omega)]⟩
    simp at hd
    rcases hd with rfl | rfl
    · exact .inr ⟨_, rfl⟩
    · exact nu x (by omega)
  | .pl (.give l x y), h =>
    have ⟨h1, h2, h3, h4⟩ := ok1 h
    refine ⟨_, rfl, by simp, fun d hd => ?_, by simp [wdD, Stm.hd, strI_dg x (by omega), strI_dg l (by omega), strI_dg y (by omega)]⟩
    simp at hd
    rcases hd with rfl | rfl | rfl | rfl
    · exact .inr ⟨_, rfl⟩
    · exact nu l (by omega)
    · exact nu x (by omega)
    · exact nu y (by omega)
  | .pl (.change l x m), h =>
    have ⟨h1, h2, h3⟩ := ok1 h
    refine ⟨_, rfl, by simp, fun d hd => ?_, by simp [wdD, Stm.hd, strI_dg x (by omega), strI_dg l (by omega), strI_dg m (by omega)]⟩
    simp at hd
    rcases hd with rfl | rfl | rfl | rfl
    · exact .inr ⟨_, rfl⟩
    · exact nu l (by omega)
    · exact nu x (by omega)
    · exact nu m (by omega)
  | .look x, h =>
    have h1 : x < n := ok2 h
    refine ⟨_, rfl, by simp, fun d hd => ?_, by simp [wdD, Stm.hd, strI_dg x (by omega)]⟩
    simp at hd
    rcases hd with rfl | rfl
    · exact .inr ⟨_, rfl⟩
    · exact nu x (by omega)
  | .br lp bs, _ => exact absurd rfl (hbr lp bs)
theorem hd_short {s : Stm} {n d : Nat} (hn : n ≤ 4) (h : s.ok n d) : (∀ w ∈ s.hd, w.length ≤ 100) ∧ s.hd.length ≤ 10000 :=
  ⟨fun w hw => by have := (hd_words hn h w hw).2.1; omega, by have := (hd_len s).2; omega⟩
theorem br_bs {n d : Nat} {lp : Bool} {bs : List (List Stm)} (h : (Stm.br lp bs).ok n d) : bs.isEmpty = false := by
  cases d with
  | zero => exact h.elim
  | succ d =>
    cases lp with
    | true => have := h.1.1 rfl; cases bs <;> simp_all
    | false => have := h.1.2 rfl; cases bs <;> simp_all
theorem br_word {lp : Bool} {bs : List (List Stm)} : ∃ l, (Stm.br lp bs).d = .tup (.str (if lp then w_loop else w_choose) :: l) ∧ (Stm.br lp bs).hd = [if lp then w_loop else w_choose] := by
  cases lp <;> exact ⟨_, rfl, rfl⟩
theorem word_of_br {lp : Bool} {bs : List (List Stm)} {e : SE} {c : Ctx} {env : Env} {st : Stt} (he : e c env st = some (.ok (Stm.br lp bs).d, st)) : eBin opIx e (eC (.int 0)) c env st = some (.ok (.str (if lp then w_loop else w_choose)), st) := by
  obtain ⟨l, h, _⟩ := br_word (lp := lp) (bs := bs)
  rw [h] at he
  exact bin_run he (y := .int 0) rfl (ix_tup (k := 0) _ rfl)
def J_fmt : SE := (eMt1 isStr mJoin (eC (.str w__32_)) (eCompF [7] (gVar 7) (iSeq (eVar 5)) cYes (eUn bStr (eVar 7))))
def A4_fmt : SS := (sSet 4 (eCall F_blocks_of (lCons (eVar 3) lNil)))
def A5_fmt : SS := (sSet 5 (eIf (cB (eBin opEq (eVar 4) (eTup lNil))) (eVar 3) (eTup (lCons (eBin opIx (eVar 3) (eC (.int 0))) lNil))))
theorem eq_lob : b_lines_of_block = q_lines F_lines_of_block A4_fmt A5_fmt J_fmt := rfl
theorem turn_fmt {n : Nat} (hn : n ≤ 4) : TurnOk n A4_fmt A5_fmt J_fmt := by
  intro N d k q b s x4 x5 x6 x7 st hN hs hd
  obtain ⟨M, rfl⟩ : ∃ M, N = M + 1 := ⟨N - 1, by omega⟩
  have hbs := bs_dok hs hd
  have t4 : A4_fmt (CX (M + 1)) (eL b k q (some s.d) x4 x5 x6 x7) st = some (.nx, eL b k q (some s.d) (some (.tup (bsL s.bs))) x5 x6 x7, st) :=
    set_run (call_run (lcons_run (var_run rfl) lnil_run) (blocks_of_run hs M st)) (by show 4 < 8; decide)
  have o1 : D.ok deep (.tup (bsL s.bs)) = true := tup_ok hbs.2 hbs.1
  have tt : (cB (eBin opEq (eVar 4) (eTup lNil))) (CX (M + 1)) (eL b k q (some s.d) (some (.tup (bsL s.bs))) x5 x6 x7) st = some (.ok s.bs.isEmpty, st) := by
    refine cB_run (bin_run (var_run rfl) (y := .tup []) rfl ?_)
    rw [opEq_ok o1 (by decide +kernel), D.eqv, eqvL_nil, nil_eq]
  by_cases hbr : ∃ lp bs, s = .br lp bs
  · obtain ⟨lp, bs, rfl⟩ := hbr
    obtain ⟨l, h1, h2⟩ := br_word (lp := lp) (bs := bs)
    have hemp : (Stm.br lp bs).bs.isEmpty = false := br_bs hs
    rw [hemp] at tt
    refine ⟨_, .tup [.str (if lp then w_loop else w_choose)], t4, set_run ?_ (by show 5 < 8; decide), ?_, .inl rfl⟩
    · unfold eIf
      rw [bnd_ok tt, if_neg (by decide)]
      exact tup_run (lcons_run (word_of_br (var_run rfl)) lnil_run) (by show 1 < lim; decide)
    · have hsh := hd_short hn hs
      refine joinE (strs_run (ws := (Stm.br lp bs).hd) (var_run rfl) (by show 7 < 8; decide) (by simp) (by show 100 < 3000; decide) (fun d hd => .inr ?_) ?_) rfl (by decide) hsh.1 hsh.2
      · simp at hd; exact ⟨_, hd⟩
      · rw [h2]; rfl
  · have hb0 : s.bs = [] := by
      cases s with
      | pl _ => rfl
      | look _ => rfl
      | br lp bs => exact absurd ⟨lp, bs, rfl⟩ hbr
    obtain ⟨l, h1, h2, h3, h4⟩ := simple_items hn hs hb0 (fun lp bs e => hbr ⟨lp, bs, e⟩)
    have hemp : s.bs.isEmpty = true := by rw [hb0]; rfl
    rw [hemp] at tt
    refine ⟨_, s.d, t4, set_run ?_ (by show 5 < 8; decide), ?_, .inl rfl⟩
    · unfold eIf
      rw [bnd_ok tt, if_pos rfl]
      exact var_run rfl
    · have hsh := hd_short hn hs
      exact joinE (strs_run (ws := s.hd) (l := l) (var_run (by rw [h1]; rfl)) (by show 7 < 8; decide) h2 (by show 100 < 3000; decide) h3 h4) rfl (by decide) hsh.1 hsh.2
/-! the law's own -/
theorem law_blocks_run {n d : Nat} {s : Stm} (h : s.ok n d) (N : Nat) (st : Stt) : prog.call 3000 (N + 1) F__law_blocks [s.d] st = some (.ok (.frz (bsL s.bs)), st) := by
  have lf : D.lfL [s.d] = true := by simp [D.lfL, Stm.lf s]
  have lf2 : D.lf (.frz (bsL s.bs)) = true := bsL_lf _
  refine pure_tup fn_lbl (by decide) lf rfl (env' := [some s.d]) (st' := []) ?_ (fun _ z => by cases z) lf2
  match s, h with
  | .pl (.fresh x), _ => rfl
  | .pl (.give l x y), _ => rfl
  | .pl (.change l x m), _ => rfl
  | .look x, _ => rfl
  | .br false bs, h =>
    have hl : bs.length ≤ 3 := by
      cases d with
      | zero => exact h.elim
      | succ d => exact h.2.1
    have ht : (cB (eBin opEq (eBin opIx (eVar 0) (eC (.int 0))) (eC (.str w_choose)))) (CX N) [some (Stm.br false bs).d] [] = some (.ok true, []) :=
      cB_run (bin_run (x := .str w_choose) (word_of_br (lp := false) (bs := bs) (var_run rfl)) (y := .str w_choose) rfl (eqs _ _ (by decide +kernel) (by decide +kernel) _))
    have hlt : (bsL bs).length < lim := by rw [bsL_len, lim_eq]; omega
    refine seq_rt (a := b__law_blocks_0) ((if_t ht).trans (ret_run (un_run (bin_run (x := (Stm.br false bs).d) (var_run rfl) (y := .int 1) rfl (ix_tup (k := 1) (d := .tup (bsL bs)) _ rfl)) ?_)))
    unfold bListF
    rw [bnd_ok (a := bsL bs) (st1 := []) rfl, if_pos hlt]; rfl
  | .br true [b], _ => kernel_rfl
  | .br true [], h => cases d with
    | zero => exact h.elim
    | succ k => exact absurd (h.1.1 rfl) (by simp)
  | .br true (_ :: _ :: _), h => cases d with
    | zero => exact h.elim
    | succ k => exact absurd (h.1.1 rfl) (by simp)
def J_law : SE := (eMt1 isStr mJoin (eC (.str w__32_)) (eVar 5))
def A4_law : SS := (sSet 4 (eCall F__law_blocks (lCons (eVar 3) lNil)))
def A5_law : SS := (sSet 5 (eIf (cB (eBin opNe (eVar 4) (eLstF lNil))) (eLstF (lCons (eBin opIx (eVar 3) (eC (.int 0))) lNil)) (eCompF [7] (gVar 7) (iSeq (eVar 3)) cYes (eUn bStr (eVar 7)))))
theorem eq_lln : b__law_lines = q_lines F__law_lines A4_law A5_law J_law := rfl
theorem turn_law {n : Nat} (hn : n ≤ 4) : TurnOk n A4_law A5_law J_law := by
  intro N d k q b s x4 x5 x6 x7 st hN hs hd
  obtain ⟨M, rfl⟩ : ∃ M, N = M + 1 := ⟨N - 1, by omega⟩
  have hbs := bs_dok hs hd
  have t4 : A4_law (CX (M + 1)) (eL b k q (some s.d) x4 x5 x6 x7) st = some (.nx, eL b k q (some s.d) (some (.frz (bsL s.bs))) x5 x6 x7, st) :=
    set_run (call_run (lcons_run (var_run rfl) lnil_run) (law_blocks_run hs M st)) (by show 4 < 8; decide)
  have o1 : D.ok deep (.frz (bsL s.bs)) = true := by
    show D.ok (39 + 1) (.frz (bsL s.bs)) = true
    simp only [D.ok, hbs.1, decide_eq_true hbs.2, Bool.and_self]
  have tt : (cB (eBin opNe (eVar 4) (eLstF lNil))) (CX (M + 1)) (eL b k q (some s.d) (some (.frz (bsL s.bs))) x5 x6 x7) st = some (.ok (!s.bs.isEmpty), st) := by
    refine cB_run (bin_run (var_run rfl) (y := .frz []) rfl ?_)
    rw [opNe_ok o1 (by decide +kernel), D.eqv, eqvL_nil, nil_eq]
  have hsh := hd_short hn hs
  by_cases hbr : ∃ lp bs, s = .br lp bs
  · obtain ⟨lp, bs, rfl⟩ := hbr
    obtain ⟨l, h1, h2⟩ := br_word (lp := lp) (bs := bs)
    have hemp : (Stm.br lp bs).bs.isEmpty = false := br_bs hs
    rw [hemp] at tt
    refine ⟨_, .frz [.str (if lp then w_loop else w_choose)], t4, set_run ?_ (by show 5 < 8; decide), ?_, .inr rfl⟩
    · unfold eIf
      rw [bnd_ok tt, if_pos (by decide)]
      unfold eLstF
      rw [bnd_ok (lcons_run (word_of_br (var_run rfl)) lnil_run)]
      rfl
    · refine joinE (ws := (Stm.br lp bs).hd) (var_run rfl) (by rw [h2]; rfl) (by decide) hsh.1 hsh.2
  · have hb0 : s.bs = [] := by
      cases s with
      | pl _ => rfl
      | look _ => rfl
      | br lp bs => exact absurd ⟨lp, bs, rfl⟩ hbr
    obtain ⟨l, h1, h2, h3, h4⟩ := simple_items hn hs hb0 (fun lp bs e => hbr ⟨lp, bs, e⟩)
    have hemp : s.bs.isEmpty = true := by rw [hb0]; rfl
    rw [hemp] at tt
    refine ⟨_, .frz (s.hd.map D.str), t4, set_run ?_ (by show 5 < 8; decide), ?_, .inr rfl⟩
    · unfold eIf
      rw [bnd_ok tt, if_neg (by decide)]
      exact strs_run (ws := s.hd) (l := l) (var_run (by rw [h1]; rfl)) (by show 7 < 8; decide) h2 (by show 100 < 3000; decide) h3 h4
    · exact joinE (ws := s.hd) (var_run rfl) rfl (by decide) hsh.1 hsh.2
/-! ### the page -/
def allL (n : Nat) (b : List Stm) : List (List Nat) := (w_names_32_ ++ dg n) :: lnB b 0
def pageL (ls : List (List Nat)) : List Nat := joinN [] (ls.map (· ++ [10]))
def pageN (n : Nat) (b : List Stm) : List Nat := pageL (allL n b)
theorem hdl_ok {n : Nat} (hn : n ≤ 4) : LnOk (w_names_32_ ++ dg n) := by
  have : ∀ m : Fin 5, LnOk (w_names_32_ ++ dg m.val) := by unfold LnOk; decide +kernel
  exact this ⟨n, by omega⟩
theorem allL_ok {n d : Nat} {b : List Stm} (hn : n ≤ 4) (hd : d ≤ 5) (h : okB n d b) : ∀ l ∈ allL n b, LnOk l := by
  intro l hl
  rcases List.mem_cons.mp hl with rfl | hl
  · exact hdl_ok hn
  · exact lnB_ok b n d 0 hn (by omega) h l hl
theorem allL_len {n d : Nat} {b : List Stm} (h : okB n d b) (hc : cntB b ≤ 100) : (allL n b).length ≤ 401 := by
  have := lnB_len b n d 0 h
  simp only [allL, List.length_cons]; omega
theorem page_run {c : Ctx} {env : Env} {st : Stt} {e : SE} {q v : Nat} {ls : List (List Nat)} (hc : 500 < c.fuel) (he : e c env st = some (.ok (.loc q), st)) (hq : st[q]? = some (.lst (ls.map D.str))) (hv : v < env.length) (hl : ls.length ≤ 401) (ho : ∀ l ∈ ls, LnOk l) :
    eMt1 isStr mJoin (eC (.str w_)) (eCompF [v] (gVar v) (iSeq e) cYes (eBin opAdd (eVar v) (eC (.str w__10_)))) c env st = some (.ok (.str (pageL ls)), st) := by
  have h1 : eCompF [v] (gVar v) (iSeq e) cYes (eBin opAdd (eVar v) (eC (.str w__10_))) c env st = some (.ok (.frz ((ls.map (· ++ [10])).map D.str)), st) := by
    refine compF_live (fun l => some (.str (l ++ [10]))) (seq_loc he hq) hq (fun l hm => ?_) (by omega) (by rw [lim_eq]; omega) (by simp [List.filterMap_eq_map, Function.comp_def])
    have hw : v < (wipeE env [v]).length := by simp [wipeE, hv]
    refine compT_y (st1 := st) hw rfl (bin_run (x := .str l) (var_run (by rw [List.getElem?_set_self hw])) (y := .str [10]) rfl (sadd_run _ ?_))
    have := (ho l hm).1
    rw [lim_eq]; show l.length + 1 < _; omega
  refine joinE h1 rfl (by decide) (fun w hw => ?_) (by simp; omega)
  obtain ⟨l, hm, rfl⟩ := List.mem_map.mp hw
  have := (ho l hm).1
  rw [List.length_append]; show l.length + 1 ≤ _; omega
theorem ladd_run {p q : Nat} {l m : List D} {st : Stt} (hp : st[p]? = some (.lst l)) (hq : st[q]? = some (.lst m)) (h : l.length + m.length < lim) : opAdd (.loc p) (.loc q) st = some (.ok (.loc st.length), st ++ [.lst (l ++ m)]) := by
  simp only [opAdd, hp, hq, h, if_true, new]
theorem lob_run {n d : Nat} {b : List Stm} (hn : n ≤ 4) (hd : d ≤ 5) (h : okB n d b) (hl : b.length ≤ 8) (hc : cntB b ≤ 100) {N : Nat} (hN : d + 2 ≤ N) (st : Stt) : ∃ q st', prog.call 3000 (N + 1) F_lines_of_block [.tup (blL b), .str []] st = some (.ok (.loc q), st') ∧ st'[q]? = some (.lst ((lnB b 0).map D.str)) ∧ st.length ≤ q ∧ Ex st st' := by
  have hf : prog.fns[F_lines_of_block]? = some ⟨2, 8, q_lines F_lines_of_block A4_fmt A5_fmt J_fmt⟩ := fn_lob
  exact lines_gen hf (by decide) hn (turn_fmt hn) d b 0 h hl hc (by omega) N st hN
theorem lln_run {n d : Nat} {b : List Stm} (hn : n ≤ 4) (hd : d ≤ 5) (h : okB n d b) (hl : b.length ≤ 8) (hc : cntB b ≤ 100) {N : Nat} (hN : d + 2 ≤ N) (st : Stt) : ∃ q st', prog.call 3000 (N + 1) F__law_lines [.tup (blL b), .str []] st = some (.ok (.loc q), st') ∧ st'[q]? = some (.lst ((lnB b 0).map D.str)) ∧ st.length ≤ q ∧ Ex st st' := by
  have hf : prog.fns[F__law_lines]? = some ⟨2, 8, q_lines F__law_lines A4_law A5_law J_law⟩ := fn_lln
  exact lines_gen hf (by decide) hn (turn_law hn) d b 0 h hl hc (by omega) N st hN
theorem opFmt_dg {x : Nat} (h : x < 10) (st : Stt) : opFmt (.int (x : Int)) st = some (.ok (.str (dg x)), st) := by
  simp only [opFmt, log_dg x h, if_true, strI_dg x h]
theorem fs_cons {g : SE} {gs : List SE} {acc y : List Nat} {c : Ctx} {env : Env} {st st1 : Stt} {r : Option (Rs D × Stt)} (h : g c env st = some (.ok (.str y), st1)) (hl : acc.length + y.length < lim) (hr : eFsL gs (acc ++ y) c env st1 = r) : eFsL (g :: gs) acc c env st = r := by
  rw [eFsL]
  show bnd (g c env) _ st = r
  rw [bnd_ok h]
  simp only [hl, if_true]
  exact hr
theorem fmt_run {n d : Nat} {b : List Stm} (hn : n ≤ 4) (hd : d ≤ 5) (h : okB n d b) (hl : b.length ≤ 8) (hc : cntB b ≤ 100) {N : Nat} (hN : d + 3 ≤ N) (st : Stt) : prog.call 3000 (N + 1) F_format_program [prD n b] st = some (.ok (.str (pageN n b)), st) := by
  obtain ⟨M, rfl⟩ : ∃ M, N = M + 1 := ⟨N - 1, by omega⟩
  have lf : D.lfL [prD n b] = true := by simp [D.lfL, prD_lf]
  have e1 : (eFs [(eC (.str w_names_32_)), (eUn opFmt (eBin opIx (eVar 0) (eC (.int 0))))]) (CX (M + 1)) [some (prD n b), none, none] [] = some (.ok (.str (w_names_32_ ++ dg n)), []) := by
    have h2 : (eUn opFmt (eBin opIx (eVar 0) (eC (.int 0)))) (CX (M + 1)) [some (prD n b), none, none] [] = some (.ok (.str (dg n)), []) :=
      un_run (bin_run (x := prD n b) (var_run rfl) (y := .int 0) rfl (ix_tup (k := 0) _ rfl)) (opFmt_dg (by omega) _)
    exact fs_cons (y := w_names_32_) (st1 := []) rfl (by decide) (fs_cons h2 (by show 6 + 1 < lim; decide) rfl)
  have l1 := lst_new (l := lCons (eFs [(eC (.str w_names_32_)), (eUn opFmt (eBin opIx (eVar 0) (eC (.int 0))))]) lNil) (lcons_run e1 lnil_run) (by show 1 < lim; decide)
  obtain ⟨q, st', c1, c2, c3, c4⟩ := lob_run hn hd h hl hc (N := M) (by omega) [.lst [.str (w_names_32_ ++ dg n)]]
  have g0 : st'[0]? = some (.lst [.str (w_names_32_ ++ dg n)]) := c4.same 0 (by simp)
  have hlen := lnB_len b n d 0 h
  have hcall : eCall F_lines_of_block (lCons (eBin opIx (eVar 0) (eC (.int 1))) (lCons (eC (.str w_)) lNil)) (CX (M + 1)) [some (prD n b), none, none] [.lst [.str (w_names_32_ ++ dg n)]] = some (.ok (.loc q), st') :=
    call_run (lcons_run (bin_run (x := prD n b) (var_run rfl) (y := .int 1) rfl (ix_tup (k := 1) (d := .tup (blL b)) _ rfl)) (lcons_run (x := .str []) rfl lnil_run)) c1
  have s0 : b_format_program_0 (CX (M + 1)) [some (prD n b), none, none] [] = some (.nx, [some (prD n b), some (.loc st'.length), none], st' ++ [.lst ((allL n b).map D.str)]) :=
    set_run (bin_run l1 hcall (ladd_run g0 c2 (by rw [List.length_map, lim_eq]; show 1 + _ < _; omega))) (by show 1 < 3; decide)
  refine pure_tup fn_fmt (by decide) lf rfl (env' := [some (prD n b), some (.loc st'.length), none]) (st' := st' ++ [.lst ((allL n b).map D.str)]) ?_ (fun _ z => by cases z) rfl
  refine (seq_nx s0).trans (ret_run (page_run (by show 500 < 3000; decide) (var_run rfl) (by simp) (by show 2 < 3; decide) (allL_len h hc) (allL_ok hn hd h)))
end MI

set_option autoImplicit false
set_option maxRecDepth 100000
set_option linter.all false
/-! E8: texts cut in pieces; reading lines, plainly. -/
namespace MI
open PySem
theorem split_one {c : Nat} : ∀ {l : List Nat}, c ∉ l → splitC c l = [l]
  | [], _ => rfl
  | x :: l, h => by
    have h1 : x ≠ c := fun e => h (by simp [e])
    rw [splitC, if_neg h1, split_one (l := l) (fun z => h (by simp [z]))]
theorem split_cons {c : Nat} {rest : List Nat} : ∀ {l : List Nat}, c ∉ l → splitC c (l ++ c :: rest) = l :: splitC c rest
  | [], _ => by simp [splitC]
  | x :: l, h => by
    have h1 : x ≠ c := fun e => h (by simp [e])
    rw [List.cons_append, splitC, if_neg h1, split_cons (l := l) (fun z => h (by simp [z]))]
theorem split_join : ∀ {ws : List (List Nat)}, ws ≠ [] → (∀ w ∈ ws, 32 ∉ w) → splitC 32 (joinN [32] ws) = ws
  | [], h, _ => absurd rfl h
  | [x], _, h => split_one (h x (by simp))
  | x :: y :: r, _, h => by
    rw [joinN, List.append_assoc, List.singleton_append, split_cons (h x (by simp)), split_join (by simp) (fun w hw => h w (by simp [hw]))]
theorem joinN_flat : ∀ ls : List (List Nat), joinN [] ls = ls.flatten
  | [] => rfl
  | [x] => by simp [joinN]
  | x :: y :: r => by rw [joinN, joinN_flat (y :: r)]; simp
theorem split_page : ∀ {ls : List (List Nat)}, (∀ l ∈ ls, 10 ∉ l) → splitC 10 (pageL ls) = ls ++ [[]]
  | [], _ => rfl
  | l :: ls, h => by
    have := split_page (ls := ls) (fun x hx => h x (by simp [hx]))
    unfold pageL at this ⊢
    rw [joinN_flat] at this ⊢
    rw [List.map_cons, List.flatten_cons, List.append_assoc, List.singleton_append, split_cons (h l (by simp)), this]; rfl
theorem strip_sps (k : Nat) {x : Nat} {w : List Nat} (hx : x ≠ 32) : (sps k ++ x :: w).dropWhile (fun c => ([32] : List Nat).contains c) = x :: w := by
  have h1 : ∀ m : Nat, (List.replicate m 32 ++ x :: w).dropWhile (fun c => ([32] : List Nat).contains c) = x :: w := by
    intro m
    induction m with
    | zero => simp [List.dropWhile, hx]
    | succ m ih => rw [List.replicate_succ, List.cons_append, List.dropWhile_cons]; simpa using ih
  exact h1 _
/-! ### the reader, plainly -/
inductive Wd where
  | no
  | lp
  | ch
def Wd.d : Wd → D
  | .no => .non
  | .lp => .str w_loop
  | .ch => .str w_choose
/-- an open block -/
structure AF where
  done : List D
  word : Wd
  inner : List D
def fin : AF → Option AF
  | ⟨d, .no, _⟩ => some ⟨d, .no, []⟩
  | ⟨d, .lp, t :: _⟩ => if d.length < 1000 then some ⟨d ++ [.tup [.str w_loop, t]], .no, []⟩ else none
  | ⟨_, .lp, []⟩ => none
  | ⟨d, .ch, i⟩ => if 2 ≤ i.length ∧ d.length < 1000 then some ⟨d ++ [.tup [.str w_choose, .tup i]], .no, []⟩ else none
def nw : AF := ⟨[], .no, []⟩
/-- so many blocks closed, the innermost first -/
def closeA : Nat → List AF → Option (List AF)
  | 0, s => some s
  | m + 1, f :: g :: s => match fin f with
    | some f' => if g.inner.length < 1000 then closeA m (⟨g.done, g.word, g.inner ++ [.tup f'.done]⟩ :: s) else none
    | none => none
  | _ + 1, _ => none
theorem closeA_more : ∀ {m : Nat} {s : List AF} {g2 f2 g : AF} {rest : List AF}, closeA m s = some (g2 :: g :: rest) → fin g2 = some f2 → g.inner.length < 1000 → closeA (m + 1) s = some (⟨g.done, g.word, g.inner ++ [.tup f2.done]⟩ :: rest)
  | 0, s, g2, f2, g, rest, h, hf, hg => by
    cases h
    simp only [closeA, hf, hg, if_true]
  | m + 1, [], _, _, _, _, h, _, _ => by simp [closeA] at h
  | m + 1, [_], _, _, _, _, h, _, _ => by simp [closeA] at h
  | m + 1, a :: b :: s, g2, f2, g, rest, h, hf, hg => by
    rw [closeA] at h ⊢
    cases ha : fin a with
    | none => rw [ha] at h; simp at h
    | some f' =>
      rw [ha] at h
      simp only at h ⊢
      by_cases hb : b.inner.length < 1000
      · rw [if_pos hb] at h ⊢
        exact closeA_more h hf hg
      · rw [if_neg hb] at h; simp at h
structure AS where
  s : List AF
  ns : Nat
  sp : Nat
def Stm.plain : Stm → Bool
  | .br _ _ => false
  | _ => true
/-- one line read -/
inductive Step (n : Nat) : List Nat → AS → AS → Prop where
  | way {k m : Nat} {s rest : List AF} {f : AF} {ns sp : Nat} (hc : closeA m s = some (f :: rest)) (hl : s.length = k + 1 + m) (h5 : s.length ≤ 5) (hw : f.word = .ch) (hi : f.inner.length < 3) : Step n (sps k ++ w_way) ⟨s, ns, sp⟩ ⟨nw :: f :: rest, ns, sp⟩
  | pl {k m d : Nat} {s rest : List AF} {g f : AF} {ns sp : Nat} {t : Stm} (hc : closeA m s = some (g :: rest)) (hl : s.length = k + 1 + m) (h5 : s.length ≤ 5) (hf : fin g = some f) (ht : t.plain = true) (ho : t.ok n d) (hd : f.done.length < 8) (h40 : ns < 40) (h12 : sp + t.spt ≤ 12) : Step n (lnW k t) ⟨s, ns, sp⟩ ⟨⟨f.done ++ [t.d], .no, []⟩ :: rest, ns + 1, sp + t.spt⟩
  | lp {k m : Nat} {s rest : List AF} {g f : AF} {ns sp : Nat} {bs : List (List Stm)} (hc : closeA m s = some (g :: rest)) (hl : s.length = k + 1 + m) (h5 : s.length ≤ 5) (hf : fin g = some f) (hd : f.done.length < 8) (h40 : ns < 40) (h12 : sp + 1 ≤ 12) (hr : rest.length < 4) : Step n (lnW k (.br true bs)) ⟨s, ns, sp⟩ ⟨nw :: ⟨f.done, .lp, []⟩ :: rest, ns + 1, sp + 1⟩
  | ch {k m : Nat} {s rest : List AF} {g f : AF} {ns sp : Nat} {bs : List (List Stm)} (hc : closeA m s = some (g :: rest)) (hl : s.length = k + 1 + m) (h5 : s.length ≤ 5) (hf : fin g = some f) (hd : f.done.length < 8) (h40 : ns < 40) (h12 : sp + 1 ≤ 12) (hr : rest.length < 4) : Step n (lnW k (.br false bs)) ⟨s, ns, sp⟩ ⟨⟨f.done, .ch, []⟩ :: rest, ns + 1, sp + 1⟩
inductive Rds (n : Nat) : List (List Nat) → AS → AS → Prop where
  | nil {a : AS} : Rds n [] a a
  | cons {l : List Nat} {ls : List (List Nat)} {a b c : AS} (h : Step n l a b) (t : Rds n ls b c) : Rds n (l :: ls) a c
theorem Rds.app {n : Nat} {l1 l2 : List (List Nat)} {a b c : AS} (h : Rds n l1 a b) (g : Rds n l2 b c) : Rds n (l1 ++ l2) a c := by
  induction h with
  | nil => exact g
  | cons h t ih => exact .cons h (ih g)
/-- closed down to level k, the block g is the innermost -/
def Cl (k : Nat) (s : List AF) (g : AF) (rest : List AF) : Prop := ∃ m, closeA m s = some (g :: rest) ∧ s.length = k + 1 + m ∧ s.length ≤ 5 ∧ rest.length = k
/-- .. and finished it is f -/
def Nrm (k : Nat) (s : List AF) (f : AF) (rest : List AF) : Prop := ∃ g, Cl k s g rest ∧ fin g = some f
theorem Nrm.up {k : Nat} {s rest : List AF} {f g : AF} (h : Nrm (k + 1) s f (g :: rest)) (hg : g.inner.length < 1000) : Cl k s ⟨g.done, g.word, g.inner ++ [.tup f.done]⟩ rest := by
  obtain ⟨g2, ⟨m, h1, h2, h3, h4⟩, h5⟩ := h
  exact ⟨m + 1, closeA_more h1 h5 hg, by omega, h3, by simpa using h4⟩
theorem Cl.here {s : List AF} {g : AF} {rest : List AF} (h : rest.length + 1 ≤ 5) : Cl rest.length (g :: rest) g rest := ⟨0, rfl, by simp, by simpa using h, rfl⟩
mutual
theorem read_S {n : Nat} : ∀ (t : Stm) (d k : Nat) (s rest : List AF) (ds : List D) (ns sp : Nat), Nrm k s ⟨ds, .no, []⟩ rest → ds.length < 8 → t.ok n d → k + d ≤ 4 → ns + t.cnt ≤ 40 → sp + t.spt ≤ 12 →
    ∃ s', Rds n (lnS t k) ⟨s, ns, sp⟩ ⟨s', ns + t.cnt, sp + t.spt⟩ ∧ Nrm k s' ⟨ds ++ [t.d], .no, []⟩ rest
  | .pl p, d, k, s, rest, ds, ns, sp, ⟨g, ⟨m, h1, h2, h3, h4⟩, h5⟩, hd, ho, hk, h40, h12 => by
    have h40' : ns < 40 := by simp only [Stm.cnt] at h40; omega
    subst h4
    refine ⟨_, .cons (.pl h1 h2 h3 h5 rfl ho hd h40' h12) .nil, _, Cl.here (s := s) (by omega), rfl⟩
  | .look x, d, k, s, rest, ds, ns, sp, ⟨g, ⟨m, h1, h2, h3, h4⟩, h5⟩, hd, ho, hk, h40, h12 => by
    have h40' : ns < 40 := by simp only [Stm.cnt] at h40; omega
    subst h4
    refine ⟨_, .cons (.pl h1 h2 h3 h5 rfl ho hd h40' h12) .nil, _, Cl.here (s := s) (by omega), rfl⟩
  | .br lp bs, 0, k, s, rest, ds, ns, sp, _, hd, ho, hk, h40, h12 => ho.elim
  | .br true [], d + 1, k, s, rest, ds, ns, sp, _, hd, ho, hk, h40, h12 => absurd (ho.1.1 rfl) (by simp)
  | .br true (_ :: _ :: _), d + 1, k, s, rest, ds, ns, sp, _, hd, ho, hk, h40, h12 => absurd (ho.1.1 rfl) (by simp)
  | .br true [b], d + 1, k, s, rest, ds, ns, sp, ⟨g, ⟨m, h1, h2, h3, h4⟩, h5⟩, hd, ho, hk, h40, h12 => by
    simp only [Stm.cnt, cntBs, Stm.spt, spBs, Nat.add_zero] at h40 h12
    have hr : rest.length < 4 := by omega
    have hn : Nrm (k + 1) (nw :: ⟨ds, .lp, []⟩ :: rest) ⟨[], .no, []⟩ (⟨ds, .lp, []⟩ :: rest) := ⟨nw, ⟨0, rfl, by simp [h4], by simp only [List.length_cons]; omega, by simp [h4]⟩, rfl⟩
    obtain ⟨s', r, q⟩ := read_B b d (k + 1) _ _ [] (ns + 1) (sp + 1) hn (by have := ho.2.2.1.1; simpa using this) ho.2.2.1.2 (by omega) (by omega) (by omega)
    have st : Step n (lnW k (.br true [b])) ⟨s, ns, sp⟩ ⟨nw :: ⟨ds, .lp, []⟩ :: rest, ns + 1, sp + 1⟩ := .lp h1 h2 h3 h5 hd (by omega) (by omega) hr
    refine ⟨s', ?_, _, q.up (by simp), ?_⟩
    · have e : lnS (.br true [b]) k = lnW k (.br true [b]) :: lnB b (k + 1) := by simp [lnS, lnBs]
      rw [e, show ns + (Stm.br true [b]).cnt = ns + 1 + cntB b by simp only [Stm.cnt, cntBs]; omega, show sp + (Stm.br true [b]).spt = sp + 1 + spB b by simp only [Stm.spt, spBs]; omega]
      exact .cons st r
    · show (if ds.length < 1000 then some (AF.mk (ds ++ [.tup [.str w_loop, .tup (blL b)]]) .no []) else none) = _
      rw [if_pos (by omega)]; rfl
  | .br false bs, d + 1, k, s, rest, ds, ns, sp, ⟨g, ⟨m, h1, h2, h3, h4⟩, h5⟩, hd, ho, hk, h40, h12 => by
    simp only [Stm.cnt, Stm.spt] at h40 h12
    have hr : rest.length < 4 := by omega
    have hl2 := ho.1.2 rfl
    subst h4
    obtain ⟨s', r, q⟩ := read_Bs bs d rest.length _ rest ds [] (ns + 1) (sp + 1) (Cl.here (s := s) (g := ⟨ds, .ch, []⟩) (by omega)) (by have := ho.2.1; simpa using this) ho.2.2 (by omega) (by omega) (by omega)
    have st : Step n (lnW rest.length (.br false bs)) ⟨s, ns, sp⟩ ⟨⟨ds, .ch, []⟩ :: rest, ns + 1, sp + 1⟩ := .ch h1 h2 h3 h5 hd (by omega) (by omega) hr
    refine ⟨s', ?_, _, q, ?_⟩
    · rw [lnS, show ns + (Stm.br false bs).cnt = ns + 1 + cntBs bs by simp only [Stm.cnt]; omega, show sp + (Stm.br false bs).spt = sp + 1 + spBs bs by simp only [Stm.spt]; omega]
      exact .cons st r
    · show (if 2 ≤ ([] ++ bsL bs).length ∧ ds.length < 1000 then some (AF.mk (ds ++ [.tup [.str w_choose, .tup ([] ++ bsL bs)]]) .no []) else none) = _
      rw [if_pos ⟨by rw [List.nil_append, bsL_len]; exact hl2, by omega⟩]; rfl
theorem read_B {n : Nat} : ∀ (b : List Stm) (d k : Nat) (s rest : List AF) (ds : List D) (ns sp : Nat), Nrm k s ⟨ds, .no, []⟩ rest → ds.length + b.length ≤ 8 → okB n d b → k + d ≤ 4 → ns + cntB b ≤ 40 → sp + spB b ≤ 12 →
    ∃ s', Rds n (lnB b k) ⟨s, ns, sp⟩ ⟨s', ns + cntB b, sp + spB b⟩ ∧ Nrm k s' ⟨ds ++ blL b, .no, []⟩ rest
  | [], d, k, s, rest, ds, ns, sp, h, _, _, _, _, _ => ⟨s, .nil, by simpa [blL] using h⟩
  | t :: b, d, k, s, rest, ds, ns, sp, h, hd, ho, hk, h40, h12 => by
    simp only [cntB, spB, List.length_cons] at h40 h12 hd
    obtain ⟨s1, r1, q1⟩ := read_S t d k s rest ds ns sp h (by omega) ho.1 hk (by omega) (by omega)
    obtain ⟨s2, r2, q2⟩ := read_B b d k s1 rest (ds ++ [t.d]) (ns + t.cnt) (sp + t.spt) q1 (by simp; omega) ho.2 hk (by omega) (by omega)
    refine ⟨s2, ?_, by simpa [blL] using q2⟩
    rw [lnB, show ns + cntB (t :: b) = ns + t.cnt + cntB b by simp only [cntB]; omega, show sp + spB (t :: b) = sp + t.spt + spB b by simp only [spB]; omega]
    exact r1.app r2
theorem read_Bs {n : Nat} : ∀ (bs : List (List Stm)) (d k : Nat) (s rest : List AF) (ds is : List D) (ns sp : Nat), Cl k s ⟨ds, .ch, is⟩ rest → is.length + bs.length ≤ 3 → okBs n d bs → k + d + 1 ≤ 4 → ns + cntBs bs ≤ 40 → sp + spBs bs ≤ 12 →
    ∃ s', Rds n (lnBs false bs k) ⟨s, ns, sp⟩ ⟨s', ns + cntBs bs, sp + spBs bs⟩ ∧ Cl k s' ⟨ds, .ch, is ++ bsL bs⟩ rest
  | [], d, k, s, rest, ds, is, ns, sp, h, _, _, _, _, _ => ⟨s, .nil, by simpa [bsL] using h⟩
  | b :: bs, d, k, s, rest, ds, is, ns, sp, ⟨m, h1, h2, h3, h4⟩, hi, ho, hk, h40, h12 => by
    simp only [cntBs, spBs, List.length_cons] at h40 h12 hi
    have st : Step n (sps k ++ w_way) ⟨s, ns, sp⟩ ⟨nw :: ⟨ds, .ch, is⟩ :: rest, ns, sp⟩ := .way h1 h2 h3 rfl (by show is.length < 3; omega)
    have hn : Nrm (k + 1) (nw :: ⟨ds, .ch, is⟩ :: rest) ⟨[], .no, []⟩ (⟨ds, .ch, is⟩ :: rest) := ⟨nw, ⟨0, rfl, by simp [h4], by simp only [List.length_cons]; omega, by simp [h4]⟩, rfl⟩
    obtain ⟨s1, r1, q1⟩ := read_B b d (k + 1) _ _ [] ns sp hn (by have := ho.1.1; simpa using this) ho.1.2 (by omega) (by omega) (by omega)
    have q2 := q1.up (by show is.length < 1000; omega)
    obtain ⟨s2, r2, q3⟩ := read_Bs bs d k s1 rest ds (is ++ [.tup (blL b)]) (ns + cntB b) (sp + spB b) q2 (by simp; omega) ho.2 hk (by omega) (by omega)
    refine ⟨s2, ?_, by simpa [bsL] using q3⟩
    rw [lnBs, show ns + cntBs (b :: bs) = ns + cntB b + cntBs bs by simp only [cntBs]; omega, show sp + spBs (b :: bs) = sp + spB b + spBs bs by simp only [spBs]; omega]
    exact .cons st (r1.app r2)
end
/-- a whole program's lines -/
theorem read_all {n : Nat} {b : List Stm} (ho : okB n 4 b) (hl : b.length ≤ 8) (hc : cntB b ≤ 40) (hs : spB b ≤ 12) : ∃ s', Rds n (lnB b 0) ⟨[nw], 0, 0⟩ ⟨s', cntB b, spB b⟩ ∧ Nrm 0 s' ⟨blL b, .no, []⟩ [] := by
  have := read_B b 4 0 [nw] [] [] 0 0 ⟨nw, ⟨0, rfl, rfl, by decide, rfl⟩, rfl⟩ (by simpa using hl) ho (by omega) (by omega) (by omega)
  simpa using this
end MI

set_option autoImplicit false
set_option maxRecDepth 100000
set_option linter.all false
/-! E9: the reader's objects in the store; finish, close_to run. -/
namespace MI
open PySem
theorem fn_fin : prog.fns[F_OpenBlock__finish]? = some ⟨1, 1, b_OpenBlock__finish⟩ := rfl
theorem fn_obi : prog.fns[F_OpenBlock____init__]? = some ⟨1, 1, b_OpenBlock____init__⟩ := rfl
theorem fn_rdi : prog.fns[F_ProgramReader____init__]? = some ⟨2, 2, b_ProgramReader____init__⟩ := rfl
theorem fn_clo : prog.fns[F_ProgramReader__close_to]? = some ⟨2, 3, b_ProgramReader__close_to⟩ := rfl
theorem fn_rea : prog.fns[F_ProgramReader__read]? = some ⟨2, 5, b_ProgramReader__read⟩ := rfl
theorem fn_rst : prog.fns[F_ProgramReader__read_statement]? = some ⟨2, 5, b_ProgramReader__read_statement⟩ := rfl
section
variable {c : Ctx} {env : Env} {a e : SE} {st st1 st2 : Stt} {k cc : Nat} {fs : List (List Nat × D)} {f m : List Nat} {d : D}
theorem fld_run (ha : a c env st = some (.ok (.loc k), st1)) (hk : st1[k]? = some (.ins cc fs)) (hf : getD fs f = some d) : eFld a f c env st = some (.ok d, st1) := by
  unfold eFld
  rw [bnd_ok ha]
  simp only [opFld, hk, hf]
theorem setFld_run (hk : st[k]? = some (.ins cc fs)) (hl : fs.length < 999) (hc : c.flds cc f = true) : setFld c k f d st = some (st.set k (.ins cc (putD fs f d))) := by
  simp only [setFld, hk, hl, hc, and_self, if_true]
theorem sfld_run (he : e c env st = some (.ok d, st1)) (ha : a c env st1 = some (.ok (.loc k), st1)) (hk : st1[k]? = some (.ins cc fs)) (hl : fs.length < 999) (hc : c.flds cc f = true) : sFld a f e c env st = some (.nx, env, st1.set k (.ins cc (putD fs f d))) := by
  unfold sFld sBnd
  rw [he]
  simp only [ha, endFld, setFld_run (d := d) hk hl hc]
theorem gfld_run (ha : a c env st = some (.ok (.loc k), st)) (hk : st[k]? = some (.ins cc fs)) (hl : fs.length < 999) (hc : c.flds cc f = true) : gFld a f c d env st = some (env, st.set k (.ins cc (putD fs f d))) := by
  unfold gFld gBnd
  rw [ha]
  simp only [setFld_run (d := d) hk hl hc]
theorem fldaug_run {g : D → D → R D} {v y z : D} (ha : a c env st = some (.ok (.loc k), st)) (hk : st[k]? = some (.ins cc fs)) (hf : getD fs f = some v) (he : e c env st = some (.ok y, st)) (hg : g v y st = some (.ok z, st)) (hl : fs.length < 999) (hc : c.flds cc f = true) : sFldAug a f g e c env st = some (.nx, env, st.set k (.ins cc (putD fs f z))) := by
  unfold sFldAug sBnd
  rw [ha]
  simp only [opFldK, hk, hf, he, hg, endFldK, isCls, beq_self_eq_true, if_true, endFld, setFld_run (d := z) hk hl hc]
theorem meth_run {l : SL} {fn : Nat} {xs : List D} {r : Option (Rs D × Stt)} (ha : a c env st = some (.ok (.loc k), st)) (hk : st[k]? = some (.ins cc fs)) (hm : c.meth cc m = some fn) (hf : getD fs m = none) (hl : l c env st = some (.ok xs, st1)) (hc : c.call fn (.loc k :: xs) st1 = r) : eMeth a m l c env st = r := by
  unfold eMeth
  rw [bnd_ok ha]
  have : opRes c m (.loc k) st = some (.ok fn, st) := by simp only [opRes, hk, hm, hf]
  rw [bnd_ok this, bnd_ok hl]
  exact hc
theorem pop_run {l : List D} (ha : a c env st = some (.ok (.loc k), st)) (hk : st[k]? = some (.lst (l ++ [d]))) : eMt0 isLst mPop a c env st = some (.ok d, st.set k (.lst l)) := by
  have h1 : isLst (.loc k) st = some (.ok (), st) := by simp [isLst, hk]
  unfold eMt0
  rw [bnd_ok ha, bnd_ok h1]
  simp [mPop, hk]
/-- x[-1] of a list -/
theorem ixl_last {l : List D} (hk : st[k]? = some (.lst (l ++ [d]))) : opIx (.loc k) (.int (-1)) st = some (.ok d, st) := by
  have e : ixN (l ++ [d]).length (-1) = some l.length := by
    unfold ixN
    rw [if_neg (by decide), if_pos (by simp; omega)]
    simp
    omega
  simp only [opIx, hk, e, Option.bind_some]
  simp
end
structure Loc where
  b : Nat
  d : Nat
  n : Nat
def obO (d n : Nat) (w : Wd) : Ob := .ins C_OpenBlock [(w_done, .loc d), (w_word, w.d), (w_inner, .loc n)]
def rdO (nm bl ns sp : Nat) : Ob := .ins C_ProgramReader [(w_names, .int (nm : Int)), (w_blocks, .loc bl), (w_statements, .int (ns : Int)), (w_spots, .int (sp : Int))]
structure Own (st : Stt) (l : Loc) (f : AF) : Prop where
  b : st[l.b]? = some (obO l.d l.n f.word)
  d : st[l.d]? = some (.lst f.done)
  n : st[l.n]? = some (.lst f.inner)
def OwnL (st : Stt) : List Loc → List AF → Prop
  | [], [] => True
  | l :: ls, f :: s => Own st l f ∧ OwnL st ls s
  | _, _ => False
def flat : List Loc → List Nat
  | [] => []
  | l :: ls => l.b :: l.d :: l.n :: flat ls
theorem Own.frame {st st' : Stt} {l : Loc} {f : AF} (h : Own st l f) (e : ∀ x, x = l.b ∨ x = l.d ∨ x = l.n → st'[x]? = st[x]?) : Own st' l f :=
  ⟨(e _ (.inl rfl)).trans h.b, (e _ (.inr (.inl rfl))).trans h.d, (e _ (.inr (.inr rfl))).trans h.n⟩
theorem OwnL.frame {st st' : Stt} : ∀ {ls : List Loc} {s : List AF}, OwnL st ls s → (∀ x ∈ flat ls, st'[x]? = st[x]?) → OwnL st' ls s
  | [], [], _, _ => trivial
  | l :: ls, f :: s, h, e => ⟨h.1.frame fun x hx => e x (by rcases hx with rfl | rfl | rfl <;> simp [flat]), OwnL.frame h.2 fun x hx => e x (by simp [flat, hx])⟩
  | [], _ :: _, h, _ => h.elim
  | _ :: _, [], h, _ => h.elim
theorem OwnL.len {st : Stt} : ∀ {ls : List Loc} {s : List AF}, OwnL st ls s → ls.length = s.length
  | [], [], _ => rfl
  | l :: ls, f :: s, h => by simp [OwnL.len h.2]
  | [], _ :: _, h => h.elim
  | _ :: _, [], h => h.elim
theorem Own.lt {st : Stt} {l : Loc} {f : AF} (h : Own st l f) : l.b < st.length ∧ l.d < st.length ∧ l.n < st.length := ⟨(List.getElem?_eq_some_iff.mp h.b).1, (List.getElem?_eq_some_iff.mp h.d).1, (List.getElem?_eq_some_iff.mp h.n).1⟩
theorem OwnL.lt {st : Stt} : ∀ {ls : List Loc} {s : List AF}, OwnL st ls s → ∀ x ∈ flat ls, x < st.length
  | [], _, _, x, hx => by simp [flat] at hx
  | l :: ls, f :: s, h, x, hx => by
    simp only [flat, List.mem_cons] at hx
    have := h.1.lt
    rcases hx with rfl | rfl | rfl | hx
    · exact this.1
    · exact this.2.1
    · exact this.2.2
    · exact OwnL.lt h.2 x hx
  | _ :: _, [], h, _, _ => h.elim
structure Sep (r bl : Nat) (l : Loc) (ls : List Loc) : Prop where
  rb : r ≠ bl
  r1 : r ≠ l.b
  r2 : r ≠ l.d
  r3 : r ≠ l.n
  b1 : bl ≠ l.b
  b2 : bl ≠ l.d
  b3 : bl ≠ l.n
  c1 : l.b ≠ l.d
  c2 : l.b ≠ l.n
  c3 : l.d ≠ l.n
  out : ∀ x ∈ flat ls, x ≠ l.b ∧ x ≠ l.d ∧ x ≠ l.n
  nd : (r :: bl :: flat ls).Nodup
theorem sep_of {r bl : Nat} {l : Loc} {ls : List Loc} (h : (r :: bl :: flat (l :: ls)).Nodup) : Sep r bl l ls := by
  simp only [flat, List.nodup_cons, List.mem_cons, not_or] at h
  obtain ⟨⟨h1, h2, h3, h4, h5⟩, ⟨h6, h7, h8, h9⟩, ⟨h10, h11, h12⟩, ⟨h13, h14⟩, h15, h16⟩ := h
  refine ⟨h1, h2, h3, h4, h6, h7, h8, h10, h11, h13, fun x hx => ⟨?_, ?_, ?_⟩, ?_⟩
  · rintro rfl; exact h12 hx
  · rintro rfl; exact h14 hx
  · rintro rfl; exact h15 hx
  · simp only [List.nodup_cons, List.mem_cons, not_or]
    exact ⟨⟨h1, h5⟩, h9, h16⟩
theorem Sep.all {r bl : Nat} {l : Loc} {ls : List Loc} (h : Sep r bl l ls) : (r :: bl :: flat (l :: ls)).Nodup := by
  have nd := h.nd
  simp only [flat, List.nodup_cons, List.mem_cons, not_or] at nd ⊢
  obtain ⟨⟨h1, h5⟩, h9, h16⟩ := nd
  exact ⟨⟨h1, h.r1, h.r2, h.r3, h5⟩, ⟨h.b1, h.b2, h.b3, h9⟩, ⟨h.c1, h.c2, fun z => (h.out _ z).1 rfl⟩, ⟨h.c3, fun z => (h.out _ z).2.1 rfl⟩, fun z => (h.out _ z).2.2 rfl, h16⟩
theorem nd_r {r bl x : Nat} {L : List Nat} (h : (r :: bl :: L).Nodup) (hx : x ∈ L) : x ≠ r ∧ x ≠ bl := by
  simp only [List.nodup_cons, List.mem_cons, not_or] at h
  obtain ⟨⟨_, h1⟩, h2, _⟩ := h
  exact ⟨by rintro rfl; exact h1 hx, by rintro rfl; exact h2 hx⟩
structure Rep (st : Stt) (r bl nm : Nat) (ls : List Loc) (σ : AS) : Prop where
  rd : st[r]? = some (rdO nm bl σ.ns σ.sp)
  bs : st[bl]? = some (.lst ((ls.map fun l => D.loc l.b).reverse))
  own : OwnL st ls σ.s
  nd : (r :: bl :: flat ls).Nodup
theorem weq_lp (w : Wd) (st : Stt) : opEq w.d (.str w_loop) st = some (.ok (.bl (match w with
  | .lp => true
  | _ => false)), st) := by cases w <;> kernel_rfl
theorem weq_ch (w : Wd) (st : Stt) : opEq w.d (.str w_choose) st = some (.ok (.bl (match w with
  | .ch => true
  | _ => false)), st) := by cases w <;> kernel_rfl
theorem wne_ch (w : Wd) (st : Stt) : opNe w.d (.str w_choose) st = some (.ok (.bl (match w with
  | .ch => false
  | _ => true)), st) := by cases w <;> kernel_rfl
/-- the end of finish -/
theorem fin_tail {N : Nat} {st : Stt} {l : Loc} {w : Wd} (hb : st[l.b]? = some (obO l.d l.n w)) :
    (sSeq b_OpenBlock__finish_1 b_OpenBlock__finish_2) (CX N) [some (.loc l.b)] st = some (.rt (.bl true), [some (.loc l.b)], (st ++ [Ob.lst []]).set l.b (obO l.d st.length .no)) := by
  have hlt := (List.getElem?_eq_some_iff.mp hb).1
  have hb1 : (st ++ [Ob.lst []])[l.b]? = some (obO l.d l.n w) := by rw [List.getElem?_append_left hlt]; exact hb
  have hlt1 := (List.getElem?_eq_some_iff.mp hb1).1
  have he : (eTup (lCons (eC .non) (lCons (eLst lNil) lNil))) (CX N) [some (.loc l.b)] st = some (.ok (.tup [.non, .loc st.length]), st ++ [Ob.lst []]) :=
    tup_run (lcons_run (x := .non) rfl (lcons_run (lst_new lnil_run (by decide)) lnil_run)) (by show 2 < lim; decide)
  have h1 : gFld (eVar 0) w_word (CX N) .non [some (.loc l.b)] (st ++ [Ob.lst []]) = some ([some (.loc l.b)], (st ++ [Ob.lst []]).set l.b (obO l.d l.n .no)) :=
    gfld_run (k := l.b) (var_run rfl) hb1 (by show 3 < 999; decide) rfl
  have h2 : gFld (eVar 0) w_inner (CX N) (.loc st.length) [some (.loc l.b)] ((st ++ [Ob.lst []]).set l.b (obO l.d l.n .no)) = some ([some (.loc l.b)], ((st ++ [Ob.lst []]).set l.b (obO l.d l.n .no)).set l.b (obO l.d st.length .no)) :=
    gfld_run (k := l.b) (var_run rfl) (List.getElem?_set_self hlt1) (by show 3 < 999; decide) rfl
  have h3 := asg_two' he h1 h2
  rw [List.set_set] at h3
  exact (seq_nx h3).trans (ret_run rfl)
theorem fin_own {st : Stt} {l : Loc} {w : Wd} {ds : List D} (hb : st[l.b]? = some (obO l.d l.n w)) (hd : st[l.d]? = some (.lst ds)) (hne : l.b ≠ l.d) : Own ((st ++ [Ob.lst []]).set l.b (obO l.d st.length .no)) ⟨l.b, l.d, st.length⟩ ⟨ds, .no, []⟩ := by
  have hlt := (List.getElem?_eq_some_iff.mp hb).1
  have hlt2 := (List.getElem?_eq_some_iff.mp hd).1
  refine ⟨?_, ?_, ?_⟩
  · exact List.getElem?_set_self (by simp; omega)
  · show ((st ++ [Ob.lst []]).set l.b _)[l.d]? = _
    rw [List.getElem?_set_ne hne, List.getElem?_append_left hlt2]; exact hd
  · show ((st ++ [Ob.lst []]).set l.b _)[st.length]? = _
    rw [List.getElem?_set_ne (by omega)]; simp
/-- a block is finished -/
theorem finish_run {st : Stt} {l : Loc} {f f' : AF} (o : Own st l f) (hne : l.b ≠ l.d) (hf : fin f = some f') (N : Nat) :
    ∃ st', prog.call 3000 (N + 1) F_OpenBlock__finish [.loc l.b] st = some (.ok (.bl true), st') ∧ Own st' ⟨l.b, l.d, st.length⟩ f' ∧ st'.length = st.length + 1 ∧ ∀ x, x < st.length → x ≠ l.b → x ≠ l.d → st'[x]? = st[x]? := by
  have hb := o.b
  rw [call_np fn_fin (by decide)]
  have hw : ∀ env, eFld (eVar 0) w_word (CX N) (some (.loc l.b) :: env) st = some (.ok f.word.d, st) := fun env => fld_run (k := l.b) (var_run rfl) hb rfl
  have hdn : ∀ env, eFld (eVar 0) w_done (CX N) (some (.loc l.b) :: env) st = some (.ok (.loc l.d), st) := fun env => fld_run (k := l.b) (var_run rfl) hb rfl
  have hin : ∀ env, eFld (eVar 0) w_inner (CX N) (some (.loc l.b) :: env) st = some (.ok (.loc l.n), st) := fun env => fld_run (k := l.b) (var_run rfl) hb rfl
  have t1 := cB_run (bin_run (f := opEq) (hw []) (b := eC (.str w_loop)) rfl (weq_lp f.word st))
  have t2 := cB_run (bin_run (f := opEq) (hw []) (b := eC (.str w_choose)) rfl (weq_ch f.word st))
  -- what the first part does to the store
  have tail : ∀ (st0 : Stt) (ds : List D), b_OpenBlock__finish_0 (CX N) [some (.loc l.b)] st = some (.nx, [some (.loc l.b)], st0) → st0.length = st.length → st0[l.b]? = some (obO l.d l.n f.word) → st0[l.d]? = some (.lst ds) → (∀ x, x ≠ l.d → st0[x]? = st[x]?) → f' = ⟨ds, .no, []⟩ →
      ∃ st', (⟨1, 1, b_OpenBlock__finish⟩ : Fn).run ⟨prog.call 3000 N, prog.meth, prog.fld, 3000⟩ [.loc l.b] st = some (.ok (.bl true), st') ∧ Own st' ⟨l.b, l.d, st.length⟩ f' ∧ st'.length = st.length + 1 ∧ ∀ x, x < st.length → x ≠ l.b → x ≠ l.d → st'[x]? = st[x]? := by
    intro st0 ds h0 hl h1 h2 h3 h4
    subst h4
    refine ⟨_, fr_rt rfl rfl ((seq_nx h0).trans (fin_tail h1)), hl ▸ fin_own h1 h2 hne, by simp [hl], fun x hx hxb hxd => ?_⟩
    rw [List.getElem?_set_ne (Ne.symm hxb), List.getElem?_append_left (by omega)]
    exact h3 x hxd
  have app : ∀ (v : D) (env : Env), f.done.length < 1000 → ∀ {y : SE}, y (CX N) [some (.loc l.b)] st = some (.ok v, st) → eMt1 isLst mAppend (eFld (eVar 0) w_done) y (CX N) [some (.loc l.b)] st = some (.ok .non, st.set l.d (.lst (f.done ++ [v]))) := fun v env hl y hy => append_run (hdn []) o.d hy o.d (by rw [lim_eq]; omega)
  have hdl := (List.getElem?_eq_some_iff.mp o.d).1
  match f, hf with
  | ⟨ds, .no, is⟩, hf =>
    cases hf
    exact tail st ds ((if_f t1).trans (if_f t2)) rfl hb o.d (fun _ _ => rfl) rfl
  | ⟨ds, .lp, t :: is⟩, hf =>
    by_cases hl : ds.length < 1000
    · rw [fin, if_pos hl] at hf
      cases hf
      have hv : (eTup (lCons (eC (.str w_loop)) (lCons (eBin opIx (eFld (eVar 0) w_inner) (eC (.int 0))) lNil))) (CX N) [some (.loc l.b)] st = some (.ok (.tup [.str w_loop, t]), st) :=
        tup_run (lcons_run (x := .str w_loop) rfl (lcons_run (bin_run (hin []) (y := .int 0) rfl (ix_loc (k := 0) o.n rfl)) lnil_run)) (by show 2 < lim; decide)
      refine tail (st.set l.d (.lst (ds ++ [.tup [.str w_loop, t]]))) _ ((if_t t1).trans (expr_run (app _ [] hl hv))) (by simp) (by rw [List.getElem?_set_ne (Ne.symm hne)]; exact hb) (List.getElem?_set_self hdl) (fun x hx => List.getElem?_set_ne (Ne.symm hx)) rfl
    · rw [fin, if_neg hl] at hf; cases hf
  | ⟨ds, .lp, []⟩, hf => simp [fin] at hf
  | ⟨ds, .ch, is⟩, hf =>
    by_cases hl : 2 ≤ is.length ∧ ds.length < 1000
    · rw [fin, if_pos hl] at hf
      cases hf
      have hlen : (eUn bLen (eFld (eVar 0) w_inner)) (CX N) [some (.loc l.b)] st = some (.ok (.int (is.length : Int)), st) := len_loc (hin []) o.n
      have tl : (cB (eBin opLt (eUn bLen (eFld (eVar 0) w_inner)) (eC (.int 2)))) (CX N) [some (.loc l.b)] st = some (.ok false, st) := by
        refine cB_run (bin_run hlen (y := .int 2) rfl ?_)
        have : ¬ ((is.length : Int) < 2) := by omega
        simp only [opLt, this, decide_false]
      have hv : (eTup (lCons (eC (.str w_choose)) (lCons (eUn bTuple (eFld (eVar 0) w_inner)) lNil))) (CX N) [some (.loc l.b)] st = some (.ok (.tup [.str w_choose, .tup is]), st) :=
        tup_run (lcons_run (x := .str w_choose) rfl (lcons_run (tuple_loc (hin []) o.n) lnil_run)) (by show 2 < lim; decide)
      refine tail (st.set l.d (.lst (ds ++ [.tup [.str w_choose, .tup is]]))) _ ((if_f t1).trans ((if_t t2).trans ((seq_nx (if_f tl)).trans (expr_run (app _ [] hl.2 hv))))) (by simp) (by rw [List.getElem?_set_ne (Ne.symm hne)]; exact hb) (List.getElem?_set_self hdl) (fun x hx => List.getElem?_set_ne (Ne.symm hx)) rfl
    · rw [fin, if_neg hl] at hf; cases hf
abbrev q_clt : ST := (cB (eBin opGt (eUn bLen (eFld (eVar 0) w_blocks)) (eBin opAdd (eVar 1) (eC (.int 1)))))
abbrev q_clb : SS := (sSeq (sSet 2 (eMt0 isLst mPop (eFld (eVar 0) w_blocks)))
  (sSeq (sIf (cNot (cB (eMeth (eVar 2) w_finish lNil)))
  (sRet (eC (.bl false)))
  sPass)
  (sExpr (eMt1 isLst mAppend (eFld (eBin opIx (eFld (eVar 0) w_blocks) (eUn opNeg (eC (.int 1)))) w_inner) (eUn bTuple (eFld (eVar 2) w_done))))))
theorem while_f {t : Env → R Bool} {T : Env → Stt → Option (Fl × Env × Stt)} {f : Nat} {env : Env} {st : Stt} (ht : t env st = some (.ok false, st)) : whileL t T (f + 1) env st = some (.nx, env, st) := by
  rw [whileL, ht]
theorem close_loop {r bl nm lv N ns sp : Nat} : ∀ (m : Nat) (s s' : List AF) (ls : List Loc) (st : Stt), Rep st r bl nm ls ⟨s, ns, sp⟩ → closeA m s = some s' → s.length = lv + 1 + m → ∀ (F : Nat) (x2 : Option D), m < F →
    ∃ ls' st' y2, whileL (q_clt (CX (N + 1))) (q_clb (CX (N + 1))) F [some (.loc r), some (.int (lv : Int)), x2] st = some (.nx, [some (.loc r), some (.int (lv : Int)), y2], st') ∧ Rep st' r bl nm ls' ⟨s', ns, sp⟩ := by
  intro m
  induction m with
  | zero =>
    intro s s' ls st R hc hl F x2 hF
    obtain ⟨F, rfl⟩ : ∃ z, F = z + 1 := ⟨F - 1, by omega⟩
    cases hc
    have hlen := R.own.len
    have hb : eFld (eVar 0) w_blocks (CX (N + 1)) [some (.loc r), some (.int (lv : Int)), x2] st = some (.ok (.loc bl), st) := fld_run (k := r) (var_run rfl) R.rd rfl
    have ht : q_clt (CX (N + 1)) [some (.loc r), some (.int (lv : Int)), x2] st = some (.ok false, st) := by
      refine cB_run (bin_run (len_loc hb R.bs) (y := .int ((lv : Int) + 1)) rfl ?_)
      have : ¬ ((lv : Int) + 1 < (((ls.map fun l => D.loc l.b).reverse.length : Nat) : Int)) := by
        rw [List.length_reverse, List.length_map, hlen]; simp only at hl ⊢; omega
      simp only [opGt, this, decide_false]
    exact ⟨ls, st, x2, while_f ht, R⟩
  | succ m ih =>
    intro s s' ls st R hc hl F x2 hF
    obtain ⟨F, rfl⟩ : ∃ z, F = z + 1 := ⟨F - 1, by omega⟩
    match s, ls, hc, hl, R with
    | [], _, hc, _, _ => simp [closeA] at hc
    | [_], _, hc, _, _ => simp [closeA] at hc
    | f :: g :: s, [], hc, hl, R => exact R.own.elim
    | f :: g :: s, [_], hc, hl, R => exact R.own.2.elim
    | f :: g :: s, l :: l2 :: ls, hc, hl, R =>
      rw [closeA] at hc
      cases hf : fin f with
      | none => rw [hf] at hc; simp at hc
      | some f' =>
        rw [hf] at hc
        simp only at hc
        by_cases hg : g.inner.length < 1000
        · rw [if_pos hg] at hc
          have hlen := R.own.len
          have S1 := sep_of R.nd
          have S2 := sep_of S1.nd
          have o1 := R.own.1
          have o2 := R.own.2.1
          have env0 : ∀ x2, eFld (eVar 0) w_blocks (CX (N + 1)) [some (.loc r), some (.int (lv : Int)), x2] st = some (.ok (.loc bl), st) := fun x2 => fld_run (k := r) (var_run rfl) R.rd rfl
          have ht : q_clt (CX (N + 1)) [some (.loc r), some (.int (lv : Int)), x2] st = some (.ok true, st) := by
            refine cB_run (bin_run (len_loc (env0 x2) R.bs) (y := .int ((lv : Int) + 1)) rfl ?_)
            have : ((lv : Int) + 1 < ((((l :: l2 :: ls).map fun l => D.loc l.b).reverse.length : Nat) : Int)) := by
              rw [List.length_reverse, List.length_map, hlen]; simp only at hl ⊢; omega
            simp only [opGt, this, decide_true]
          have hbs : st[bl]? = some (.lst (((l2 :: ls).map fun l => D.loc l.b).reverse ++ [.loc l.b])) := by
            rw [R.bs]; simp
          have hbl := (List.getElem?_eq_some_iff.mp hbs).1
          have p1 : (sSet 2 (eMt0 isLst mPop (eFld (eVar 0) w_blocks))) (CX (N + 1)) [some (.loc r), some (.int (lv : Int)), x2] st = some (.nx, [some (.loc r), some (.int (lv : Int)), some (.loc l.b)], st.set bl (.lst (((l2 :: ls).map fun l => D.loc l.b).reverse))) :=
            set_run (pop_run (env0 x2) hbs) (by show 2 < 3; decide)
          generalize hst1 : st.set bl (.lst (((l2 :: ls).map fun l => D.loc l.b).reverse)) = st1 at p1
          have len1 : st1.length = st.length := by rw [← hst1]; simp
          have fr1 : ∀ x, x ≠ bl → st1[x]? = st[x]? := fun x hx => by rw [← hst1, List.getElem?_set_ne (Ne.symm hx)]
          have own1 : Own st1 l f := o1.frame fun x hx => fr1 x (hx.elim (fun e => e ▸ Ne.symm S1.b1) fun h => h.elim (fun e => e ▸ Ne.symm S1.b2) fun e => e ▸ Ne.symm S1.b3)
          have bs1 : st1[bl]? = some (.lst (((l2 :: ls).map fun l => D.loc l.b).reverse)) := by rw [← hst1, List.getElem?_set_self hbl]
          have rd1 : st1[r]? = some (rdO nm bl ns sp) := (fr1 r S1.rb).trans R.rd
          obtain ⟨st2, c1, own2, len2, fr2⟩ := finish_run own1 S1.c1 hf N
          have lt2 := R.own.lt
          have hrl := (List.getElem?_eq_some_iff.mp rd1).1
          have hbl1 := (List.getElem?_eq_some_iff.mp bs1).1
          have p2 : (sIf (cNot (cB (eMeth (eVar 2) w_finish lNil))) (sRet (eC (.bl false))) sPass) (CX (N + 1)) [some (.loc r), some (.int (lv : Int)), some (.loc l.b)] st1 = some (.nx, [some (.loc r), some (.int (lv : Int)), some (.loc l.b)], st2) := by
            have hm : eMeth (eVar 2) w_finish lNil (CX (N + 1)) [some (.loc r), some (.int (lv : Int)), some (.loc l.b)] st1 = some (.ok (.bl true), st2) := meth_run (k := l.b) (cc := C_OpenBlock) (fn := F_OpenBlock__finish) (var_run rfl) own1.b rfl rfl lnil_run c1
            have hn : (cNot (cB (eMeth (eVar 2) w_finish lNil))) (CX (N + 1)) [some (.loc r), some (.int (lv : Int)), some (.loc l.b)] st1 = some (.ok false, st2) := by
              unfold cNot; rw [bnd_ok (cB_run hm)]; rfl
            exact if_f hn
          have rd2 : st2[r]? = some (rdO nm bl ns sp) := (fr2 r hrl S1.r1 S1.r2).trans rd1
          have bs2 : st2[bl]? = some (.lst ((ls.map fun l => D.loc l.b).reverse ++ [.loc l2.b])) := by
            rw [fr2 bl hbl1 S1.b1 S1.b2, bs1]; simp
          have inl : ∀ x, x ∈ flat (l2 :: ls) → x < st1.length ∧ x ≠ bl ∧ x ≠ r := fun x hx => ⟨by rw [len1]; exact lt2 x (by simp only [flat, List.mem_cons] at hx ⊢; exact .inr (.inr (.inr hx))), (nd_r S1.nd hx).2, (nd_r S1.nd hx).1⟩
          have fr12 : ∀ x, x ∈ flat (l2 :: ls) → st2[x]? = st[x]? := fun x hx => by
            have h1 := inl x hx
            have h2 := S1.out x hx
            rw [fr2 x h1.1 h2.1 h2.2.1, fr1 x h1.2.1]
          have own22 : OwnL st2 (l2 :: ls) (g :: s) := OwnL.frame R.own.2 fr12
          have hix : eBin opIx (eFld (eVar 0) w_blocks) (eUn opNeg (eC (.int 1))) (CX (N + 1)) [some (.loc r), some (.int (lv : Int)), some (.loc l.b)] st2 = some (.ok (.loc l2.b), st2) :=
            bin_run (fld_run (k := r) (var_run rfl) rd2 rfl) (y := .int (-1)) rfl (ixl_last bs2)
          have hinn : eFld (eBin opIx (eFld (eVar 0) w_blocks) (eUn opNeg (eC (.int 1)))) w_inner (CX (N + 1)) [some (.loc r), some (.int (lv : Int)), some (.loc l.b)] st2 = some (.ok (.loc l2.n), st2) := fld_run (k := l2.b) hix own22.1.b rfl
          have hdon : (eUn bTuple (eFld (eVar 2) w_done)) (CX (N + 1)) [some (.loc r), some (.int (lv : Int)), some (.loc l.b)] st2 = some (.ok (.tup f'.done), st2) := tuple_loc (fld_run (k := l.b) (var_run rfl) own2.b rfl) own2.d
          have p3 := expr_run (append_run hinn own22.1.n hdon own22.1.n (by rw [lim_eq]; omega))
          have hn2 := (List.getElem?_eq_some_iff.mp own22.1.n).1
          have fr3 : ∀ x, x ≠ l2.n → (st2.set l2.n (.lst (g.inner ++ [.tup f'.done])))[x]? = st2[x]? := fun x hx => List.getElem?_set_ne (Ne.symm hx)
          have R3 : Rep (st2.set l2.n (.lst (g.inner ++ [.tup f'.done]))) r bl nm (l2 :: ls) ⟨⟨g.done, g.word, g.inner ++ [.tup f'.done]⟩ :: s, ns, sp⟩ := by
            refine ⟨(fr3 r S2.r3).trans rd2, (fr3 bl S2.b3).trans (bs2.trans (by simp)), ⟨⟨(fr3 _ S2.c2).trans own22.1.b, (fr3 _ S2.c3).trans own22.1.d, List.getElem?_set_self hn2⟩, OwnL.frame own22.2 fun x hx => fr3 x (S2.out x hx).2.2⟩, S1.nd⟩
          obtain ⟨ls', st', y2, e, R'⟩ := ih _ s' _ _ R3 hc (by simp only [List.length_cons] at hl ⊢; omega) F (some (.loc l.b)) (by omega)
          exact ⟨ls', st', y2, (while_t ht ((seq_nx p1).trans ((seq_nx p2).trans p3))).trans e, R'⟩
        · rw [if_neg hg] at hc; simp at hc
theorem close_run {r bl nm lv N ns sp m : Nat} {s s' : List AF} {ls : List Loc} {st : Stt} (R : Rep st r bl nm ls ⟨s, ns, sp⟩) (hc : closeA m s = some s') (hl : s.length = lv + 1 + m) (hm : m ≤ 100) :
    ∃ ls' st', prog.call 3000 (N + 2) F_ProgramReader__close_to [.loc r, .int (lv : Int)] st = some (.ok (.bl true), st') ∧ Rep st' r bl nm ls' ⟨s', ns, sp⟩ := by
  rw [call_np fn_clo (by decide)]
  obtain ⟨ls', st', y2, e, R'⟩ := close_loop (N := N) m s s' ls st R hc hl 3000 none (by omega)
  have e0 : b_ProgramReader__close_to_0 (CX (N + 1)) [some (.loc r), some (.int (lv : Int)), none] st = some (.nx, [some (.loc r), some (.int (lv : Int)), y2], st') := e
  exact ⟨ls', st', fr_rt rfl rfl ((seq_nx e0).trans (ret_run rfl)), R'⟩
end MI

set_option autoImplicit false
set_option maxRecDepth 100000
set_option linter.all false
/-! E10: a new block; forms of statements. -/
namespace MI
open PySem
theorem set_here (st : Stt) (a : Ob) (t : Stt) (x : Ob) : (st ++ a :: t).set st.length x = st ++ x :: t := by
  rw [List.set_append_right _ _ (Nat.le_refl _)]; simp
theorem get_here (st : Stt) (a : Ob) (t : Stt) : (st ++ a :: t)[st.length]? = some a := by
  rw [List.getElem?_append_right (Nat.le_refl _)]; simp
theorem make_run (N : Nat) (env : Env) (st : Stt) : eMake C_OpenBlock F_OpenBlock____init__ lNil (CX (N + 1)) env st = some (.ok (.loc st.length), st ++ [obO (st.length + 1) (st.length + 2) .no, .lst [], .lst []]) := by
  have h0 : (sFld (eVar 0) w_done (eLst lNil)) (CX N) [some (.loc st.length)] (st ++ [Ob.ins C_OpenBlock []]) = some (.nx, [some (.loc st.length)], st ++ [Ob.ins C_OpenBlock [(w_done, .loc (st.length + 1))], .lst []]) := by
    have hl : eLst lNil (CX N) [some (.loc st.length)] (st ++ [Ob.ins C_OpenBlock []]) = some (.ok (.loc (st.length + 1)), st ++ [Ob.ins C_OpenBlock [], .lst []]) := by
      rw [lst_new lnil_run (by decide)]; simp
    refine (sfld_run (k := st.length) (cc := C_OpenBlock) (fs := []) hl (var_run rfl) (get_here _ _ _) (by decide) rfl).trans ?_
    rw [set_here]; rfl
  have h1 : (sFld (eVar 0) w_word (eC .non)) (CX N) [some (.loc st.length)] (st ++ [Ob.ins C_OpenBlock [(w_done, .loc (st.length + 1))], .lst []]) = some (.nx, [some (.loc st.length)], st ++ [Ob.ins C_OpenBlock [(w_done, .loc (st.length + 1)), (w_word, .non)], .lst []]) := by
    refine (sfld_run (k := st.length) (d := .non) (cc := C_OpenBlock) rfl (var_run rfl) (get_here _ _ _) (by show 1 < 999; decide) rfl).trans ?_
    rw [set_here]; rfl
  have h2 : (sFld (eVar 0) w_inner (eLst lNil)) (CX N) [some (.loc st.length)] (st ++ [Ob.ins C_OpenBlock [(w_done, .loc (st.length + 1)), (w_word, .non)], .lst []]) = some (.nx, [some (.loc st.length)], st ++ [obO (st.length + 1) (st.length + 2) .no, .lst [], .lst []]) := by
    have hl : eLst lNil (CX N) [some (.loc st.length)] (st ++ [Ob.ins C_OpenBlock [(w_done, .loc (st.length + 1)), (w_word, .non)], .lst []]) = some (.ok (.loc (st.length + 2)), st ++ [Ob.ins C_OpenBlock [(w_done, .loc (st.length + 1)), (w_word, .non)], .lst [], .lst []]) := by
      rw [lst_new lnil_run (by decide)]; simp
    refine (sfld_run (k := st.length) (cc := C_OpenBlock) hl (var_run rfl) (get_here _ _ _) (by show 2 < 999; decide) rfl).trans ?_
    rw [set_here]; rfl
  have hb : prog.call 3000 (N + 1) F_OpenBlock____init__ [.loc st.length] (st ++ [Ob.ins C_OpenBlock []]) = some (.ok .non, st ++ [obO (st.length + 1) (st.length + 2) .no, .lst [], .lst []]) := by
    rw [call_np fn_obi (by decide)]
    exact fr_nx rfl rfl ((seq_nx h0).trans ((seq_nx h1).trans h2))
  unfold eMake
  rw [bnd_ok (lnil_run (c := CX (N + 1)) (env := env) (st := st)), bnd_ok (a := .loc st.length) (st1 := st ++ [Ob.ins C_OpenBlock []]) rfl]
  have : (CX (N + 1)).call F_OpenBlock____init__ [.loc st.length] (st ++ [Ob.ins C_OpenBlock []]) = some (.ok .non, st ++ [obO (st.length + 1) (st.length + 2) .no, .lst [], .lst []]) := hb
  rw [bnd_ok this]; rfl
theorem make_own (st : Stt) : Own (st ++ [obO (st.length + 1) (st.length + 2) .no, .lst [], .lst []]) ⟨st.length, st.length + 1, st.length + 2⟩ nw := by
  refine ⟨get_here _ _ _, ?_, ?_⟩
  · show (st ++ [obO (st.length + 1) (st.length + 2) .no, .lst [], .lst []])[st.length + 1]? = _
    rw [List.getElem?_append_right (by omega)]; simp [nw]
  · show (st ++ [obO (st.length + 1) (st.length + 2) .no, .lst [], .lst []])[st.length + 2]? = _
    rw [List.getElem?_append_right (by omega)]; simp [nw]
/-! ### forms -/
def Stm.w0 : Stm → List Nat
  | .pl (.fresh _) => w_fresh
  | .pl (.give _ _ _) => w_give
  | .pl (.change _ _ _) => w_change
  | .look _ => w_look
  | .br true _ => w_loop
  | .br false _ => w_choose
def Stm.nums : Stm → List Nat
  | .pl (.fresh x) => [x]
  | .pl (.give l x y) => [l, x, y]
  | .pl (.change l x m) => [l, x, m]
  | .look x => [x]
  | .br _ _ => []
theorem ok1 {n d : Nat} {p : Pl} (h : (Stm.pl p).ok n d) : p.ok n := by cases d <;> exact h
theorem ok2' {n d x : Nat} (h : (Stm.look x).ok n d) : x < n := by cases d <;> exact h
theorem hd_form (t : Stm) : t.hd = t.w0 :: t.nums.map dg := by
  match t with
  | .pl (.fresh _) => rfl
  | .pl (.give _ _ _) => rfl
  | .pl (.change _ _ _) => rfl
  | .look _ => rfl
  | .br true _ => rfl
  | .br false _ => rfl
theorem d_form {t : Stm} (h : t.plain = true) : t.d = .tup (.str t.w0 :: t.nums.map fun (x : Nat) => D.int (x : Int)) := by
  match t, h with
  | .pl (.fresh _), _ => rfl
  | .pl (.give _ _ _), _ => rfl
  | .pl (.change _ _ _), _ => rfl
  | .look _, _ => rfl
theorem nums_lt {t : Stm} {n d : Nat} (hn : n ≤ 4) (h : t.ok n d) : (∀ x ∈ t.nums, x < 10) ∧ t.nums.length ≤ 3 := by
  match t, h with
  | .pl (.fresh x), h =>
    have h1 : x < n := ok1 h
    exact ⟨fun y hy => by simp [Stm.nums] at hy; omega, by simp [Stm.nums]⟩
  | .pl (.give l x y), h =>
    have ⟨h1, h2, h3, h4⟩ := ok1 h
    exact ⟨fun y hy => by simp [Stm.nums] at hy; omega, by simp [Stm.nums]⟩
  | .pl (.change l x m), h =>
    have ⟨h1, h2, h3⟩ := ok1 h
    exact ⟨fun y hy => by simp [Stm.nums] at hy; omega, by simp [Stm.nums]⟩
  | .look x, h =>
    have h1 := ok2' h
    exact ⟨fun y hy => by simp [Stm.nums] at hy; omega, by simp [Stm.nums]⟩
  | .br _ _, _ => exact ⟨fun y hy => by simp [Stm.nums] at hy, by simp [Stm.nums]⟩
theorem fn_num : prog.fns[F_number_in]? = some ⟨1, 1, b_number_in⟩ := rfl
theorem number_run {x : Nat} (h : x < 10) (N : Nat) (st : Stt) : prog.call 3000 (N + 1) F_number_in [.str (dg x)] st = some (.ok (.int (x : Int)), st) := by
  refine pure_tup fn_num (by decide) rfl rfl (env' := [some (.str (dg x))]) (st' := []) ?_ (fun _ z => by cases z) rfl
  match x, h with
  | 0, _ => kernel_rfl
  | 1, _ => kernel_rfl
  | 2, _ => kernel_rfl
  | 3, _ => kernel_rfl
  | 4, _ => kernel_rfl
  | 5, _ => kernel_rfl
  | 6, _ => kernel_rfl
  | 7, _ => kernel_rfl
  | 8, _ => kernel_rfl
  | 9, _ => kernel_rfl
theorem optC_st {g : List D → R D} {ds : List D} {st st' : Stt} {d : D} (ha : D.lfL ds = true) (h : optC g ds st = some (.ok d, st')) : st' = st := by
  unfold optC at h
  rw [if_pos ha] at h
  repeat' split at h
  all_goals first | (cases h; done) | (cases h; rfl) | (simp at h; exact h.2.2.symm) | (simp at h; exact h.2.symm) | (simp at h; done)
def isTr (r : Option (Rs D × Stt)) : Bool := match r with
  | some (.ok (.bl true), _) => true
  | _ => false
theorem isTr_eq {r : Option (Rs D × Stt)} (h : isTr r = true) : ∃ st', r = some (.ok (.bl true), st') := by
  unfold isTr at h
  split at h
  · exact ⟨_, rfl⟩
  · cases h
def chkP (N : Nat) (st : Stt) (s : Stm) (n : Nat) : Bool := isTr (prog.call 3000 N F_is_statement_form [s.d, .int (n : Int)] st)
def chkAll (N : Nat) (st : Stt) : Bool := (List.range 5).all fun n => (List.range n).all fun x => chkP N st (.look x) n && (chkP N st (.pl (.fresh x)) n && (List.range 8).all fun l => ((List.range 10).all fun m => chkP N st (.pl (.change l x m)) n) && (List.range n).all fun y => x == y || chkP N st (.pl (.give l x y)) n)
end MI

set_option autoImplicit false
set_option maxRecDepth 100000
set_option linter.all false
/-! E10b: every form of statement is one. -/
namespace MI
open PySem
theorem chk_true (M : Nat) (st : Stt) : chkAll (M + 3) st = true := by kernel_rfl
theorem all_get {m : Nat} {p : Nat → Bool} (h : (List.range m).all p = true) {x : Nat} (hx : x < m) : p x = true := List.all_eq_true.mp h x (List.mem_range.mpr hx)
theorem chkP_ok {N : Nat} {st : Stt} {s : Stm} {n : Nat} (h : chkP (N + 1) st s n = true) : prog.call 3000 (N + 1) F_is_statement_form [s.d, .int (n : Int)] st = some (.ok (.bl true), st) := by
  obtain ⟨st', e⟩ := isTr_eq h
  have hf : prog.fns[F_is_statement_form]? = some ⟨2, 5, b_is_statement_form⟩ := rfl
  have e2 := e
  rw [call_p hf (by decide)] at e2
  have lf : D.lfL [s.d, .int (n : Int)] = true := by
    show (D.lf s.d && (true && true)) = true
    rw [Stm.lf s]; rfl
  have := optC_st lf e2
  rw [e, this]
theorem form_run {t : Stm} {n d : Nat} (hn : n ≤ 4) (hp : t.plain = true) (h : t.ok n d) (M : Nat) (st : Stt) : prog.call 3000 (M + 3) F_is_statement_form [t.d, .int (n : Int)] st = some (.ok (.bl true), st) := by
  have h5 : n < 5 := by omega
  have h1 := all_get (chk_true M st) h5
  match t, hp, h with
  | .pl (.fresh x), _, h =>
    have hx : x < n := ok1 h
    have h2 := all_get h1 hx
    simp only [Bool.and_eq_true] at h2
    exact chkP_ok h2.2.1
  | .look x, _, h =>
    have hx : x < n := ok2' h
    have h2 := all_get h1 hx
    simp only [Bool.and_eq_true] at h2
    exact chkP_ok h2.1
  | .pl (.give l x y), _, h =>
    obtain ⟨hx, hy, hne, hl⟩ := ok1 h
    have h2 := all_get h1 hx
    simp only [Bool.and_eq_true] at h2
    have h3 := all_get h2.2.2 hl
    simp only [Bool.and_eq_true] at h3
    have h4 := all_get h3.2 hy
    have hne' : (x == y) = false := by simpa using hne
    simp only [hne', Bool.false_or] at h4
    exact chkP_ok h4
  | .pl (.change l x m), _, h =>
    obtain ⟨hx, hl, hm⟩ := ok1 h
    have h2 := all_get h1 hx
    simp only [Bool.and_eq_true] at h2
    have h3 := all_get h2.2.2 hl
    simp only [Bool.and_eq_true] at h3
    exact chkP_ok (all_get h3.1 hm)
end MI

set_option autoImplicit false
set_option maxRecDepth 100000
set_option linter.all false
/-! E11: read_statement runs. -/
namespace MI
open PySem
theorem Rep.setR {st : Stt} {r bl n : Nat} {ls : List Loc} {σ : AS} (R : Rep st r bl n ls σ) (ns sp : Nat) : Rep (st.set r (rdO n bl ns sp)) r bl n ls ⟨σ.s, ns, sp⟩ := by
  have hr := (List.getElem?_eq_some_iff.mp R.rd).1
  have nd := R.nd
  simp only [List.nodup_cons, List.mem_cons, not_or] at nd
  refine ⟨List.getElem?_set_self hr, by rw [List.getElem?_set_ne nd.1.1]; exact R.bs, OwnL.frame R.own fun x hx => List.getElem?_set_ne (fun e => (nd_r R.nd hx).1 e.symm), R.nd⟩
theorem Rep.setD {st : Stt} {r bl n ns sp : Nat} {l : Loc} {ls : List Loc} {f : AF} {rest : List AF} (R : Rep st r bl n (l :: ls) ⟨f :: rest, ns, sp⟩) (ds : List D) : Rep (st.set l.d (.lst ds)) r bl n (l :: ls) ⟨⟨ds, f.word, f.inner⟩ :: rest, ns, sp⟩ := by
  have S := sep_of R.nd
  have o := R.own.1
  have hd := (List.getElem?_eq_some_iff.mp o.d).1
  refine ⟨by rw [List.getElem?_set_ne (Ne.symm S.r2)]; exact R.rd, by rw [List.getElem?_set_ne (Ne.symm S.b2)]; exact R.bs, ⟨⟨?_, List.getElem?_set_self hd, ?_⟩, OwnL.frame R.own.2 fun x hx => List.getElem?_set_ne (Ne.symm (S.out x hx).2.1)⟩, R.nd⟩
  · rw [List.getElem?_set_ne (Ne.symm S.c1)]; exact o.b
  · rw [List.getElem?_set_ne S.c3]; exact o.n
theorem Rep.setW {st : Stt} {r bl n ns sp : Nat} {l : Loc} {ls : List Loc} {f : AF} {rest : List AF} (R : Rep st r bl n (l :: ls) ⟨f :: rest, ns, sp⟩) (w : Wd) : Rep (st.set l.b (obO l.d l.n w)) r bl n (l :: ls) ⟨⟨f.done, w, f.inner⟩ :: rest, ns, sp⟩ := by
  have S := sep_of R.nd
  have o := R.own.1
  have hb := (List.getElem?_eq_some_iff.mp o.b).1
  refine ⟨by rw [List.getElem?_set_ne (Ne.symm S.r1)]; exact R.rd, by rw [List.getElem?_set_ne (Ne.symm S.b1)]; exact R.bs, ⟨⟨List.getElem?_set_self hb, ?_, ?_⟩, OwnL.frame R.own.2 fun x hx => List.getElem?_set_ne (Ne.symm (S.out x hx).1)⟩, R.nd⟩
  · rw [List.getElem?_set_ne S.c1]; exact o.d
  · rw [List.getElem?_set_ne S.c2]; exact o.n
/-- what is finished takes the block's place -/
theorem Rep.fin {st st' : Stt} {r bl n ns sp : Nat} {l : Loc} {ls : List Loc} {g f : AF} {rest : List AF} (R : Rep st r bl n (l :: ls) ⟨g :: rest, ns, sp⟩) (o : Own st' ⟨l.b, l.d, st.length⟩ f) (fr : ∀ x, x < st.length → x ≠ l.b → x ≠ l.d → st'[x]? = st[x]?) : Rep st' r bl n (⟨l.b, l.d, st.length⟩ :: ls) ⟨f :: rest, ns, sp⟩ := by
  have S := sep_of R.nd
  have hr := (List.getElem?_eq_some_iff.mp R.rd).1
  have hb := (List.getElem?_eq_some_iff.mp R.bs).1
  have lt := R.own.2.lt
  have o1 := R.own.1.lt
  refine ⟨(fr r hr S.r1 S.r2).trans R.rd, (fr bl hb S.b1 S.b2).trans R.bs, ⟨o, OwnL.frame R.own.2 fun x hx => fr x (lt x hx) (S.out x hx).1 (S.out x hx).2.1⟩, ?_⟩
  exact Sep.all ⟨S.rb, S.r1, S.r2, Nat.ne_of_lt hr, S.b1, S.b2, Nat.ne_of_lt hb, S.c1, Nat.ne_of_lt o1.1, Nat.ne_of_lt o1.2.1, fun x hx => ⟨(S.out x hx).1, (S.out x hx).2.1, Nat.ne_of_lt (lt x hx)⟩, S.nd⟩
/-- a new block on top -/
theorem Rep.push {st : Stt} {r bl n ns sp : Nat} {ls : List Loc} {s : List AF} (R : Rep st r bl n ls ⟨s, ns, sp⟩) : Rep ((st ++ [obO (st.length + 1) (st.length + 2) .no, .lst [], .lst []]).set bl (.lst ((ls.map fun l => D.loc l.b).reverse ++ [.loc st.length]))) r bl n (⟨st.length, st.length + 1, st.length + 2⟩ :: ls) ⟨nw :: s, ns, sp⟩ := by
  have nd := R.nd
  simp only [List.nodup_cons, List.mem_cons, not_or] at nd
  have hr := (List.getElem?_eq_some_iff.mp R.rd).1
  have hb := (List.getElem?_eq_some_iff.mp R.bs).1
  have lt := R.own.lt
  have fr : ∀ x, x < st.length → x ≠ bl → ((st ++ [obO (st.length + 1) (st.length + 2) .no, .lst [], .lst []]).set bl (.lst ((ls.map fun l => D.loc l.b).reverse ++ [.loc st.length])))[x]? = st[x]? := fun x hx h => by
    rw [List.getElem?_set_ne (Ne.symm h), List.getElem?_append_left hx]
  refine ⟨(fr r hr nd.1.1).trans R.rd, ?_, ⟨(make_own st).frame fun x hx => ?_, OwnL.frame R.own fun x hx => fr x (lt x hx) (nd_r R.nd hx).2⟩, ?_⟩
  · rw [List.getElem?_set_self (by simp; omega)]; simp
  · exact List.getElem?_set_ne (by rcases hx with rfl | rfl | rfl <;> simp only <;> omega)
  · exact Sep.all ⟨nd.1.1, by simp only; omega, by simp only; omega, by simp only; omega, by simp only; omega, by simp only; omega, by simp only; omega, by simp only; omega, by simp only; omega, by simp only; omega, fun x hx => by have := lt x hx; simp only; omega, R.nd⟩
theorem okL_strs {m : Nat} : ∀ {ws : List (List Nat)}, (∀ w ∈ ws, ∀ c ∈ w, c < 128) → D.okL m (ws.map D.str) = true
  | [], _ => by simp [D.okL]
  | w :: ws, h => by
    have h1 := okL_strs (m := m) (ws := ws) (fun x hx => h x (List.mem_cons_of_mem _ hx))
    have h2 : D.ok m (.str w) = true := str_ok' (h w (List.mem_cons_self ..))
    simp only [List.map_cons, D.okL, h1, h2, Bool.and_self]
theorem hd_okL {t : Stm} {n d m : Nat} (hn : n ≤ 4) (h : t.ok n d) : D.okL m (t.hd.map D.str) = true := okL_strs fun w hw c hc => ((hd_words hn h w hw).1 c hc).1
def Stm.k01 (t : Stm) : Nat := if t.isSpot then 1 else 0
theorem w0_spot (t : Stm) (st : Stt) : opIn (.str t.w0) (.tup [(.str w_look), (.str w_choose), (.str w_loop)]) st = some (.ok (.bl t.isSpot), st) := by
  match t with
  | .pl (.fresh _) => kernel_rfl
  | .pl (.give _ _ _) => kernel_rfl
  | .pl (.change _ _ _) => kernel_rfl
  | .look _ => kernel_rfl
  | .br true _ => kernel_rfl
  | .br false _ => kernel_rfl
theorem w0_plain {t : Stm} (h : t.plain = true) (st : Stt) : opNotIn (.str t.w0) (.tup [(.str w_fresh), (.str w_give), (.str w_change), (.str w_look)]) st = some (.ok (.bl false), st) := by
  match t, h with
  | .pl (.fresh _), _ => kernel_rfl
  | .pl (.give _ _ _), _ => kernel_rfl
  | .pl (.change _ _ _), _ => kernel_rfl
  | .look _, _ => kernel_rfl
theorem words_in {t : Stm} {n d : Nat} (hn : n ≤ 4) (h : t.ok n d) (st : Stt) : opIn (.frz (t.hd.map D.str)) (.tup [.frz [.str w_choose], .frz [.str w_loop]]) st = some (.ok (.bl (!t.plain)), st) := by
  have o : D.ok deep (.frz (t.hd.map D.str)) = true := by
    show D.ok (39 + 1) (.frz (t.hd.map D.str)) = true
    have : (t.hd.map D.str).length < lim := by rw [List.length_map, lim_eq]; have := (hd_len t).2; omega
    simp only [D.ok, hd_okL hn h, decide_eq_true this, Bool.and_self]
  have o2 : D.okL deep [.frz [.str w_choose], .frz [.str w_loop]] = true := by kernel_rfl
  have e : isInT (.frz (t.hd.map D.str)) (.tup [.frz [.str w_choose], .frz [.str w_loop]]) st = some (.ok (!t.plain), st) := by
    simp only [isInT, o, o2, Bool.and_self, if_true]
    rw [hd_form t]
    match t with
    | .pl (.fresh _) => rfl
    | .pl (.give _ _ _) => rfl
    | .pl (.change _ _ _) => rfl
    | .look _ => rfl
    | .br true _ => rfl
    | .br false _ => rfl
  unfold opIn
  rw [bnd_ok e]; rfl
theorem w0_ix {t : Stm} {i : Nat} {c : Ctx} {env : Env} {st : Stt} (h : env[i]? = some (some (.frz (t.hd.map D.str)))) : eBin opIx (eVar i) (eC (.int 0)) c env st = some (.ok (.str t.w0), st) :=
  bin_run (var_run h) (y := .int 0) rfl (ix_frz (k := 0) _ (by rw [hd_form]; rfl))
abbrev eR (r : Nat) (t : Stm) (x2 x3 x4 : Option D) : Env := [some (.loc r), some (.frz (t.hd.map D.str)), x2, x3, x4]
theorem gt_f {i k : Nat} (h : ¬ k < i) (st : Stt) : opGt (.int (i : Int)) (.int (k : Int)) st = some (.ok (.bl false), st) := by
  have : ¬ ((k : Int) < (i : Int)) := by omega
  simp only [opGt, this, decide_false]
theorem rst_pre {st : Stt} {r bl n ns sp d : Nat} {l : Loc} {ls : List Loc} {f : AF} {rest : List AF} {t : Stm} (R : Rep st r bl n (l :: ls) ⟨f :: rest, ns, sp⟩) (hd : f.done.length < 8) (h40 : ns < 40) (h12 : sp + t.k01 ≤ 12) (N : Nat) :
    ∃ st', Rep st' r bl n (l :: ls) ⟨f :: rest, ns + 1, sp + t.k01⟩ ∧ ∀ T : SS, (sSeq b_ProgramReader__read_statement_0 (sSeq b_ProgramReader__read_statement_1 (sSeq b_ProgramReader__read_statement_2 (sSeq b_ProgramReader__read_statement_3 T)))) (CX N) (eR r t none none none) st = T (CX N) (eR r t (some (.loc l.b)) none none) st' := by
  have R1 := R.setR (ns + 1) sp
  have R2 := R1.setR (ns + 1) (sp + t.k01)
  rw [List.set_set] at R2
  have hbs : st[bl]? = some (.lst ((ls.map fun l => D.loc l.b).reverse ++ [.loc l.b])) := by rw [R.bs]; simp
  have s0 : b_ProgramReader__read_statement_0 (CX N) (eR r t none none none) st = some (.nx, eR r t (some (.loc l.b)) none none, st) :=
    set_run (bin_run (fld_run (k := r) (var_run rfl) R.rd rfl) (y := .int (-1)) rfl (ixl_last hbs)) (by show 2 < 5; decide)
  have s1 : b_ProgramReader__read_statement_1 (CX N) (eR r t (some (.loc l.b)) none none) st = some (.nx, eR r t (some (.loc l.b)) none none, st.set r (rdO n bl (ns + 1) sp)) :=
    fldaug_run (k := r) (v := .int (ns : Int)) (y := .int 1) (z := .int ((ns + 1 : Nat) : Int)) (var_run rfl) R.rd rfl rfl rfl (by show 4 < 999; decide) rfl
  have hk : b2i t.isSpot = ((t.k01 : Nat) : Int) := by unfold Stm.k01; cases t.isSpot <;> rfl
  have s2 : b_ProgramReader__read_statement_2 (CX N) (eR r t (some (.loc l.b)) none none) (st.set r (rdO n bl (ns + 1) sp)) = some (.nx, eR r t (some (.loc l.b)) none none, (st.set r (rdO n bl (ns + 1) sp)).set r (rdO n bl (ns + 1) (sp + t.k01))) := by
    refine fldaug_run (k := r) (v := .int (sp : Int)) (y := .int ((t.k01 : Nat) : Int)) (z := .int ((sp + t.k01 : Nat) : Int)) (var_run rfl) R1.rd rfl ?_ rfl (by show 4 < 999; decide) rfl
    refine un_run (bin_run (w0_ix (t := t) rfl) (y := .tup [(.str w_look), (.str w_choose), (.str w_loop)]) rfl (w0_spot t _)) ?_
    show some (Rs.ok (D.int (b2i t.isSpot)), _) = _
    rw [hk]
  rw [List.set_set] at s2
  have o := R2.own.1
  have hdn : eFld (eVar 2) w_done (CX N) (eR r t (some (.loc l.b)) none none) (st.set r (rdO n bl (ns + 1) (sp + t.k01))) = some (.ok (.loc l.d), st.set r (rdO n bl (ns + 1) (sp + t.k01))) := fld_run (k := l.b) (var_run rfl) o.b rfl
  have c1 := cB_run (bin_run (f := opEq) (len_loc hdn o.d) (b := eC (.int 8)) rfl (eqi _ _ _))
  have e8 : ((f.done.length : Int) == 8) = false := by simp; omega
  rw [e8] at c1
  have c2 : (cB (eBin opGt (eFld (eVar 0) w_statements) (eC (.int 40)))) (CX N) (eR r t (some (.loc l.b)) none none) (st.set r (rdO n bl (ns + 1) (sp + t.k01))) = some (.ok false, st.set r (rdO n bl (ns + 1) (sp + t.k01))) :=
    cB_run (bin_run (x := .int ((ns + 1 : Nat) : Int)) (fld_run (k := r) (var_run rfl) R2.rd rfl) (y := .int ((40 : Nat) : Int)) rfl (gt_f (by omega) _))
  have c3 : (cB (eBin opGt (eFld (eVar 0) w_spots) (eC (.int 12)))) (CX N) (eR r t (some (.loc l.b)) none none) (st.set r (rdO n bl (ns + 1) (sp + t.k01))) = some (.ok false, st.set r (rdO n bl (ns + 1) (sp + t.k01))) :=
    cB_run (bin_run (x := .int ((sp + t.k01 : Nat) : Int)) (fld_run (k := r) (var_run rfl) R2.rd rfl) (y := .int ((12 : Nat) : Int)) rfl (gt_f (by omega) _))
  have s3 : b_ProgramReader__read_statement_3 (CX N) (eR r t (some (.loc l.b)) none none) (st.set r (rdO n bl (ns + 1) (sp + t.k01))) = some (.nx, eR r t (some (.loc l.b)) none none, st.set r (rdO n bl (ns + 1) (sp + t.k01))) := if_f (or_run c1 (or_run c2 c3))
  exact ⟨_, R2, fun T => (seq_nx s0).trans ((seq_nx s1).trans ((seq_nx s2).trans (seq_nx s3)))⟩
theorem slc_tail {a : SE} {c : Ctx} {env : Env} {st st1 : Stt} {l : List D} {d : D} (h : a c env st = some (.ok (.frz (d :: l)), st1)) : eSlc a (oSome (eC (.int 1))) oNone c env st = some (.ok (.frz l), st1) := by
  have h2 : oSome (eC (.int 1)) c env st1 = some (.ok (some 1), st1) := rfl
  have e : cut (d :: l) (some 1) none = l := by
    unfold cut clampI
    simp
  unfold eSlc
  rw [bnd_ok h, bnd_ok h2, bnd_ok (x := oNone c env) (a := none) (st1 := st1) rfl]
  simp only [opSlc, e]
theorem or_f2 {a b : ST} {c : Ctx} {env : Env} {st st1 : Stt} (h : a c env st = some (.ok false, st1)) : cOr a b c env st = b c env st1 := by
  unfold cOr
  rw [bnd_ok h]; rfl
theorem not_run {a : ST} {c : Ctx} {env : Env} {st st1 : Stt} {b : Bool} (h : a c env st = some (.ok b, st1)) : cNot a c env st = some (.ok (!b), st1) := by
  unfold cNot
  rw [bnd_ok h]; rfl
theorem rst_pl {st : Stt} {r bl n ns sp d : Nat} {l : Loc} {ls : List Loc} {f : AF} {rest : List AF} {t : Stm} (R : Rep st r bl n (l :: ls) ⟨f :: rest, ns, sp⟩) (hn : n ≤ 4) (hp : t.plain = true) (ho : t.ok n d) (hd : f.done.length < 8) (h40 : ns < 40) (h12 : sp + t.k01 ≤ 12) (M : Nat) :
    ∃ st', prog.call 3000 (M + 4) F_ProgramReader__read_statement [.loc r, .frz (t.hd.map D.str)] st = some (.ok (.bl true), st') ∧ Rep st' r bl n (l :: ls) ⟨⟨f.done ++ [t.d], f.word, f.inner⟩ :: rest, ns + 1, sp + t.k01⟩ := by
  obtain ⟨st2, R2, pre⟩ := rst_pre (d := d) (t := t) R hd h40 h12 (M + 3)
  have o := R2.own.1
  have hw : opIn (.frz (t.hd.map D.str)) (.tup [.frz [.str w_choose], .frz [.str w_loop]]) st2 = some (.ok (.bl false), st2) := by rw [words_in hn ho, hp]; rfl
  have s4 : b_ProgramReader__read_statement_4 (CX (M + 3)) (eR r t (some (.loc l.b)) none none) st2 = some (.nx, eR r t (some (.loc l.b)) none none, st2) :=
    if_f (cB_run (bin_run (var_run rfl) (y := .tup [.frz [.str w_choose], .frz [.str w_loop]]) rfl hw))
  have hnl := nums_lt hn ho
  have hwords : t.hd.map D.str = .str t.w0 :: t.nums.map (fun x => D.str (dg x)) := by rw [hd_form, List.map_cons, List.map_map]; rfl
  have hc : eCompF [4] (gVar 4) (iSeq (eSlc (eVar 1) (oSome (eC (.int 1))) oNone)) cYes (eCall F_number_in (lCons (eVar 4) lNil)) (CX (M + 3)) (eR r t (some (.loc l.b)) none none) st2 = some (.ok (.frz (t.nums.map fun (x : Nat) => D.int (x : Int))), st2) := by
    refine compF_mapG (xs := t.nums) (g := fun x => D.str (dg x)) (fun x => some (.int (x : Int))) (seq_frz (slc_tail (d := .str t.w0) (var_run (by rw [← hwords]; rfl)))) (fun x hx => ?_) (by show _ < 3000; omega) (by rw [lim_eq]; omega) (by simp [List.filterMap_eq_map, Function.comp_def])
    exact compT_y (st1 := st2) (by show 4 < 5; decide) rfl (call_run (lcons_run (var_run rfl) lnil_run) (number_run (hnl.1 x hx) (M + 2) _))
  have s5 : b_ProgramReader__read_statement_5 (CX (M + 3)) (eR r t (some (.loc l.b)) none none) st2 = some (.nx, eR r t (some (.loc l.b)) (some t.d) none, st2) := by
    refine set_run (x := t.d) ?_ (by show 3 < 5; decide)
    rw [d_form hp]
    exact bin_run (tup_run (lcons_run (w0_ix (t := t) rfl) lnil_run) lim1) (tuple_frz hc) (tadd_run _ (by rw [List.length_map, lim_eq]; show 1 + _ < _; omega))
  have hnm : eFld (eVar 0) w_names (CX (M + 3)) (eR r t (some (.loc l.b)) (some t.d) none) st2 = some (.ok (.int (n : Int)), st2) := fld_run (k := r) (var_run rfl) R2.rd rfl
  have c1 : (cB (eBin opNotIn (eBin opIx (eVar 1) (eC (.int 0))) (eC (.tup [(.str w_fresh), (.str w_give), (.str w_change), (.str w_look)])))) (CX (M + 3)) (eR r t (some (.loc l.b)) (some t.d) none) st2 = some (.ok false, st2) :=
    cB_run (bin_run (w0_ix (t := t) rfl) (y := .tup [(.str w_fresh), (.str w_give), (.str w_change), (.str w_look)]) rfl (w0_plain hp _))
  have c2 : (cNot (cB (eCall F_is_statement_form (lCons (eVar 3) (lCons (eFld (eVar 0) w_names) lNil))))) (CX (M + 3)) (eR r t (some (.loc l.b)) (some t.d) none) st2 = some (.ok false, st2) :=
    not_run (b := true) (cB_run (call_run (lcons_run (var_run rfl) (lcons_run hnm lnil_run)) (form_run hn hp ho M _)))
  have s6 : b_ProgramReader__read_statement_6 (CX (M + 3)) (eR r t (some (.loc l.b)) (some t.d) none) st2 = some (.nx, eR r t (some (.loc l.b)) (some t.d) none, st2) := if_f (or_run c1 c2)
  have s7 : b_ProgramReader__read_statement_7 (CX (M + 3)) (eR r t (some (.loc l.b)) (some t.d) none) st2 = some (.nx, eR r t (some (.loc l.b)) (some t.d) none, st2.set l.d (.lst (f.done ++ [t.d]))) :=
    expr_run (append_run (fld_run (k := l.b) (var_run rfl) o.b rfl) o.d (var_run rfl) o.d (by rw [lim_eq]; omega))
  rw [call_np fn_rst (by decide)]
  refine ⟨_, fr_rt rfl rfl ((pre _).trans ((seq_nx s4).trans ((seq_nx s5).trans ((seq_nx s6).trans ((seq_nx s7).trans (ret_run rfl)))))), R2.setD _⟩
theorem rst_br {st : Stt} {r bl n ns sp d : Nat} {l : Loc} {ls : List Loc} {f : AF} {rest : List AF} {lp : Bool} {bs : List (List Stm)} (R : Rep st r bl n (l :: ls) ⟨f :: rest, ns, sp⟩) (hd : f.done.length < 8) (h40 : ns < 40) (h12 : sp + 1 ≤ 12) (hr : rest.length < 4) (M : Nat) :
    ∃ ls' st', prog.call 3000 (M + 4) F_ProgramReader__read_statement [.loc r, .frz ((Stm.br lp bs).hd.map D.str)] st = some (.ok (.bl true), st') ∧ Rep st' r bl n ls' ⟨(if lp then nw :: ⟨f.done, .lp, f.inner⟩ :: rest else ⟨f.done, .ch, f.inner⟩ :: rest), ns + 1, sp + 1⟩ := by
  have hk : (Stm.br lp bs).k01 = 1 := rfl
  obtain ⟨st2, R2, pre⟩ := rst_pre (d := d) (t := Stm.br lp bs) R hd h40 (by rw [hk]; exact h12) (M + 3)
  rw [hk] at R2
  have o := R2.own.1
  have hlen := R2.own.len
  have hw : opIn (.frz ((Stm.br lp bs).hd.map D.str)) (.tup [.frz [.str w_choose], .frz [.str w_loop]]) st2 = some (.ok (.bl true), st2) := by
    cases lp <;> kernel_rfl
  have hbk : eFld (eVar 0) w_blocks (CX (M + 3)) (eR r (.br lp bs) (some (.loc l.b)) none none) st2 = some (.ok (.loc bl), st2) := fld_run (k := r) (var_run rfl) R2.rd rfl
  have c5 := cB_run (bin_run (f := opEq) (len_loc hbk R2.bs) (b := eC (.int 5)) rfl (eqi _ _ _))
  have e5 : ((((((l :: ls).map fun l => D.loc l.b).reverse).length : Nat) : Int) == 5) = false := by
    rw [List.length_reverse, List.length_map, hlen]; simp; omega
  rw [e5] at c5
  have p1 : (sIf (cB (eBin opEq (eUn bLen (eFld (eVar 0) w_blocks)) (eC (.int 5)))) (sRet (eC (.bl false))) sPass) (CX (M + 3)) (eR r (.br lp bs) (some (.loc l.b)) none none) st2 = some (.nx, eR r (.br lp bs) (some (.loc l.b)) none none, st2) := if_f c5
  have p2 : (sFld (eVar 2) w_word (eBin opIx (eVar 1) (eC (.int 0)))) (CX (M + 3)) (eR r (.br lp bs) (some (.loc l.b)) none none) st2 = some (.nx, eR r (.br lp bs) (some (.loc l.b)) none none, st2.set l.b (obO l.d l.n (if lp then .lp else .ch))) := by
    have := sfld_run (k := l.b) (a := eVar 2) (f := w_word) (c := CX (M + 3)) (env := eR r (.br lp bs) (some (.loc l.b)) none none) (w0_ix (t := .br lp bs) (i := 1) (st := st2) rfl) (var_run rfl) o.b (by show 3 < 999; decide) rfl
    refine this.trans ?_
    cases lp <;> rfl
  have R3 := R2.setW (if lp then .lp else .ch)
  rw [call_np fn_rst (by decide)]
  cases lp with
  | false =>
    have hq : opEq (.frz ((Stm.br false bs).hd.map D.str)) (.frz [.str w_loop]) (st2.set l.b (obO l.d l.n .ch)) = some (.ok (.bl false), st2.set l.b (obO l.d l.n .ch)) := by kernel_rfl
    have p3 : (sIf (cB (eBin opEq (eVar 1) (eLstF (lCons (eC (.str w_loop)) lNil)))) (sExpr (eMt1 isLst mAppend (eFld (eVar 0) w_blocks) (eMake C_OpenBlock F_OpenBlock____init__ lNil))) sPass) (CX (M + 3)) (eR r (.br false bs) (some (.loc l.b)) none none) (st2.set l.b (obO l.d l.n .ch)) = some (.nx, eR r (.br false bs) (some (.loc l.b)) none none, st2.set l.b (obO l.d l.n .ch)) :=
      if_f (cB_run (bin_run (var_run rfl) (y := .frz [.str w_loop]) rfl hq))
    have s4 : b_ProgramReader__read_statement_4 (CX (M + 3)) (eR r (.br false bs) (some (.loc l.b)) none none) st2 = some (.rt (.bl true), eR r (.br false bs) (some (.loc l.b)) none none, st2.set l.b (obO l.d l.n .ch)) :=
      (if_t (cB_run (bin_run (var_run rfl) (y := .tup [.frz [.str w_choose], .frz [.str w_loop]]) rfl hw))).trans ((seq_nx p1).trans ((seq_nx p2).trans ((seq_nx p3).trans (ret_run rfl))))
    exact ⟨_, _, fr_rt rfl rfl ((pre _).trans (seq_rt s4)), R3⟩
  | true =>
    have hq : opEq (.frz ((Stm.br true bs).hd.map D.str)) (.frz [.str w_loop]) (st2.set l.b (obO l.d l.n .lp)) = some (.ok (.bl true), st2.set l.b (obO l.d l.n .lp)) := by kernel_rfl
    have R3' : Rep (st2.set l.b (obO l.d l.n .lp)) r bl n (l :: ls) ⟨⟨f.done, .lp, f.inner⟩ :: rest, ns + 1, sp + 1⟩ := R3
    have hbk3 : eFld (eVar 0) w_blocks (CX (M + 3)) (eR r (.br true bs) (some (.loc l.b)) none none) (st2.set l.b (obO l.d l.n .lp)) = some (.ok (.loc bl), st2.set l.b (obO l.d l.n .lp)) := fld_run (k := r) (var_run rfl) R3'.rd rfl
    have hbl := (List.getElem?_eq_some_iff.mp R3'.bs).1
    have ap := append_run hbk3 R3'.bs (make_run (M + 2) (eR r (.br true bs) (some (.loc l.b)) none none) (st2.set l.b (obO l.d l.n .lp))) (by rw [List.getElem?_append_left hbl]; exact R3'.bs) (by rw [List.length_reverse, List.length_map, hlen, lim_eq]; simp only [List.length_cons]; omega)
    have p3 : (sIf (cB (eBin opEq (eVar 1) (eLstF (lCons (eC (.str w_loop)) lNil)))) (sExpr (eMt1 isLst mAppend (eFld (eVar 0) w_blocks) (eMake C_OpenBlock F_OpenBlock____init__ lNil))) sPass) (CX (M + 3)) (eR r (.br true bs) (some (.loc l.b)) none none) (st2.set l.b (obO l.d l.n .lp)) = some (.nx, eR r (.br true bs) (some (.loc l.b)) none none, _) :=
      (if_t (cB_run (bin_run (var_run rfl) (y := .frz [.str w_loop]) rfl hq))).trans (expr_run ap)
    have s4 : b_ProgramReader__read_statement_4 (CX (M + 3)) (eR r (.br true bs) (some (.loc l.b)) none none) st2 = some (.rt (.bl true), eR r (.br true bs) (some (.loc l.b)) none none, _) :=
      (if_t (cB_run (bin_run (var_run rfl) (y := .tup [.frz [.str w_choose], .frz [.str w_loop]]) rfl hw))).trans ((seq_nx p1).trans ((seq_nx p2).trans ((seq_nx p3).trans (ret_run rfl))))
    exact ⟨_, _, fr_rt rfl rfl ((pre _).trans (seq_rt s4)), R3'.push⟩
end MI

set_option autoImplicit false
set_option maxRecDepth 100000
set_option linter.all false
/-! E12: read runs; parse_program runs. -/
namespace MI
open PySem
abbrev eQ (r : Nat) (line : List Nat) (x2 x3 x4 : Option D) : Env := [some (.loc r), some (.str line), x2, x3, x4]
theorem read_pre {st : Stt} {r bl n k m ns sp : Nat} {ls : List Loc} {s : List AF} {g : AF} {rest : List AF} {txt : List Nat} (R : Rep st r bl n ls ⟨s, ns, sp⟩) (hc : closeA m s = some (g :: rest)) (hl : s.length = k + 1 + m) (h5 : s.length ≤ 5) (ht : ∃ x w, txt = x :: w ∧ x ≠ 32) (htl : txt.length ≤ 40) (M : Nat) :
    ∃ l' ls' st1, Rep st1 r bl n (l' :: ls') ⟨g :: rest, ns, sp⟩ ∧ ∀ T : SS, (sSeq b_ProgramReader__read_0 (sSeq b_ProgramReader__read_1 (sSeq b_ProgramReader__read_2 (sSeq b_ProgramReader__read_3 T)))) (CX (M + 4)) (eQ r (sps k ++ txt) none none none) st = T (CX (M + 4)) (eQ r (sps k ++ txt) (some (.str txt)) (some (.int ((2 * k : Nat) : Int))) (some (.loc l'.b))) st1 := by
  obtain ⟨ls1, st1, cc, R1⟩ := close_run (N := M + 2) R hc hl (by omega)
  cases ls1 with
  | nil => exact R1.own.elim
  | cons l' ls' =>
  refine ⟨l', ls', st1, R1, fun T => ?_⟩
  have hlen : (sps k ++ txt).length < lim := by rw [List.length_append, sps_len, lim_eq]; omega
  have s0 : b_ProgramReader__read_0 (CX (M + 4)) (eQ r (sps k ++ txt) none none none) st = some (.nx, eQ r (sps k ++ txt) (some (.str txt)) none none, st) := by
    refine set_run ?_ (by show 2 < 5; decide)
    obtain ⟨x, w, rfl, hx⟩ := ht
    unfold eMt1
    rw [bnd_ok (a := .str (sps k ++ x :: w)) (st1 := st) rfl, bnd_ok (a := ()) (st1 := st) rfl, bnd_ok (a := .str [32]) (st1 := st) rfl]
    simp only [mLstrip, hlen, if_true, strip_sps k hx]
  have h1 : (eUn bLen (eVar 1)) (CX (M + 4)) (eQ r (sps k ++ txt) (some (.str txt)) none none) st = some (.ok (.int ((sps k ++ txt).length : Int)), st) := un_run (var_run rfl) (by simp only [bLen, hlen, if_true])
  have htl' : txt.length < lim := by rw [lim_eq]; omega
  have h2 : (eUn bLen (eVar 2)) (CX (M + 4)) (eQ r (sps k ++ txt) (some (.str txt)) none none) st = some (.ok (.int (txt.length : Int)), st) := un_run (var_run rfl) (by simp only [bLen, htl', if_true])
  have s1 : b_ProgramReader__read_1 (CX (M + 4)) (eQ r (sps k ++ txt) (some (.str txt)) none none) st = some (.nx, eQ r (sps k ++ txt) (some (.str txt)) (some (.int ((2 * k : Nat) : Int))) none, st) := by
    refine set_run (bin_run h1 h2 ?_) (by show 3 < 5; decide)
    have : (((sps k ++ txt).length : Nat) : Int) - (txt.length : Int) = ((2 * k : Nat) : Int) := by rw [List.length_append, sps_len]; omega
    simp only [opSub, this]
  have hdiv : (eBin opDiv (eVar 3) (eC (.int 2))) (CX (M + 4)) (eQ r (sps k ++ txt) (some (.str txt)) (some (.int ((2 * k : Nat) : Int))) none) st = some (.ok (.int (k : Int)), st) := by
    refine bin_run (var_run rfl) (y := .int 2) rfl ?_
    have : ((2 * k : Nat) : Int) / 2 = (k : Int) := by omega
    simp only [opDiv, this]
    rfl
  have c1 : (cB (eBin opNe (eBin opMod (eVar 3) (eC (.int 2))) (eC (.int 0)))) (CX (M + 4)) (eQ r (sps k ++ txt) (some (.str txt)) (some (.int ((2 * k : Nat) : Int))) none) st = some (.ok false, st) := by
    refine cB_run (bin_run (x := .int 0) (y := .int 0) (st1 := st) (st2 := st) (bin_run (var_run rfl) (y := .int 2) rfl ?_) rfl (by kernel_rfl))
    have : ((2 * k : Nat) : Int) % 2 = 0 := by omega
    simp only [opMod, this]
    rfl
  have hbk : eFld (eVar 0) w_blocks (CX (M + 4)) (eQ r (sps k ++ txt) (some (.str txt)) (some (.int ((2 * k : Nat) : Int))) none) st = some (.ok (.loc bl), st) := fld_run (k := r) (var_run rfl) R.rd rfl
  have c2 : (cB (eBin opGe (eBin opDiv (eVar 3) (eC (.int 2))) (eUn bLen (eFld (eVar 0) w_blocks)))) (CX (M + 4)) (eQ r (sps k ++ txt) (some (.str txt)) (some (.int ((2 * k : Nat) : Int))) none) st = some (.ok false, st) := by
    refine cB_run (bin_run hdiv (len_loc hbk R.bs) ?_)
    have hll := R.own.len
    have : ¬ ((((ls.map fun l => D.loc l.b).reverse.length : Nat) : Int) ≤ (k : Int)) := by
      rw [List.length_reverse, List.length_map, hll]; simp only; omega
    simp only [opGe, this, decide_false]
  have c3 : (cNot (cB (eMeth (eVar 0) w_close_95_to (lCons (eBin opDiv (eVar 3) (eC (.int 2))) lNil)))) (CX (M + 4)) (eQ r (sps k ++ txt) (some (.str txt)) (some (.int ((2 * k : Nat) : Int))) none) st = some (.ok false, st1) :=
    not_run (b := true) (cB_run (meth_run (k := r) (cc := C_ProgramReader) (fn := F_ProgramReader__close_to) (var_run rfl) R.rd rfl rfl (lcons_run hdiv lnil_run) cc))
  have s2 : b_ProgramReader__read_2 (CX (M + 4)) (eQ r (sps k ++ txt) (some (.str txt)) (some (.int ((2 * k : Nat) : Int))) none) st = some (.nx, eQ r (sps k ++ txt) (some (.str txt)) (some (.int ((2 * k : Nat) : Int))) none, st1) := if_f ((or_f2 c1).trans ((or_f2 c2).trans c3))
  have hbs : st1[bl]? = some (.lst ((ls'.map fun l => D.loc l.b).reverse ++ [.loc l'.b])) := by rw [R1.bs]; simp
  have s3 : b_ProgramReader__read_3 (CX (M + 4)) (eQ r (sps k ++ txt) (some (.str txt)) (some (.int ((2 * k : Nat) : Int))) none) st1 = some (.nx, eQ r (sps k ++ txt) (some (.str txt)) (some (.int ((2 * k : Nat) : Int))) (some (.loc l'.b)), st1) :=
    set_run (bin_run (fld_run (k := r) (var_run rfl) R1.rd rfl) (y := .int (-1)) rfl (ixl_last hbs)) (by show 4 < 5; decide)
  exact (seq_nx s0).trans ((seq_nx s1).trans ((seq_nx s2).trans (seq_nx s3)))
theorem hd_first {t : Stm} : ∃ x w, joinN [32] t.hd = x :: w ∧ x ≠ 32 ∧ (joinN [32] t.hd == w_way) = false := by
  match t with
  | .pl (.fresh _) => exact ⟨_, _, rfl, by decide, rfl⟩
  | .pl (.give _ _ _) => exact ⟨_, _, rfl, by decide, rfl⟩
  | .pl (.change _ _ _) => exact ⟨_, _, rfl, by decide, rfl⟩
  | .look _ => exact ⟨_, _, rfl, by decide, rfl⟩
  | .br true _ => exact ⟨_, _, rfl, by decide, rfl⟩
  | .br false _ => exact ⟨_, _, rfl, by decide, rfl⟩
theorem split_run {c : Ctx} {env : Env} {st : Stt} {i : Nat} {t : Stm} (ho : ∀ w ∈ t.hd, 32 ∉ w) (h : env[i]? = some (some (.str (joinN [32] t.hd)))) : eMt1 isStr mSplit (eVar i) (eC (.str w__32_)) c env st = some (.ok (.frz (t.hd.map D.str)), st) := by
  unfold eMt1
  rw [bnd_ok (var_run h), bnd_ok (a := ()) (st1 := st) rfl, bnd_ok (a := .str [32]) (st1 := st) rfl]
  have hl : (joinN [32] t.hd).length + 2 < lim := by have := hd_join_len (s := t); rw [lim_eq]; omega
  have hne : t.hd ≠ [] := by rw [hd_form]; simp
  simp only [mSplit, hl, if_true, split_join hne ho]
/-- the way to read_statement -/
theorem read_st {st : Stt} {r bl n k m ns sp : Nat} {ls : List Loc} {s : List AF} {g f : AF} {rest : List AF} {t : Stm} (hw : ∀ w ∈ t.hd, ∀ c ∈ w, c < 128 ∧ c ≠ 10 ∧ c ≠ 32) (R : Rep st r bl n ls ⟨s, ns, sp⟩) (hc : closeA m s = some (g :: rest)) (hl : s.length = k + 1 + m) (h5 : s.length ≤ 5) (hf : fin g = some f) (M : Nat) {σ : AS}
    (go : ∀ (l : Loc) (ls' : List Loc) (st' : Stt), Rep st' r bl n (l :: ls') ⟨f :: rest, ns, sp⟩ → ∃ ls2 st2, prog.call 3000 (M + 4) F_ProgramReader__read_statement [.loc r, .frz (t.hd.map D.str)] st' = some (.ok (.bl true), st2) ∧ Rep st2 r bl n ls2 σ) :
    ∃ ls2 st2, prog.call 3000 (M + 5) F_ProgramReader__read [.loc r, .str (lnW k t)] st = some (.ok (.bl true), st2) ∧ Rep st2 r bl n ls2 σ := by
  obtain ⟨x, w, e1, e2, e3⟩ := hd_first (t := t)
  obtain ⟨l, ls', st1, R1, pre⟩ := read_pre R hc hl h5 ⟨x, w, e1, e2⟩ (by have := hd_join_len (s := t); omega) M
  have S := sep_of R1.nd
  obtain ⟨st2, c1, o2, len2, fr2⟩ := finish_run R1.own.1 S.c1 hf (M + 3)
  have R2 := R1.fin o2 fr2
  obtain ⟨ls3, st3, c3, R3⟩ := go _ _ _ R2
  have hch : ((joinN [32] t.hd).all (· < 1114112)) = true := by
    refine List.all_eq_true.mpr fun c hc => ?_
    have : c < 128 := by
      rcases joinN_mem hc with h | ⟨w, hw1, h⟩
      · omega
      · exact (hw w hw1 c h).1
    simp; omega
  have s4 : b_ProgramReader__read_4 (CX (M + 4)) (eQ r (sps k ++ joinN [32] t.hd) (some (.str (joinN [32] t.hd))) (some (.int ((2 * k : Nat) : Int))) (some (.loc l.b))) st1 = some (.nx, eQ r (sps k ++ joinN [32] t.hd) (some (.str (joinN [32] t.hd))) (some (.int ((2 * k : Nat) : Int))) (some (.loc l.b)), st1) := by
    have hq := eqs (joinN [32] t.hd) w_way hch (by decide +kernel) st1
    rw [e3] at hq
    exact if_f (cB_run (bin_run (var_run rfl) (y := .str w_way) rfl hq))
  have m1 : eMeth (eVar 4) w_finish lNil (CX (M + 4)) (eQ r (sps k ++ joinN [32] t.hd) (some (.str (joinN [32] t.hd))) (some (.int ((2 * k : Nat) : Int))) (some (.loc l.b))) st1 = some (.ok (.bl true), st2) := meth_run (k := l.b) (cc := C_OpenBlock) (fn := F_OpenBlock__finish) (var_run rfl) R1.own.1.b rfl rfl lnil_run c1
  have m2 : eMeth (eVar 0) w_read_95_statement (lCons (eMt1 isStr mSplit (eVar 2) (eC (.str w__32_))) lNil) (CX (M + 4)) (eQ r (sps k ++ joinN [32] t.hd) (some (.str (joinN [32] t.hd))) (some (.int ((2 * k : Nat) : Int))) (some (.loc l.b))) st2 = some (.ok (.bl true), st3) := meth_run (k := r) (cc := C_ProgramReader) (fn := F_ProgramReader__read_statement) (var_run rfl) R2.rd rfl rfl (lcons_run (split_run (fun w hw1 h => (hw w hw1 32 h).2.2 rfl) rfl) lnil_run) c3
  have s5 : b_ProgramReader__read_5 (CX (M + 4)) (eQ r (sps k ++ joinN [32] t.hd) (some (.str (joinN [32] t.hd))) (some (.int ((2 * k : Nat) : Int))) (some (.loc l.b))) st1 = some (.rt (.bl true), eQ r (sps k ++ joinN [32] t.hd) (some (.str (joinN [32] t.hd))) (some (.int ((2 * k : Nat) : Int))) (some (.loc l.b)), st3) := by
    refine ret_run ?_
    unfold eAnd
    rw [bnd_ok m1]
    exact m2
  rw [call_np fn_rea (by decide)]
  exact ⟨ls3, st3, fr_rt rfl rfl ((pre _).trans ((seq_nx s4).trans s5)), R3⟩
theorem k01_spt {t : Stm} (h : t.plain = true) : t.k01 = t.spt := by
  match t, h with
  | .pl (.fresh _), _ => rfl
  | .pl (.give _ _ _), _ => rfl
  | .pl (.change _ _ _), _ => rfl
  | .look _, _ => rfl
theorem br_words (lp : Bool) (bs : List (List Stm)) : ∀ w ∈ (Stm.br lp bs).hd, ∀ c ∈ w, c < 128 ∧ c ≠ 10 ∧ c ≠ 32 := by
  cases lp <;> simp only [Stm.hd] <;> decide +kernel
/-- a line is read -/
theorem step_run {n : Nat} (hn : n ≤ 4) {line : List Nat} {a b : AS} (h : Step n line a b) {st : Stt} {r bl : Nat} {ls : List Loc} (R : Rep st r bl n ls a) (M : Nat) :
    ∃ ls2 st2, prog.call 3000 (M + 5) F_ProgramReader__read [.loc r, .str line] st = some (.ok (.bl true), st2) ∧ Rep st2 r bl n ls2 b := by
  cases h with
  | @pl k m d s rest g f ns sp t hc hl h5 hf ht ho hd h40 h12 =>
    refine read_st (fun w hw => (hd_words hn ho w hw).1) R hc hl h5 hf M fun l ls' st' R' => ?_
    have hk := k01_spt ht
    obtain ⟨st2, c, R2⟩ := rst_pl R' hn ht ho hd h40 (by rw [hk]; exact h12) M
    refine ⟨l :: ls', st2, c, ?_⟩
    rw [hk] at R2
    have e : f.word = .no ∧ f.inner = [] := by
      match g, hf with
      | ⟨_, .no, _⟩, hf => cases hf; exact ⟨rfl, rfl⟩
      | ⟨ds, .lp, t :: is⟩, hf =>
        simp only [fin] at hf
        split at hf <;> cases hf
        exact ⟨rfl, rfl⟩
      | ⟨ds, .lp, []⟩, hf => simp [fin] at hf
      | ⟨ds, .ch, is⟩, hf =>
        simp only [fin] at hf
        split at hf <;> cases hf
        exact ⟨rfl, rfl⟩
    rw [e.1, e.2] at R2
    exact R2
  | @lp k m s rest g f ns sp bs hc hl h5 hf hd h40 h12 hr =>
    refine read_st (br_words true bs) R hc hl h5 hf M fun l ls' st' R' => ?_
    obtain ⟨ls2, st2, c, R2⟩ := rst_br (lp := true) (bs := bs) (d := 0) R' hd h40 h12 hr M
    refine ⟨ls2, st2, c, ?_⟩
    have e : f.inner = [] := by
      match g, hf with
      | ⟨_, .no, _⟩, hf => cases hf; rfl
      | ⟨ds, .lp, t :: is⟩, hf =>
        simp only [fin] at hf
        split at hf <;> cases hf
        rfl
      | ⟨ds, .lp, []⟩, hf => simp [fin] at hf
      | ⟨ds, .ch, is⟩, hf =>
        simp only [fin] at hf
        split at hf <;> cases hf
        rfl
    rw [if_pos rfl, e] at R2
    exact R2
  | @ch k m s rest g f ns sp bs hc hl h5 hf hd h40 h12 hr =>
    refine read_st (br_words false bs) R hc hl h5 hf M fun l ls' st' R' => ?_
    obtain ⟨ls2, st2, c, R2⟩ := rst_br (lp := false) (bs := bs) (d := 0) R' hd h40 h12 hr M
    refine ⟨ls2, st2, c, ?_⟩
    have e : f.inner = [] := by
      match g, hf with
      | ⟨_, .no, _⟩, hf => cases hf; rfl
      | ⟨ds, .lp, t :: is⟩, hf =>
        simp only [fin] at hf
        split at hf <;> cases hf
        rfl
      | ⟨ds, .lp, []⟩, hf => simp [fin] at hf
      | ⟨ds, .ch, is⟩, hf =>
        simp only [fin] at hf
        split at hf <;> cases hf
        rfl
    rw [if_neg (by decide), e] at R2
    exact R2
  | @way k m s rest f ns sp hc hl h5 hw hi =>
    obtain ⟨l, ls', st1, R1, pre⟩ := read_pre R hc hl h5 (txt := w_way) ⟨_, _, rfl, by decide⟩ (by decide) M
    have o := R1.own.1
    have hlen : (l :: ls').length = (f :: rest).length := R1.own.len
    have t4 : (cB (eBin opEq (eVar 2) (eC (.str w_way)))) (CX (M + 4)) (eQ r (sps k ++ w_way) (some (.str w_way)) (some (.int ((2 * k : Nat) : Int))) (some (.loc l.b))) st1 = some (.ok true, st1) :=
      cB_run (bin_run (var_run rfl) (y := .str w_way) rfl (eqs _ _ (by decide +kernel) (by decide +kernel) st1))
    have hwd : eFld (eVar 4) w_word (CX (M + 4)) (eQ r (sps k ++ w_way) (some (.str w_way)) (some (.int ((2 * k : Nat) : Int))) (some (.loc l.b))) st1 = some (.ok f.word.d, st1) := fld_run (k := l.b) (var_run rfl) o.b rfl
    have hin : eFld (eVar 4) w_inner (CX (M + 4)) (eQ r (sps k ++ w_way) (some (.str w_way)) (some (.int ((2 * k : Nat) : Int))) (some (.loc l.b))) st1 = some (.ok (.loc l.n), st1) := fld_run (k := l.b) (var_run rfl) o.b rfl
    have c1 := cB_run (bin_run (f := opNe) hwd (b := eC (.str w_choose)) rfl (wne_ch f.word st1))
    rw [hw] at c1
    have c2 := cB_run (bin_run (f := opEq) (len_loc hin o.n) (b := eC (.int 3)) rfl (eqi _ _ _))
    have e3 : ((f.inner.length : Int) == 3) = false := by simp; omega
    rw [e3] at c2
    have p1 : (sIf (cOr (cB (eBin opNe (eFld (eVar 4) w_word) (eC (.str w_choose)))) (cB (eBin opEq (eUn bLen (eFld (eVar 4) w_inner)) (eC (.int 3))))) (sRet (eC (.bl false))) sPass) (CX (M + 4)) (eQ r (sps k ++ w_way) (some (.str w_way)) (some (.int ((2 * k : Nat) : Int))) (some (.loc l.b))) st1 = some (.nx, eQ r (sps k ++ w_way) (some (.str w_way)) (some (.int ((2 * k : Nat) : Int))) (some (.loc l.b)), st1) := if_f (or_run c1 c2)
    have hbk : eFld (eVar 0) w_blocks (CX (M + 4)) (eQ r (sps k ++ w_way) (some (.str w_way)) (some (.int ((2 * k : Nat) : Int))) (some (.loc l.b))) st1 = some (.ok (.loc bl), st1) := fld_run (k := r) (var_run rfl) R1.rd rfl
    have hbl := (List.getElem?_eq_some_iff.mp R1.bs).1
    have hrl : (f :: rest).length ≤ 5 := by
      have : ∀ (m : Nat) (s s' : List AF), closeA m s = some s' → s'.length ≤ s.length := by
        intro m
        induction m with
        | zero => intro s s' h; cases h; exact Nat.le_refl _
        | succ m ih =>
          intro s s' h
          match s, h with
          | [], h => simp [closeA] at h
          | [_], h => simp [closeA] at h
          | a :: b :: s, h =>
            rw [closeA] at h
            split at h
            · split at h
              · have := ih _ _ h; simp at this ⊢; omega
              · cases h
            · cases h
      have := this m s _ hc; omega
    have ap := append_run hbk R1.bs (make_run (M + 3) (eQ r (sps k ++ w_way) (some (.str w_way)) (some (.int ((2 * k : Nat) : Int))) (some (.loc l.b))) st1) (by rw [List.getElem?_append_left hbl]; exact R1.bs) (by rw [List.length_reverse, List.length_map, hlen, lim_eq]; omega)
    have s4 : b_ProgramReader__read_4 (CX (M + 4)) (eQ r (sps k ++ w_way) (some (.str w_way)) (some (.int ((2 * k : Nat) : Int))) (some (.loc l.b))) st1 = some (.rt (.bl true), eQ r (sps k ++ w_way) (some (.str w_way)) (some (.int ((2 * k : Nat) : Int))) (some (.loc l.b)), _) :=
      (if_t t4).trans ((seq_nx p1).trans ((seq_nx (expr_run ap)).trans (ret_run rfl)))
    rw [call_np fn_rea (by decide)]
    exact ⟨_, _, fr_rt rfl rfl ((pre _).trans (seq_rt s4)), R1.push⟩
/-- lines read one behind another, as a row of states -/
theorem Rds.row {n : Nat} : ∀ {ls : List (List Nat)} {a c : AS}, Rds n ls a c → ∃ σ : Nat → AS, σ 0 = a ∧ σ ls.length = c ∧ ∀ i l, ls[i]? = some l → Step n l (σ i) (σ (i + 1))
  | _, a, _, .nil => ⟨fun _ => a, rfl, rfl, fun i l h => by simp at h⟩
  | _, a, _, .cons h t => by
    obtain ⟨σ, h0, h1, h2⟩ := t.row
    refine ⟨fun i => match i with
      | 0 => a
      | i + 1 => σ i, rfl, h1, fun i l hi => ?_⟩
    cases i with
    | zero => simp at hi; subst hi; simp only [h0]; exact h
    | succ i => exact h2 i l (by simpa using hi)
end MI

set_option autoImplicit false
set_option maxRecDepth 100000
set_option linter.all false
/-! E13: parse_program runs. -/
namespace MI
open PySem
theorem fn_prs : prog.fns[F_parse_program]? = some ⟨1, 7, b_parse_program⟩ := rfl
theorem slcF_last {a : SE} {c : Ctx} {env : Env} {st st1 : Stt} {l : List D} {d : D} (h : a c env st = some (.ok (.frz (l ++ [d])), st1)) : eSlc a oNone (oSome (eUn opNeg (eC (.int 1)))) c env st = some (.ok (.frz l), st1) := by
  have h2 : oSome (eUn opNeg (eC (.int 1))) c env st1 = some (.ok (some (-1)), st1) := rfl
  have e : cut (l ++ [d]) none (some (-1)) = l := by
    unfold cut clampI
    simp
    rw [show (-1 + ((l.length : Int) + 1)).toNat = l.length by omega]
    simp
  unfold eSlc
  rw [bnd_ok h, bnd_ok (x := oNone c env) (a := none) (st1 := st1) rfl, bnd_ok h2]
  simp only [opSlc, e]
theorem ixF_last {l : List D} {d : D} (st : Stt) : opIx (.frz (l ++ [d])) (.int (-1)) st = some (.ok d, st) := by
  have e : ixN (l ++ [d]).length (-1) = some l.length := by
    unfold ixN
    rw [if_neg (by decide), if_pos (by simp; omega)]
    simp
    omega
  simp only [opIx, e, Option.bind_some]
  simp
theorem page_len {ls : List (List Nat)} (h : ∀ l ∈ ls, LnOk l) : (pageL ls).length ≤ 41 * ls.length := by
  unfold pageL
  rw [joinN_flat, List.length_flatten]
  have := sum_le (l := ls.map (· ++ [10])) (k := 41) (fun w hw => by
    obtain ⟨l, hm, rfl⟩ := List.mem_map.mp hw
    have := (h l hm).1
    rw [List.length_append]; show l.length + 1 ≤ _; omega)
  simpa using this
theorem make_reader (a0 a1 a2 a3 : Option D) (n M : Nat) : eMake C_ProgramReader F_ProgramReader____init__ (lCons (eVar 4) lNil) (CX (M + 6)) [a0, a1, a2, a3, some (.int (n : Int)), none, none] [] = some (.ok (.loc 0), [rdO n 4 0 0, obO 2 3 .no, .lst [], .lst [], .lst [.loc 1]]) := by kernel_rfl
theorem rep0 (n : Nat) : Rep [rdO n 4 0 0, obO 2 3 .no, .lst [], .lst [], .lst [.loc 1]] 0 4 n [⟨1, 2, 3⟩] ⟨[nw], 0, 0⟩ :=
  ⟨rfl, rfl, ⟨⟨rfl, rfl, rfl⟩, trivial⟩, by decide⟩
theorem range2_run {a e : SE} {c : Ctx} {env : Env} {st : Stt} {L : Nat} (ha : a c env st = some (.ok (.int 1), st)) (he : e c env st = some (.ok (.int ((L + 1 : Nat) : Int)), st)) (hl : L < 100000) : iRange2 a e c env st = some (.ok (.items ((List.range L).map fun (k : Nat) => D.int ((k + 1 : Nat) : Int))), st) := by
  unfold iRange2
  rw [bnd_ok ha, bnd_ok he]
  show (if -(lim : Int) < 1 ∧ (1 : Int) < lim ∧ -(lim : Int) < ((L + 1 : Nat) : Int) ∧ ((L + 1 : Nat) : Int) < lim then ret (Src.items (rangeL 1 ((L + 1 : Nat) : Int))) else fail) st = _
  rw [if_pos ⟨by rw [lim_eq]; omega, by rw [lim_eq]; omega, by rw [lim_eq]; omega, by rw [lim_eq]; omega⟩]
  have : rangeL 1 ((L + 1 : Nat) : Int) = (List.range L).map fun (k : Nat) => D.int ((k + 1 : Nat) : Int) := by
    unfold rangeL
    rw [show (((L + 1 : Nat) : Int) - 1).toNat = L by omega]
    refine List.map_congr_left fun k _ => ?_
    congr 1; omega
  rw [this]; rfl
theorem names_split (n : Nat) : splitC 32 (w_names_32_ ++ dg n) = [w_names, dg n] := by
  have e : w_names_32_ ++ dg n = joinN [32] [w_names, dg n] := rfl
  rw [e]
  refine split_join (by simp) fun w hw => ?_
  simp at hw
  rcases hw with rfl | rfl
  · decide +kernel
  · simp [dg]; omega
abbrev eP7 (pg : List Nat) (x1 x2 x3 x4 x5 x6 : Option D) : Env := [some (.str pg), x1, x2, x3, x4, x5, x6]
theorem parse_loop {n L M : Nat} (hn : n ≤ 4) {a0 a1 a3 a4 : Option D} {LN : D} {lns : List (List Nat)} {σ : Nat → AS} (hL : lns.length ≤ 400) (hix : ∀ (j : Nat) (w : List Nat) (st : Stt), lns[j]? = some w → opIx LN (.int ((j + 1 : Nat) : Int)) st = some (.ok (.str w), st)) (hlen : ∀ st, bLen LN st = some (.ok (.int ((lns.length + 1 : Nat) : Int)), st))
    {st0 : Stt} (σs : ∀ i l, lns[i]? = some l → Step n l (σ i) (σ (i + 1))) {ls0 : List Loc} (R0 : Rep st0 0 4 n ls0 (σ 0)) :
    ∃ x6 ls st', b_parse_program_6 (CX (M + 6)) [a0, a1, some LN, a3, a4, some (.loc 0), none] st0 = some (.nx, [a0, a1, some LN, a3, a4, some (.loc 0), x6], st') ∧ Rep st' 0 4 n ls (σ lns.length) := by
  have hlen2 : (eUn bLen (eVar 2)) (CX (M + 6)) [a0, a1, some LN, a3, a4, some (.loc 0), none] st0 = some (.ok (.int ((lns.length + 1 : Nat) : Int)), st0) := un_run (var_run rfl) (hlen _)
  obtain ⟨env6, st6, e6, x6, ls6, rfl, R6⟩ := for_inv (g := gVar 6) (it := iRange2 (eC (.int 1)) (eUn bLen (eVar 2))) (b := (sIf (cNot (cB (eMeth (eVar 5) w_read (lCons (eBin opIx (eVar 2) (eVar 6)) lNil))))
  sNone
  sPass)) (c := CX (M + 6)) (env := [a0, a1, some LN, a3, a4, some (.loc 0), none]) (st := st0) (st1 := st0) (l := (List.range lns.length).map fun (k : Nat) => D.int ((k + 1 : Nat) : Int))
    (fun i env st' => ∃ x6 ls, env = [a0, a1, some LN, a3, a4, some (.loc 0), x6] ∧ Rep st' 0 4 n ls (σ i))
    (range2_run rfl hlen2 (by omega)) ⟨none, _, rfl, R0⟩ (by rw [List.length_map, List.length_range]; show _ < 3000; omega) (by
      rintro i dd env st1 hd ⟨x6, ls, rfl, R⟩
      rw [List.getElem?_map] at hd
      obtain ⟨j, hj, rfl⟩ := Option.map_eq_some_iff.mp hd
      have hil : i < lns.length := by have := (List.getElem?_eq_some_iff.mp hj).1; simpa using this
      have hij : j = i := by
        rw [List.getElem?_eq_getElem (by simpa using hil)] at hj
        simp at hj; exact hj.symm
      subst hij
      have hline : lns[j]? = some lns[j] := List.getElem?_eq_getElem hil
      generalize lns[j] = line at hline
      obtain ⟨ls2, st2, c2, R2⟩ := step_run hn (σs j _ hline) R M
      have hx : (eBin opIx (eVar 2) (eVar 6)) (CX (M + 6)) [a0, a1, some LN, a3, a4, some (.loc 0), some (.int ((j + 1 : Nat) : Int))] st1 = some (.ok (.str line), st1) :=
        bin_run (x := LN) (y := .int ((j + 1 : Nat) : Int)) (var_run rfl) (var_run rfl) (hix j _ st1 hline)
      obtain ⟨ls2, st2, c2, R2⟩ := step_run hn (σs j _ hline) R (M + 1)
      have hm : eMeth (eVar 5) w_read (lCons (eBin opIx (eVar 2) (eVar 6)) lNil) (CX (M + 6)) [a0, a1, some LN, a3, a4, some (.loc 0), some (.int ((j + 1 : Nat) : Int))] st1 = some (.ok (.bl true), st2) :=
        meth_run (k := 0) (cc := C_ProgramReader) (fn := F_ProgramReader__read) (var_run rfl) R.rd rfl rfl (lcons_run hx lnil_run) c2
      exact ⟨_, st2, turn_var (by show 6 < 7; decide) ((if_f (not_run (b := true) (cB_run hm))).trans rfl), _, ls2, rfl, R2⟩)
  rw [List.length_map, List.length_range] at R6
  exact ⟨x6, ls6, st6, e6, R6⟩
/-- the end: all closed, all finished -/
theorem parse_end {n M : Nat} {b : List Stm} {a0 a2 a3 x6 : Option D} {pcs : D} (hpc : ∀ st, opIx pcs (.int (-1)) st = some (.ok (.str []), st)) {st : Stt} {ls : List Loc} {s : List AF} {ns sp : Nat} (R : Rep st 0 4 n ls ⟨s, ns, sp⟩) (hN : Nrm 0 s ⟨blL b, .no, []⟩ []) :
    ∃ st', (sSeq b_parse_program_7 b_parse_program_8) (CX (M + 6)) [a0, some pcs, a2, a3, some (.int (n : Int)), some (.loc 0), x6] st = some (.rt (prD n b), [a0, some pcs, a2, a3, some (.int (n : Int)), some (.loc 0), x6], st') := by
  obtain ⟨g, ⟨m, k1, k2, k3, k4⟩, k5⟩ := hN
  obtain ⟨ls1, st1, c1, R1⟩ := close_run (lv := 0) (N := M + 4) R k1 k2 (by omega)
  match ls1, R1 with
  | [], R1 => exact R1.own.elim
  | _ :: _ :: _, R1 => exact R1.own.2.elim
  | [l], R1 =>
    have S := sep_of R1.nd
    obtain ⟨st2, c2, o2, len2, fr2⟩ := finish_run R1.own.1 S.c1 k5 (M + 5)
    have R2 := R1.fin o2 fr2
    have d1 : (cNot (cB (eMeth (eVar 5) w_close_95_to (lCons (eC (.int 0)) lNil)))) (CX (M + 6)) [a0, some pcs, a2, a3, some (.int (n : Int)), some (.loc 0), x6] st = some (.ok false, st1) :=
      not_run (b := true) (cB_run (meth_run (k := 0) (cc := C_ProgramReader) (fn := F_ProgramReader__close_to) (var_run rfl) R.rd rfl rfl (lcons_run (x := .int ((0 : Nat) : Int)) rfl lnil_run) c1))
    have hb1 : (eBin opIx (eFld (eVar 5) w_blocks) (eC (.int 0))) (CX (M + 6)) [a0, some pcs, a2, a3, some (.int (n : Int)), some (.loc 0), x6] st1 = some (.ok (.loc l.b), st1) :=
      bin_run (fld_run (k := 0) (var_run rfl) R1.rd rfl) (y := .int 0) rfl (ix_loc (k := 0) R1.bs rfl)
    have d2 : (cNot (cB (eMeth (eBin opIx (eFld (eVar 5) w_blocks) (eC (.int 0))) w_finish lNil))) (CX (M + 6)) [a0, some pcs, a2, a3, some (.int (n : Int)), some (.loc 0), x6] st1 = some (.ok false, st2) :=
      not_run (b := true) (cB_run (meth_run (k := l.b) (cc := C_OpenBlock) (fn := F_OpenBlock__finish) hb1 R1.own.1.b rfl rfl lnil_run c2))
    have d3 : (cB (eBin opNe (eBin opIx (eVar 1) (eUn opNeg (eC (.int 1)))) (eC (.str w_)))) (CX (M + 6)) [a0, some pcs, a2, a3, some (.int (n : Int)), some (.loc 0), x6] st2 = some (.ok false, st2) :=
      cB_run (bin_run (x := .str []) (y := .str []) (st1 := st2) (st2 := st2) (bin_run (x := pcs) (y := .int (-1)) (var_run rfl) rfl (hpc st2)) rfl (by kernel_rfl))
    have s7 : b_parse_program_7 (CX (M + 6)) [a0, some pcs, a2, a3, some (.int (n : Int)), some (.loc 0), x6] st = some (.nx, [a0, some pcs, a2, a3, some (.int (n : Int)), some (.loc 0), x6], st2) :=
      if_f ((or_f2 d1).trans ((or_f2 d2).trans d3))
    have hb2 : (eBin opIx (eFld (eVar 5) w_blocks) (eC (.int 0))) (CX (M + 6)) [a0, some pcs, a2, a3, some (.int (n : Int)), some (.loc 0), x6] st2 = some (.ok (.loc l.b), st2) :=
      bin_run (fld_run (k := 0) (var_run rfl) R2.rd rfl) (y := .int 0) rfl (ix_loc (k := 0) R2.bs rfl)
    have hd2 := tuple_loc (fld_run (k := l.b) (f := w_done) hb2 o2.b rfl) o2.d
    exact ⟨st2, (seq_nx s7).trans (ret_run (tup_run (xs := [.int (n : Int), .tup (blL b)]) (lcons_run (var_run rfl) (lcons_run hd2 lnil_run)) lim2))⟩
theorem parse_run {n : Nat} {b : List Stm} (hn0 : 1 ≤ n) (hn : n ≤ 4) (ho : okB n 4 b) (hl8 : b.length ≤ 8) (hc : cntB b ≤ 40) (hs : spB b ≤ 12) (M : Nat) (st : Stt) : prog.call 3000 (M + 7) F_parse_program [.str (pageN n b)] st = some (.ok (prD n b), st) := by
  have hok : ∀ l ∈ allL n b, LnOk l := allL_ok hn (by decide) ho
  have hall : (allL n b).length ≤ 401 := allL_len ho (by omega)
  have hpl : (pageN n b).length ≤ 41 * 401 := Nat.le_trans (page_len hok) (Nat.mul_le_mul_left _ hall)
  have hspl : splitC 10 (pageN n b) = allL n b ++ [[]] := split_page fun l hl => (hok l hl).2.2
  generalize pageN n b = pg at hpl hspl
  have hpc : (allL n b ++ [[]]).map D.str = (allL n b).map D.str ++ [.str []] := by simp
  have hcs : (allL n b).map D.str = .str (w_names_32_ ++ dg n) :: (lnB b 0).map D.str := rfl
  have hoL : D.ok deep (.frz ((allL n b).map D.str)) = true := by
    show D.ok (39 + 1) (.frz ((allL n b).map D.str)) = true
    have h1 : ((allL n b).map D.str).length < lim := by rw [List.length_map, lim_eq]; omega
    have h2 : D.okL 39 ((allL n b).map D.str) = true := okL_strs fun w hw => (hok w hw).2.1
    simp only [D.ok, h2, decide_eq_true h1, Bool.and_self]
  have hln : (lnB b 0).length ≤ 400 := by simpa [allL] using hall
  have f1 : mSplit (.str pg) (.str [10]) [] = some (.ok (.frz ((allL n b).map D.str ++ [.str []])), []) := by
    have : pg.length + 2 < lim := by rw [lim_eq]; omega
    simp only [mSplit, this, if_true, hspl, hpc]
  have f2 : ∀ st, opIx (.frz ((allL n b).map D.str ++ [.str []])) (.int (-1)) st = some (.ok (.str []), st) := fun st => ixF_last st
  have f3 : ∀ {a : SE} {c : Ctx} {env : Env} {st st1 : Stt}, a c env st = some (.ok (.frz ((allL n b).map D.str ++ [.str []])), st1) → eSlc a oNone (oSome (eUn opNeg (eC (.int 1)))) c env st = some (.ok (.frz ((allL n b).map D.str)), st1) := fun h => slcF_last h
  generalize D.frz ((allL n b).map D.str ++ [.str []]) = pcs at f1 f2 f3
  have g1 : opNe (.frz ((allL n b).map D.str)) (.frz []) [] = some (.ok (.bl true), []) := by
    rw [opNe_ok hoL (by decide +kernel), hcs]; rfl
  have g2 : opIx (.frz ((allL n b).map D.str)) (.int 0) [] = some (.ok (.str (w_names_32_ ++ dg n)), []) := ix_frz (k := 0) _ (by rw [hcs]; rfl)
  have g3 : ∀ (j : Nat) (w : List Nat) (st : Stt), (lnB b 0)[j]? = some w → opIx (.frz ((allL n b).map D.str)) (.int ((j + 1 : Nat) : Int)) st = some (.ok (.str w), st) := fun j w st h => ix_frz (k := j + 1) _ (by rw [hcs, List.getElem?_cons_succ, List.getElem?_map, h]; rfl)
  have g4 : ∀ st, bLen (.frz ((allL n b).map D.str)) st = some (.ok (.int (((lnB b 0).length + 1 : Nat) : Int)), st) := fun st => by
    simp only [bLen, hcs, List.length_cons, List.length_map]
  generalize D.frz ((allL n b).map D.str) = LN at f3 g1 g2 g3 g4
  have s0 : b_parse_program_0 (CX (M + 6)) [some (.str pg), none, none, none, none, none, none] [] = some (.nx, [some (.str pg), some pcs, none, none, none, none, none], []) := by
    refine set_run ?_ (by show 1 < 7; decide)
    unfold eMt1
    rw [bnd_ok (a := .str pg) (st1 := []) rfl, bnd_ok (a := ()) (st1 := []) rfl, bnd_ok (a := .str [10]) (st1 := []) rfl]
    exact f1
  have s1 : b_parse_program_1 (CX (M + 6)) [some (.str pg), some pcs, none, none, none, none, none] [] = some (.nx, [some (.str pg), some pcs, some LN, none, none, none, none], []) :=
    set_run (f3 (var_run rfl)) (by show 2 < 7; decide)
  have t2 : (cB (eBin opNe (eVar 2) (eLstF lNil))) (CX (M + 6)) [some (.str pg), some pcs, some LN, none, none, none, none] [] = some (.ok true, []) :=
    cB_run (bin_run (x := LN) (y := .frz []) (var_run rfl) rfl g1)
  have s2 : b_parse_program_2 (CX (M + 6)) [some (.str pg), some pcs, some LN, none, none, none, none] [] = some (.nx, [some (.str pg), some pcs, some LN, some (.frz [.str w_names, .str (dg n)]), none, none, none], []) := by
    refine set_run ?_ (by show 3 < 7; decide)
    unfold eIf
    rw [bnd_ok t2, if_pos rfl]
    unfold eMt1
    have hx : (eBin opIx (eVar 2) (eC (.int 0))) (CX (M + 6)) [some (.str pg), some pcs, some LN, none, none, none, none] [] = some (.ok (.str (w_names_32_ ++ dg n)), []) := bin_run (x := LN) (y := .int 0) (var_run rfl) rfl g2
    rw [bnd_ok hx, bnd_ok (a := ()) (st1 := []) rfl, bnd_ok (a := .str [32]) (st1 := []) rfl]
    have : (w_names_32_ ++ dg n).length + 2 < lim := by rw [lim_eq]; show 6 + 1 + 2 < _; decide
    simp only [mSplit, this, if_true, names_split]; rfl
  have s3 : b_parse_program_3 (CX (M + 6)) [some (.str pg), some pcs, some LN, some (.frz [.str w_names, .str (dg n)]), none, none, none] [] = some (.nx, [some (.str pg), some pcs, some LN, some (.frz [.str w_names, .str (dg n)]), some (.int (n : Int)), none, none], []) := by
    refine set_run ?_ (by show 4 < 7; decide)
    have c1 : (cB (eBin opEq (eUn bLen (eVar 3)) (eC (.int 2)))) (CX (M + 6)) [some (.str pg), some pcs, some LN, some (.frz [.str w_names, .str (dg n)]), none, none, none] [] = some (.ok true, []) :=
      cB_run (bin_run (x := .int 2) (y := .int 2) (st1 := []) (st2 := []) rfl rfl (by kernel_rfl))
    have c2 : (cB (eBin opEq (eBin opIx (eVar 3) (eC (.int 0))) (eC (.str w_names)))) (CX (M + 6)) [some (.str pg), some pcs, some LN, some (.frz [.str w_names, .str (dg n)]), none, none, none] [] = some (.ok true, []) :=
      cB_run (bin_run (x := .str w_names) (y := .str w_names) (st1 := []) (st2 := []) rfl rfl (by kernel_rfl))
    have c3 := and_run c1 c2
    rw [show (true && true) = true from rfl] at c3
    unfold eIf
    rw [bnd_ok c3, if_pos rfl]
    exact call_run (lcons_run (x := .str (dg n)) rfl lnil_run) (number_run (by omega) (M + 5) _)
  have s4 : b_parse_program_4 (CX (M + 6)) [some (.str pg), some pcs, some LN, some (.frz [.str w_names, .str (dg n)]), some (.int (n : Int)), none, none] [] = some (.nx, [some (.str pg), some pcs, some LN, some (.frz [.str w_names, .str (dg n)]), some (.int (n : Int)), none, none], []) := by
    have c2 : (cB (eChain opLe opLe (eC (.int 1)) (eVar 4) (eC (.int 4)))) (CX (M + 6)) [some (.str pg), some pcs, some LN, some (.frz [.str w_names, .str (dg n)]), some (.int (n : Int)), none, none] [] = some (.ok true, []) := by
      match n, hn0, hn with
      | 1, _, _ => rfl
      | 2, _, _ => rfl
      | 3, _, _ => rfl
      | 4, _, _ => rfl
    exact if_f (or_run (x := false) (cB_run (un_run (var_run rfl) rfl)) (not_run (b := true) c2))
  have s5 : b_parse_program_5 (CX (M + 6)) [some (.str pg), some pcs, some LN, some (.frz [.str w_names, .str (dg n)]), some (.int (n : Int)), none, none] [] = some (.nx, [some (.str pg), some pcs, some LN, some (.frz [.str w_names, .str (dg n)]), some (.int (n : Int)), some (.loc 0), none], [rdO n 4 0 0, obO 2 3 .no, .lst [], .lst [], .lst [.loc 1]]) :=
    set_run (make_reader _ _ _ _ n M) (by show 5 < 7; decide)
  obtain ⟨s', rds, hN⟩ := read_all ho hl8 hc hs
  obtain ⟨σ, σ0, σ1, σs⟩ := rds.row
  obtain ⟨x6, ls6, st6, s6, R6⟩ := parse_loop (M := M) (L := 0) hn (a0 := some (.str pg)) (a1 := some pcs) (a3 := some (.frz [.str w_names, .str (dg n)])) (a4 := some (.int (n : Int))) (LN := LN) hln g3 g4 σs (by rw [σ0]; exact rep0 n)
  rw [σ1] at R6
  obtain ⟨st7, s78⟩ := parse_end (M := M) (a0 := some (.str pg)) (a2 := some LN) (a3 := some (.frz [.str w_names, .str (dg n)])) (x6 := x6) f2 R6 hN
  have lf2 : D.lf (prD n b) = true := prD_lf n b
  refine pure_tup (env' := [some (.str pg), some pcs, some LN, some (.frz [.str w_names, .str (dg n)]), some (.int (n : Int)), some (.loc 0), x6]) (st' := st7) fn_prs (by decide) rfl rfl ?_ (fun _ z => by cases z) lf2
  exact (seq_nx s0).trans ((seq_nx s1).trans ((seq_nx s2).trans ((seq_nx s3).trans ((seq_nx s4).trans ((seq_nx s5).trans ((seq_nx s6).trans s78))))))
end MI

set_option autoImplicit false
set_option maxRecDepth 100000
set_option linter.all false
/-! E14: repr of programs. -/
namespace MI
open PySem
def PlS (t : Str) : Prop := ∀ c ∈ t.cps.toList, c < 128
theorem PlS.app {a b : Str} (ha : PlS a) (hb : PlS b) : PlS (a ++ b) := by
  intro c hc
  have e : (a ++ b).cps.toList = a.cps.toList ++ b.cps.toList := by
    show (a.cps ++ b.cps).toList = _
    exact Array.toList_append
  rw [e] at hc
  rcases List.mem_append.mp hc with h | h
  · exact ha c h
  · exact hb c h
theorem PlS.join {sep : Str} (hs : PlS sep) : ∀ {ts : List Str}, (∀ t ∈ ts, PlS t) → PlS (Str.join sep ts)
  | [], _ => by intro c hc; exact absurd hc (by simp [Str.join, Str.empty])
  | [x], h => h x (by simp)
  | x :: y :: r, h => by
    show PlS (x ++ sep ++ Str.join sep (y :: r))
    exact ((h x (by simp)).app hs).app (PlS.join hs fun t ht => h t (by simp [ht]))
theorem pl_tuple {ts : List Str} (h : ∀ t ∈ ts, PlS t) : PlS (tupleText ts) := by
  unfold tupleText
  refine (PlS.app (PlS.app ?_ (PlS.join ?_ h)) ?_)
  · unfold PlS; decide +kernel
  · unfold PlS; decide +kernel
  · split <;> (unfold PlS; decide +kernel)
mutual
def smp : D → Bool
  | .int i => decide (0 ≤ i ∧ i < 10)
  | .str s => [w_fresh, w_give, w_change, w_look, w_loop, w_choose].contains s
  | .tup l => smpL l
  | _ => false
def smpL : List D → Bool
  | [] => true
  | x :: xs => smp x && smpL xs
end
theorem int_dg {i : Int} (h : 0 ≤ i ∧ i < 10) : ∃ x : Nat, x < 10 ∧ i = (x : Int) := ⟨i.toNat, by omega, by omega⟩
mutual
theorem smp_shw : ∀ d : D, smp d = true → D.shw d = true
  | .int i, h => by
    simp only [smp, decide_eq_true_eq] at h
    obtain ⟨x, hx, rfl⟩ := int_dg h
    simp only [D.shw, decide_eq_true_eq]
    exact log_dg x hx
  | .str s, _ => by simp [D.shw]
  | .tup l, h => by
    simp only [smp] at h
    simp only [D.shw]
    exact smpL_shw l h
  | .non, h => by simp [smp] at h
  | .bl _, h => by simp [smp] at h
  | .loc _, h => by simp [smp] at h
  | .frz _, h => by simp [smp] at h
  | .xtup _, h => by simp [smp] at h
theorem smpL_shw : ∀ l : List D, smpL l = true → D.shwL l = true
  | [], _ => rfl
  | x :: xs, h => by
    simp only [smpL, Bool.and_eq_true] at h
    simp only [D.shwL, smp_shw x h.1, smpL_shw xs h.2, Bool.and_self]
end
theorem pl_int : ∀ x : Nat, x < 10 → PlS (PyData.shown (.int (x : Int))) := by
  have : ∀ x : Fin 10, PlS (PyData.shown (.int (x.val : Int))) := by unfold PlS; decide +kernel
  exact fun x hx => this ⟨x, hx⟩
theorem pl_word : ∀ w ∈ [w_fresh, w_give, w_change, w_look, w_loop, w_choose], PlS (PyData.shown (.str ⟨w.toArray⟩)) := by unfold PlS; decide +kernel
mutual
theorem smp_pl : ∀ d : D, smp d = true → PlS (toPyN d).shown
  | .int i, h => by
    simp only [smp, decide_eq_true_eq] at h
    obtain ⟨x, hx, rfl⟩ := int_dg h
    exact pl_int x hx
  | .str s, h => by
    simp only [smp] at h
    exact pl_word s (List.contains_iff_mem.mp h)
  | .tup l, h => by
    simp only [smp] at h
    exact pl_tuple (smpL_pl l h)
  | .non, h => by simp [smp] at h
  | .bl _, h => by simp [smp] at h
  | .loc _, h => by simp [smp] at h
  | .frz _, h => by simp [smp] at h
  | .xtup _, h => by simp [smp] at h
theorem smpL_pl : ∀ l : List D, smpL l = true → ∀ t ∈ PyData.shownAll (toPyNs l), PlS t
  | [], _ => by intro t ht; simp [toPyNs, PyData.shownAll] at ht
  | x :: xs, h => by
    simp only [smpL, Bool.and_eq_true] at h
    intro t ht
    simp only [toPyNs, PyData.shownAll, List.mem_cons] at ht
    rcases ht with rfl | ht
    · exact smp_pl x h.1
    · exact smpL_pl xs h.2 t ht
end
theorem smp_i {x : Nat} (h : x < 10) : smp (.int (x : Int)) = true := by
  simp only [smp, decide_eq_true_eq]; omega
theorem lg_dg : ∀ x : Nat, x < 10 → ((x : Int)).natAbs.log2 ≤ 3 := by
  have : ∀ y : Fin 10, ((y.val : Int)).natAbs.log2 ≤ 3 := by decide +kernel
  exact fun x hx => this ⟨x, hx⟩
theorem pl_smp {n : Nat} (hn : n ≤ 4) {p : Pl} (h : p.ok n) : smp p.d = true ∧ D.cost p.d + 2 ≤ 100 * 1 := by
  match p, h with
  | .fresh x, h =>
    have hx : x < n := h
    have lg := lg_dg x (by omega)
    refine ⟨?_, ?_⟩
    · show (smp (.str w_fresh) && (smp (.int (x : Int)) && true)) = true
      rw [smp_i (by omega)]; decide +kernel
    · show (10 * w_fresh.length + 2 + 2 + ((x : Int).natAbs.log2 + 2 + 2 + 0)) + 3 + 2 ≤ 100 * 1
      have : w_fresh.length = 5 := rfl
      omega
  | .give l x y, h =>
    obtain ⟨hx, hy, _, hl⟩ := h
    have lg := lg_dg x (by omega)
    have lg2 := lg_dg y (by omega)
    have lg3 := lg_dg l (by omega)
    refine ⟨?_, ?_⟩
    · show (smp (.str w_give) && (smp (.int (l : Int)) && (smp (.int (x : Int)) && (smp (.int (y : Int)) && true)))) = true
      rw [smp_i (by omega), smp_i (by omega), smp_i (by omega)]; decide +kernel
    · show (10 * w_give.length + 2 + 2 + ((l : Int).natAbs.log2 + 2 + 2 + ((x : Int).natAbs.log2 + 2 + 2 + ((y : Int).natAbs.log2 + 2 + 2 + 0)))) + 3 + 2 ≤ 100 * 1
      have : w_give.length = 4 := rfl
      omega
  | .change l x m, h =>
    obtain ⟨hx, hl, hm⟩ := h
    have lg := lg_dg x (by omega)
    have lg2 := lg_dg m (by omega)
    have lg3 := lg_dg l (by omega)
    refine ⟨?_, ?_⟩
    · show (smp (.str w_change) && (smp (.int (l : Int)) && (smp (.int (x : Int)) && (smp (.int (m : Int)) && true)))) = true
      rw [smp_i (by omega), smp_i (by omega), smp_i (by omega)]; decide +kernel
    · show (10 * w_change.length + 2 + 2 + ((l : Int).natAbs.log2 + 2 + 2 + ((x : Int).natAbs.log2 + 2 + 2 + ((m : Int).natAbs.log2 + 2 + 2 + 0)))) + 3 + 2 ≤ 100 * 1
      have : w_change.length = 6 := rfl
      omega
mutual
theorem smp_S {n : Nat} (hn : n ≤ 4) : ∀ (s : Stm) (d : Nat), s.ok n d → smp s.d = true ∧ D.cost s.d + 2 ≤ 100 * s.cnt
  | .br lp bs, 0, h => h.elim
  | .br true bs, d + 1, h => by
    have h1 := smp_Bs hn bs d h.2.2
    have h3 := h.2.1
    refine ⟨?_, ?_⟩
    · show (smp (.str w_loop) && smpL (bsL bs)) = true
      rw [h1.1]; decide +kernel
    · show (10 * w_loop.length + 2 + 2 + D.costL (bsL bs)) + 3 + 2 ≤ 100 * (1 + cntBs bs)
      have : w_loop.length = 4 := rfl
      omega
  | .br false bs, d + 1, h => by
    have h1 := smp_Bs hn bs d h.2.2
    have h3 := h.2.1
    refine ⟨?_, ?_⟩
    · show (smp (.str w_choose) && (smpL (bsL bs) && true)) = true
      rw [h1.1]; decide +kernel
    · show (10 * w_choose.length + 2 + 2 + ((D.costL (bsL bs) + 3) + 2 + 0)) + 3 + 2 ≤ 100 * (1 + cntBs bs)
      have : w_choose.length = 6 := rfl
      omega
  | .pl p, d, h => pl_smp hn (ok1 h)
  | .look x, d, h => by
    have hx : x < n := ok2' h
    have lg := lg_dg x (by omega)
    refine ⟨?_, ?_⟩
    · show (smp (.str w_look) && (smp (.int (x : Int)) && true)) = true
      rw [smp_i (by omega)]; decide +kernel
    · show (10 * w_look.length + 2 + 2 + ((x : Int).natAbs.log2 + 2 + 2 + 0)) + 3 + 2 ≤ 100 * 1
      have : w_look.length = 4 := rfl
      omega
theorem smp_B {n : Nat} (hn : n ≤ 4) : ∀ (b : List Stm) (d : Nat), okB n d b → smpL (blL b) = true ∧ D.costL (blL b) ≤ 100 * cntB b
  | [], _, _ => ⟨rfl, by simp [blL, D.costL]⟩
  | s :: r, d, h => by
    have h1 := smp_S hn s d h.1
    have h2 := smp_B hn r d h.2
    refine ⟨by simp only [blL, smpL, h1.1, h2.1, Bool.and_self], ?_⟩
    simp only [blL, D.costL, cntB]; omega
theorem smp_Bs {n : Nat} (hn : n ≤ 4) : ∀ (bs : List (List Stm)) (d : Nat), okBs n d bs → smpL (bsL bs) = true ∧ D.costL (bsL bs) ≤ 5 * bs.length + 100 * cntBs bs
  | [], _, _ => ⟨rfl, by simp [bsL, D.costL]⟩
  | b :: r, d, h => by
    have h1 := smp_B hn b d h.1.2
    have h2 := smp_Bs hn r d h.2
    refine ⟨by simp only [bsL, smpL, smp, h1.1, h2.1, Bool.and_self], ?_⟩
    simp only [bsL, D.costL, D.cost, cntBs, List.length_cons]; omega
end
theorem prog_repr {n d : Nat} {b : List Stm} (hn : n ≤ 4) (ho : okB n d b) (hd : d ≤ 10) (hl : b.length ≤ 100) (hc : cntB b ≤ 1000) : reprOk (prD n b) = true ∧ ∀ c ∈ reprN (prD n b), c < 128 := by
  have h1 := smp_B hn b d ho
  have hs : smp (prD n b) = true := by
    show (smp (.int (n : Int)) && (smpL (blL b) && true)) = true
    rw [smp_i (by omega), h1.1]; rfl
  have lg := lg_dg n (by omega)
  refine ⟨?_, smp_pl _ hs⟩
  unfold reprOk
  have hcost : D.cost (prD n b) ≤ 16777216 := by
    show ((n : Int).natAbs.log2 + 2 + 2 + ((D.costL (blL b) + 3) + 2 + 0)) + 3 ≤ 16777216
    omega
  rw [prD_ok ho hl hd, smp_shw _ hs, decide_eq_true hcost]; rfl
end MI

set_option autoImplicit false
set_option maxRecDepth 100000
set_option linter.all false
/-! E15: the law. -/
namespace MI
open PySem
theorem joinE' {e : SE} {a : List Nat} {c : Ctx} {env : Env} {st st1 : Stt} {y : D} {ws : List (List Nat)} (he : e c env st = some (.ok y, st1)) (hy : seqOf y st1 = some (.ok (ws.map D.str), st1)) (ha : a.length ≤ 1) (hw : ∀ w ∈ ws, w.length ≤ 100) (hl : ws.length ≤ 10000) : eMt1 isStr mJoin (eC (.str a)) e c env st = some (.ok (.str (joinN a ws)), st1) := by
  unfold eMt1
  rw [bnd_ok (a := .str a) (st1 := st) rfl, bnd_ok (a := ()) (st1 := st) rfl, bnd_ok he]
  exact join_run hy ha hw hl
theorem page_run' {c : Ctx} {env : Env} {st st1 : Stt} {e : SE} {q v : Nat} {ls : List (List Nat)} (hc : 500 < c.fuel) (he : e c env st = some (.ok (.loc q), st1)) (hq : st1[q]? = some (.lst (ls.map D.str))) (hv : v < env.length) (hl : ls.length ≤ 401) (ho : ∀ l ∈ ls, LnOk l) :
    eMt1 isStr mJoin (eC (.str w_)) (eCompF [v] (gVar v) (iSeq e) cYes (eBin opAdd (eVar v) (eC (.str w__10_)))) c env st = some (.ok (.str (pageL ls)), st1) := by
  have h1 : eCompF [v] (gVar v) (iSeq e) cYes (eBin opAdd (eVar v) (eC (.str w__10_))) c env st = some (.ok (.frz ((ls.map (· ++ [10])).map D.str)), st1) := by
    refine compF_live (fun l => some (.str (l ++ [10]))) (seq_loc he hq) hq (fun l hm => ?_) (by omega) (by rw [lim_eq]; omega) (by simp [List.filterMap_eq_map, Function.comp_def])
    have hw : v < (wipeE env [v]).length := by simp [wipeE, hv]
    refine compT_y (st1 := st1) hw rfl (bin_run (x := .str l) (var_run (by rw [List.getElem?_set_self hw])) (y := .str [10]) rfl (sadd_run _ ?_))
    have := (ho l hm).1
    rw [lim_eq]; show l.length + 1 < _; omega
  refine joinE' h1 rfl (by decide) (fun w hw => ?_) (by simp; omega)
  obtain ⟨l, hm, rfl⟩ := List.mem_map.mp hw
  have := (ho l hm).1
  rw [List.length_append]; show l.length + 1 ≤ _; omega
theorem page_ok {ls : List (List Nat)} (h : ∀ l ∈ ls, LnOk l) : D.ok deep (.str (pageL ls)) = true := by
  refine str_ok' fun c hc => ?_
  unfold pageL at hc
  rw [joinN_flat] at hc
  obtain ⟨w, hw, hcw⟩ := List.mem_flatten.mp hc
  obtain ⟨l, hl, rfl⟩ := List.mem_map.mp hw
  rcases List.mem_append.mp hcw with h1 | h1
  · exact (h l hl).2.1 c h1
  · have : c = 10 := by simpa using h1
    omega
theorem ne_same {a b : SE} {c : Ctx} {env : Env} {st st1 : Stt} {d : D} (ha : a c env st = some (.ok d, st1)) (hb : b c env st1 = some (.ok d, st1)) (ho : D.ok deep d = true) : (cB (eBin opNe a b)) c env st = some (.ok false, st1) :=
  cB_run (bin_run ha hb (ne_self ho st1))
theorem repr_run {n d : Nat} {b : List Stm} (hn : n ≤ 4) (ho : okB n d b) (hd : d ≤ 10) (hl : b.length ≤ 100) (hc : cntB b ≤ 1000) (st : Stt) : bRepr (prD n b) st = some (.ok (.str (reprN (prD n b))), st) := by
  have h := (prog_repr hn ho hd hl hc).1
  have e : dat (prD n b) st = some (prD n b) := rfl
  unfold bRepr
  simp only [e, h, if_true]
abbrev N0 : Nat := 100
section
variable {xs : List Int} {S : D} {st : Stt}
abbrev e9 (S : D) (x2 x3 x4 x5 x6 x7 x8 : Option D) : Env := [some S, some (.loc 0), x2, x3, x4, x5, x6, x7, x8]
def turnB : SS := (sSeq (sSet 3 (eCall F__law_program (lCons (eVar 1) (lCons (eBin opAdd (eC (.int 1)) (eCall F__law_draw (lCons (eVar 1) (lCons (eC (.int 4)) lNil)))) (lCons (eC (.int 8)) (lCons (eBin opIx (eLstF (lCons (eC (.int 8)) (lCons (eC (.int 30)) lNil))) (eCall F__law_draw (lCons (eVar 1) (lCons (eC (.int 2)) lNil)))) (lCons (eC (.int 11)) lNil)))))))
  (sSeq (sSet 4 (eUn bRepr (eVar 3)))
  (sSeq (sSet 5 (eBin opAdd (eLst (lCons (eBin opAdd (eC (.str w_names_32_)) (eUn bStr (eBin opIx (eVar 3) (eC (.int 0))))) lNil)) (eCall F__law_lines (lCons (eBin opIx (eVar 3) (eC (.int 1))) (lCons (eC (.str w_)) lNil)))))
  (sSeq (sSet 6 (eMt1 isStr mJoin (eC (.str w_)) (eCompF [8] (gVar 8) (iSeq (eVar 5)) cYes (eBin opAdd (eVar 8) (eC (.str w__10_))))))
  (sIf (cOr (cB (eBin opNe (eCall F_format_program (lCons (eVar 3) lNil)) (eVar 6))) (cOr (cB (eBin opNe (eUn bRepr (eCall F_parse_program (lCons (eVar 6) lNil))) (eVar 4))) (cB (eBin opNe (eUn bRepr (eVar 3)) (eVar 4)))))
  (sRet (eC (.bl false)))
  sPass)))))
theorem two_get (m : Nat) (hm : m < 2) : ∃ o : Nat, o ≤ 30 ∧ ([.int 8, .int 30] : List D)[m]? = some (.int ((o : Nat) : Int)) := by
  match m, hm with
  | 0, _ => exact ⟨8, by omega, rfl⟩
  | 1, _ => exact ⟨30, by omega, rfl⟩
theorem ex_pen {a b : Stt} (h : Pen xs a) (e : Ex a b) : Pen xs b := by
  obtain ⟨p, q, h⟩ := h
  have := (List.getElem?_eq_some_iff.mp h).1
  exact ⟨p, q, by rw [e.same 0 this]; exact h⟩
theorem turn_run (hx : xs.length ≤ 63) {x2 x3 x4 x5 x6 x7 x8 : Option D} (hp : Pen xs st) : ∃ y3 y4 y5 y6 st', turnB (CX N0) (e9 S x2 x3 x4 x5 x6 x7 x8) st = some (.nx, e9 S x2 y3 y4 y5 y6 x7 x8, st') ∧ Pen xs st' := by
  obtain ⟨m1, a1, q1, hm1, d1⟩ := draw_at 98 hx (many := 4) (by omega) (by omega) hp
  have p1 := pen_set0 hp a1 q1
  obtain ⟨m2, a2, q2, hm2, d2⟩ := draw_at 98 hx (many := 2) (by omega) (by omega) p1
  have p2 := pen_set0 p1 a2 q2
  generalize (st.set 0 (penO xs a1 q1)) = st1 at p1 d1 d2 p2
  generalize (st1.set 0 (penO xs a2 q2)) = st2 at p2 d2
  obtain ⟨o, ho30, ho⟩ := two_get m2 hm2
  obtain ⟨b, st3, e3, ⟨okb, hl7, hcnt, hsp⟩, p3, _⟩ := program_run hx (n := m1 + 1) (L := 8) (S := o) (P := 11) (by omega) (by omega) (by omega) (by omega) (by omega) p2 (N := N0) (by decide)
  generalize hn : m1 + 1 = n at e3 okb
  have hn4 : n ≤ 4 := by omega
  have hn1 : 1 ≤ n := by omega
  have hb8 : b.length ≤ 8 := by omega
  have c40 : cntB b ≤ 40 := by omega
  have k1 : (eBin opAdd (eC (.int 1)) (eCall F__law_draw (lCons (eVar 1) (lCons (eC (.int 4)) lNil)))) (CX N0) (e9 S x2 x3 x4 x5 x6 x7 x8) st = some (.ok (.int (n : Int)), st1) := by
    refine bin_run (x := .int 1) rfl (call_run (xs := [.loc 0, .int 4]) rfl d1) ?_
    have : (1 : Int) + (m1 : Int) = (n : Int) := by omega
    simp only [opAdd, this]
  have k2 : (eBin opIx (eLstF (lCons (eC (.int 8)) (lCons (eC (.int 30)) lNil))) (eCall F__law_draw (lCons (eVar 1) (lCons (eC (.int 2)) lNil)))) (CX N0) (e9 S x2 x3 x4 x5 x6 x7 x8) st1 = some (.ok (.int (o : Int)), st2) :=
    bin_run (x := .frz [.int 8, .int 30]) rfl (call_run (xs := [.loc 0, .int 2]) rfl d2) (ix_frz _ ho)
  have s3 : (sSet 3 (eCall F__law_program (lCons (eVar 1) (lCons (eBin opAdd (eC (.int 1)) (eCall F__law_draw (lCons (eVar 1) (lCons (eC (.int 4)) lNil)))) (lCons (eC (.int 8)) (lCons (eBin opIx (eLstF (lCons (eC (.int 8)) (lCons (eC (.int 30)) lNil))) (eCall F__law_draw (lCons (eVar 1) (lCons (eC (.int 2)) lNil)))) (lCons (eC (.int 11)) lNil))))))) (CX N0) (e9 S x2 x3 x4 x5 x6 x7 x8) st = some (.nx, e9 S x2 (some (prD n b)) x4 x5 x6 x7 x8, st3) :=
    set_run (call_run (lcons_run (x := .loc 0) rfl (lcons_run k1 (lcons_run (x := .int 8) rfl (lcons_run k2 (lcons_run (x := .int 11) rfl lnil_run))))) e3) (by show 3 < 9; decide)
  have rp := repr_run hn4 okb (by decide) (by omega) (by omega) (b := b)
  have rok : D.ok deep (.str (reprN (prD n b))) = true := str_ok' (prog_repr hn4 okb (by decide) (by omega) (by omega)).2
  generalize reprN (prD n b) = rt at rp rok
  have s4 : (sSet 4 (eUn bRepr (eVar 3))) (CX N0) (e9 S x2 (some (prD n b)) x4 x5 x6 x7 x8) st3 = some (.nx, e9 S x2 (some (prD n b)) (some (.str rt)) x5 x6 x7 x8, st3) :=
    set_run (un_run (x := prD n b) (var_run rfl) (rp st3)) (by show 4 < 9; decide)
  have l1 : (eLst (lCons (eBin opAdd (eC (.str w_names_32_)) (eUn bStr (eBin opIx (eVar 3) (eC (.int 0))))) lNil)) (CX N0) (e9 S x2 (some (prD n b)) (some (.str rt)) x5 x6 x7 x8) st3 = some (.ok (.loc st3.length), st3 ++ [.lst [.str (w_names_32_ ++ dg n)]]) := by
    refine lst_new (lcons_run (bin_run (x := .str w_names_32_) rfl (un_run (x := .int (n : Int)) (bin_run (x := prD n b) (var_run rfl) (y := .int 0) rfl (ix_tup (k := 0) _ rfl)) (bStr_dg (by omega) _)) (sadd_run _ (by show 6 + 1 < lim; decide))) lnil_run) (by show 1 < lim; decide)
  obtain ⟨q, st4, c1, c2, c3, c4⟩ := lln_run hn4 (by decide) okb hb8 (by omega) (N := 99) (by decide) (st3 ++ [.lst [.str (w_names_32_ ++ dg n)]])
  have g0 : st4[st3.length]? = some (.lst [.str (w_names_32_ ++ dg n)]) := by rw [c4.same _ (by simp)]; simp
  have hlen := lnB_len b n 4 0 okb
  have hcall : eCall F__law_lines (lCons (eBin opIx (eVar 3) (eC (.int 1))) (lCons (eC (.str w_)) lNil)) (CX N0) (e9 S x2 (some (prD n b)) (some (.str rt)) x5 x6 x7 x8) (st3 ++ [.lst [.str (w_names_32_ ++ dg n)]]) = some (.ok (.loc q), st4) :=
    call_run (lcons_run (bin_run (x := prD n b) (var_run rfl) (y := .int 1) rfl (ix_tup (k := 1) (d := .tup (blL b)) _ rfl)) (lcons_run (x := .str []) rfl lnil_run)) c1
  have s5 : (sSet 5 (eBin opAdd (eLst (lCons (eBin opAdd (eC (.str w_names_32_)) (eUn bStr (eBin opIx (eVar 3) (eC (.int 0))))) lNil)) (eCall F__law_lines (lCons (eBin opIx (eVar 3) (eC (.int 1))) (lCons (eC (.str w_)) lNil))))) (CX N0) (e9 S x2 (some (prD n b)) (some (.str rt)) x5 x6 x7 x8) st3 = some (.nx, e9 S x2 (some (prD n b)) (some (.str rt)) (some (.loc st4.length)) x6 x7 x8, st4 ++ [.lst ((allL n b).map D.str)]) :=
    set_run (bin_run l1 hcall (ladd_run g0 c2 (by rw [List.length_map, lim_eq]; show 1 + _ < _; omega))) (by show 5 < 9; decide)
  have hall := allL_ok hn4 (by decide) okb
  have p5 : Pen xs (st4 ++ [.lst ((allL n b).map D.str)]) := ex_pen (ex_pen (ex_pen p3 (Ex.push _ _)) c4) (Ex.push _ _)
  have g5 : (st4 ++ [Ob.lst ((allL n b).map D.str)])[st4.length]? = some (.lst ((allL n b).map D.str)) := by simp
  generalize (st4 ++ [Ob.lst ((allL n b).map D.str)]) = st5 at s5 p5 g5
  have s6 : (sSet 6 (eMt1 isStr mJoin (eC (.str w_)) (eCompF [8] (gVar 8) (iSeq (eVar 5)) cYes (eBin opAdd (eVar 8) (eC (.str w__10_)))))) (CX N0) (e9 S x2 (some (prD n b)) (some (.str rt)) (some (.loc st4.length)) x6 x7 x8) st5 = some (.nx, e9 S x2 (some (prD n b)) (some (.str rt)) (some (.loc st4.length)) (some (.str (pageN n b))) x7 x8, st5) :=
    set_run (page_run (by show 500 < 3000; decide) (var_run rfl) g5 (by show 8 < 9; decide) (allL_len okb (by omega)) hall) (by show 6 < 9; decide)
  have pok : D.ok deep (.str (pageN n b)) = true := page_ok hall
  have fr := fmt_run hn4 (by decide) okb hb8 (by omega) (N := 99) (by decide) st5
  have pr := parse_run hn1 hn4 okb hb8 c40 (by omega) 93 st5
  generalize pageN n b = pg at s6 pok fr pr
  have t1 : (cB (eBin opNe (eCall F_format_program (lCons (eVar 3) lNil)) (eVar 6))) (CX N0) (e9 S x2 (some (prD n b)) (some (.str rt)) (some (.loc st4.length)) (some (.str pg)) x7 x8) st5 = some (.ok false, st5) :=
    ne_same (call_run (xs := [prD n b]) rfl fr) (var_run rfl) pok
  have t2 : (cB (eBin opNe (eUn bRepr (eCall F_parse_program (lCons (eVar 6) lNil))) (eVar 4))) (CX N0) (e9 S x2 (some (prD n b)) (some (.str rt)) (some (.loc st4.length)) (some (.str pg)) x7 x8) st5 = some (.ok false, st5) :=
    ne_same (un_run (x := prD n b) (call_run (xs := [.str pg]) rfl pr) (rp st5)) (var_run rfl) rok
  have t3 : (cB (eBin opNe (eUn bRepr (eVar 3)) (eVar 4))) (CX N0) (e9 S x2 (some (prD n b)) (some (.str rt)) (some (.loc st4.length)) (some (.str pg)) x7 x8) st5 = some (.ok false, st5) :=
    ne_same (un_run (x := prD n b) (var_run rfl) (rp st5)) (var_run rfl) rok
  exact ⟨_, _, _, _, st5, (seq_nx s3).trans ((seq_nx s4).trans ((seq_nx s5).trans ((seq_nx s6).trans ((if_f ((or_f2 t1).trans ((or_f2 t2).trans t3))).trans rfl)))), p5⟩
end
def deepB : List Stm := [.br false [[], [.br true [[]]], [.br false [[], [.pl (.give 7 3 0)]]]], .pl (.change 6 2 8)]
theorem deep_ok : okB 4 4 deepB := by
  simp [deepB, okB, okBs, Stm.ok, Pl.ok]
theorem pen_at (xs : List Int) (hx : xs.length ≤ 63) : prog.call 3000 100 F__law_pen [.frz (xs.map D.int)] [] = some (.ok (.loc 0), [penO xs 0 0]) := by
  rw [call_np (n := 99) fn_pen (by decide)]
  exact run_rt rfl (by rw [eq_pen]; exact pen_run _ xs hx)
theorem pure77 (ns : List Int) (hl : ns.length ≤ 63) : ∃ st, (⟨1, 9, b_law⟩ : Fn).run (CX 100) [.frz (ns.map D.int)] [] = some (.ok (.bl true), st) := by
  have a0 : b_law_0 (CX N0) [some (.frz (ns.map D.int)), none, none, none, none, none, none, none, none] [] = some (.nx, e9 (.frz (ns.map D.int)) none none none none none none none, [penO ns 0 0]) :=
    set_run (call_run (xs := [.frz (ns.map D.int)]) rfl (pen_at ns hl)) (by show 1 < 9; decide)
  generalize D.frz (ns.map D.int) = S at a0
  obtain ⟨env', st1, e1, x2, x3, x4, x5, x6, rfl, hp⟩ := for_inv (g := gVar 2) (b := turnB) (c := CX N0) (fun i env st' => ∃ x2 x3 x4 x5 x6, env = e9 S x2 x3 x4 x5 x6 none none ∧ Pen ns st') (range1_run (a := eC (.int 5)) (n := 5) (st := [penO ns 0 0]) (env := e9 S none none none none none none none) rfl (by decide)) ⟨_, _, _, _, _, rfl, ⟨0, 0, rfl⟩⟩ (by rw [List.length_map, List.length_range]; show 5 < 3000; omega) (by
    rintro i d env st' hd ⟨x2, x3, x4, x5, x6, rfl, hp⟩
    obtain ⟨y3, y4, y5, y6, st4, e4, h4⟩ := turn_run (S := S) (x2 := some d) (x3 := x3) (x4 := x4) (x5 := x5) (x6 := x6) (x7 := none) (x8 := none) hl hp
    exact ⟨_, st4, turn_var (by show 2 < 9; decide) e4, some d, y3, y4, y5, y6, rfl, h4⟩)
  have e1' : b_law_1 (CX N0) (e9 S none none none none none none none) [penO ns 0 0] = some (.nx, e9 S x2 x3 x4 x5 x6 none none, st1) := e1
  have s2 : b_law_2 (CX N0) (e9 S x2 x3 x4 x5 x6 none none) st1 = some (.nx, e9 S x2 x3 x4 x5 x6 (some (prD 4 deepB)) none, st1) := rfl
  have hcnt : cntB deepB ≤ 40 := by decide
  have hsp : spB deepB ≤ 12 := by decide
  obtain ⟨q, st2, c1, c2, c3, c4⟩ := lln_run (n := 4) (by decide) (by decide) deep_ok (by decide) (by omega) (N := 99) (by decide) st1
  have hcall : eCall F__law_lines (lCons (eBin opIx (eVar 7) (eC (.int 1))) (lCons (eC (.str w_)) lNil)) (CX N0) (e9 S x2 x3 x4 x5 x6 (some (prD 4 deepB)) none) st1 = some (.ok (.loc q), st2) :=
    call_run (lcons_run (bin_run (x := prD 4 deepB) (var_run rfl) (y := .int 1) rfl (ix_tup (k := 1) (d := .tup (blL deepB)) _ rfl)) (lcons_run (x := .str []) rfl lnil_run)) c1
  have hall := allL_ok (n := 4) (by decide) (by decide) deep_ok
  have hlb : ∀ l ∈ lnB deepB 0, LnOk l := fun l h => hall l (List.mem_cons_of_mem _ h)
  have hpg : w_names_32_4_10_ ++ pageL (lnB deepB 0) = pageN 4 deepB := by
    unfold pageN pageL allL
    rw [joinN_flat, joinN_flat]; rfl
  have hpl := page_len hlb
  have hll := lnB_len deepB 4 4 0 deep_ok
  have s3 : b_law_3 (CX N0) (e9 S x2 x3 x4 x5 x6 (some (prD 4 deepB)) none) st1 = some (.nx, e9 S x2 x3 x4 x5 (some (.str (pageN 4 deepB))) (some (prD 4 deepB)) none, st2) := by
    refine set_run ?_ (by show 6 < 9; decide)
    rw [← hpg]
    exact bin_run (x := .str w_names_32_4_10_) rfl (page_run' (by show 500 < 3000; decide) hcall c2 (by show 8 < 9; decide) (by omega) hlb) (sadd_run _ (by rw [lim_eq]; show 8 + _ < _; omega))
  have pok : D.ok deep (.str (pageN 4 deepB)) = true := page_ok hall
  have fr := fmt_run (n := 4) (by decide) (by decide) deep_ok (by decide) (by omega) (N := 99) (by decide) st2
  have pr := parse_run (n := 4) (by decide) (by decide) deep_ok (by decide) hcnt hsp 93 st2
  generalize pageN 4 deepB = pg at s3 pok fr pr
  have t1 : (cB (eBin opNe (eCall F_format_program (lCons (eVar 7) lNil)) (eVar 6))) (CX N0) (e9 S x2 x3 x4 x5 (some (.str pg)) (some (prD 4 deepB)) none) st2 = some (.ok false, st2) :=
    ne_same (call_run (xs := [prD 4 deepB]) rfl fr) (var_run rfl) pok
  have t2 : (cB (eBin opNe (eCall F_parse_program (lCons (eVar 6) lNil)) (eVar 7))) (CX N0) (e9 S x2 x3 x4 x5 (some (.str pg)) (some (prD 4 deepB)) none) st2 = some (.ok false, st2) :=
    ne_same (call_run (xs := [.str pg]) rfl pr) (var_run rfl) (prD_ok deep_ok (by decide) (by decide))
  have s4 : b_law_4 (CX N0) (e9 S x2 x3 x4 x5 (some (.str pg)) (some (prD 4 deepB)) none) st2 = some (.nx, e9 S x2 x3 x4 x5 (some (.str pg)) (some (prD 4 deepB)) none, st2) := if_f ((or_f2 t1).trans t2)
  have f1 := fmt_run (n := 1) (b := []) (d := 4) (by decide) (by decide) trivial (by decide) (by decide) (N := 99) (by decide) st2
  have f3 := parse_run (n := 3) (b := []) (by decide) (by decide) trivial (by decide) (by decide) (by decide) 93 st2
  have u1 : (eBin opEq (eCall F_format_program (lCons (eTup (lCons (eC (.int 1)) (lCons (eTup lNil) lNil))) lNil)) (eC (.str w_names_32_1_10_))) (CX N0) (e9 S x2 x3 x4 x5 (some (.str pg)) (some (prD 4 deepB)) none) st2 = some (.ok (.bl true), st2) :=
    bin_run (call_run (xs := [prD 1 []]) rfl f1) (y := .str w_names_32_1_10_) rfl (by kernel_rfl)
  have u2 : (eBin opEq (eCall F_parse_program (lCons (eC (.str w_names_32_3_10_)) lNil)) (eTup (lCons (eC (.int 3)) (lCons (eTup lNil) lNil)))) (CX N0) (e9 S x2 x3 x4 x5 (some (.str pg)) (some (prD 4 deepB)) none) st2 = some (.ok (.bl true), st2) :=
    bin_run (call_run (xs := [.str w_names_32_3_10_]) rfl f3) (y := .tup [.int 3, .tup []]) rfl (by kernel_rfl)
  have s5 : b_law_5 (CX N0) (e9 S x2 x3 x4 x5 (some (.str pg)) (some (prD 4 deepB)) none) st2 = some (.rt (.bl true), e9 S x2 x3 x4 x5 (some (.str pg)) (some (prD 4 deepB)) none, st2) := by
    refine ret_run ?_
    unfold eAnd
    rw [bnd_ok u1]
    exact u2
  exact ⟨st2, fr_rt rfl rfl ((seq_nx a0).trans ((seq_nx e1').trans ((seq_nx s2).trans ((seq_nx s3).trans ((seq_nx s4).trans s5)))))⟩
end MI

theorem PySem.Challenge.cw_copyplaces_k77_programs_written_and_read_holds : PySem.Challenge.rw_copyplaces_k77_programs_written_and_read.Holds := by
  exact Dv.law_holds fun ns hl => MI.pure77 ns hl
